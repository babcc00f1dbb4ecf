/- Parts. -/
import Derived.Test.YtdjppepcckedkaaGreatDoorBbG
set_option linter.all false
set_option maxRecDepth 100000
set_option maxHeartbeats 8000000
namespace Go.Proofs.YtdjppepcckedkaaGreatDoor
open Go Go.RowKit Go.Proofs.Tryz

theorem jxo {x y:Rat} {k m:Nat} (hx:x.den≤10^k) (hy:y.den≤10^m):(x+y).den≤10^(k+m):=by
 rw [Rq.add_eq,show ((x.den:Int)*(y.den:Int))=((x.den*y.den:Nat):Int) by rw [Int.natCast_mul],Nat.pow_add];exact Nat.le_trans (jhY (Nat.mul_pos x.den_pos y.den_pos)).2 (Nat.mul_le_mul hx hy)
theorem jwH {x y:Rat} {k m:Nat} (hx:x.den≤10^k) (hy:y.den≤10^m):(x*y).den≤10^(k+m):=by
 rw [Rq.mul_eq,show ((x.den:Int)*(y.den:Int))=((x.den*y.den:Nat):Int) by rw [Int.natCast_mul],Nat.pow_add];exact Nat.le_trans (jhY (Nat.mul_pos x.den_pos y.den_pos)).2 (Nat.mul_le_mul hx hy)
theorem jwC {x y:Rat} {k m:Nat} (hx:x.den≤10^k) (hy:y.den≤10^m):(x - y).den≤10^(k+m):=by
 rw [Rat.sub_eq_add_neg];exact jxo hx (by rw [Rat.neg_den];exact hy)
theorem jxl {x:Rat} {p k:Nat} {c:Nat} (h0:0≤x) (h1:x≤((c:Nat):Rat)) (hc:c≤10^p) (hx:x.den≤10^k):x.num.natAbs≤10^(p+k):=by
 have h2:=(Rat.le_iff _ _).1 h1;rw [Rat.den_natCast,Rat.num_natCast] at h2;have h3:0≤x.num:=Rat.num_nonneg.2 h0;have h4:(x.num.natAbs:Int)≤((c*x.den:Nat):Int):=by rw [Int.natAbs_of_nonneg h3,Int.natCast_mul];simpa using h2
 rw [Nat.pow_add];exact Nat.le_trans (Int.ofNat_le.1 h4) (Nat.mul_le_mul hc hx)
theorem jxp {z:Rat} {k:Nat} (h0:0 < z) (h1:z≤100) (hz:z.den≤10^k):(z⁻¹).den≤10^(2+k):=by
 have h2:=jxl (p:=2) (c:=100) (Rat.le_of_lt h0) h1 (by decide) hz
 have h3:0 < z.num:=by
  have e1:=Rat.num_nonneg.2 (Rat.le_of_lt h0);have e2:z.num≠0:=fun e=>by rw [Rat.num_eq_zero.1 e] at h0;exact absurd h0 (by decide)
  omega
 rw [Rat.inv_def,show z.num=((z.num.natAbs:Nat):Int) by rw [Int.natAbs_of_nonneg (by omega)]];exact Nat.le_trans (jhY (by omega)).2 h2
theorem IsNum.dd {l:List UInt8} {x:Rat} {k:Nat} (h:IsNum l x) (hl:l.length≤k+2):x.den≤10^k:=by
 have h1:=jdX x
 have h2:(uq x).length≤l.length:=by
  rw [h.1,jcP];split
  ·simp
  ·exact Nat.le_refl _
 by_cases e:x.den=1
 ·rw [e];exact Nat.pow_pos (by omega)
 ·rw [if_neg e] at h1;obtain ⟨_,_,_,h3⟩:=jcy x.num.natAbs;exact Nat.le_trans (Nat.le_of_lt (jeT x.den)) (jbM (by omega))
noncomputable def tT (x y:Rat) (b:Bd):Rat:=if jwy y (numQ b.1) < jwr x (numQ b.2.1) then ((100 - jwr x (numQ b.2.1))⁻¹ - (100 - jwy y (numQ b.1))⁻¹)*numQ b.2.2 else 0
noncomputable def tS (x y:Rat) (ls:List Bd):Nat→Rat
 | 0=>0
 | i+1=>tS x y ls i+tT x y (ls.getD i ([],[],[]))
theorem jxC {mass:Int} {x y:Rat} {b:Bd}:enT mass x y b=((mass:Rat)*(100 - x))*tT x y b:=by
 unfold enT tT;split
 ·grind
 ·grind
theorem jwA {mass:Int} {x y:Rat} {ls:List Bd}:∀i,enS mass x y ls i=((mass:Rat)*(100 - x))*tS x y ls i
 | 0=>by show (0:Rat)=_*0;grind
 | i+1=>by
   show enS mass x y ls i+_=_*(tS x y ls i+_)
   rw [jwA i,jxC];grind
theorem jxA {z a:Rat} (h:0 < a) (h2:z≤a):z*a⁻¹≤1:=by
 have h1:a*a⁻¹=1:=by grind
 have h3:0 < a⁻¹:=Rat.inv_pos.2 h;have:=Rat.mul_le_mul_of_nonneg_right h2 (Rat.le_of_lt h3)
 grind
theorem jxE {a b:Rat} (ha:0 < a) (h:a≤b):b⁻¹≤a⁻¹:=by
 have h3:0 < a⁻¹:=Rat.inv_pos.2 ha;have hb:0 < b:=by grind
 have h4:0 < b⁻¹:=Rat.inv_pos.2 hb;have h1:a*a⁻¹=1:=by grind
 have h2:b*b⁻¹=1:=by grind
 have h5:=Rat.mul_le_mul_of_nonneg_right (Rat.mul_le_mul_of_nonneg_right h (Rat.le_of_lt h4)) (Rat.le_of_lt h3);rwa [show a*b⁻¹*a⁻¹=b⁻¹ by grind,show b*b⁻¹*a⁻¹=a⁻¹ by grind] at h5
theorem jxs {k:Nat} {x:Rat} (h:Dz k x) (h0:0≤x):x≤((10^k:Nat):Rat):=by
 rw [Rat.le_iff,Rat.den_natCast,Rat.num_natCast];have h1:=h.num;have h3:0≤x.num:=Rat.num_nonneg.2 h0;have h4:(x.num.natAbs:Int)=x.num:=Int.natAbs_of_nonneg h3;have h5:10^k≤10^k*x.den:=Nat.le_mul_of_pos_right _ x.den_pos;have h6:(x.num.natAbs:Int)≤((10^k*x.den:Nat):Int):=Int.ofNat_le.2 (by omega);rw [h4,Int.natCast_mul] at h6;simpa using h6
theorem jxJ {x y p q v:Rat} {b:Bd} (o:BdOk 30 b p q v) (hx0:0≤x) (hx:x < 100) (hy:0≤y) (dx:x.den≤10^28) (dy:y.den≤10^28) (dp:p.den≤10^28) (dq:q.den≤10^28) (dv:v.den≤10^28):
  0≤(100 - x)*tT x y b∧(100 - x)*tT x y b≤((10^30:Nat):Rat)∧(tT x y b).den≤10^88:=by
 have hv:=jxs o.d2 o.v0;unfold tT;rw [o.n0,o.n1,o.n2];split
 ·rename_i hc
  have h1:jwr x q≤x:=jwM x q;have h2:0≤jwr x q:=by have:=o.p0;have:=o.pq;unfold jwr;split <;> grind
  have h3:0≤jwy y p:=by have:=o.p0;unfold jwy;split <;> grind
  have d1:(jwr x q).den≤10^28:=by unfold jwr;split <;> assumption
  have d2:(jwy y p).den≤10^28:=by unfold jwy;split <;> assumption
  obtain ⟨a,ha⟩:∃a,jwr x q=a:=⟨_,rfl⟩;obtain ⟨c,hc2⟩:∃a,jwy y p=a:=⟨_,rfl⟩;rw [ha] at h1 h2 d1 hc ⊢;rw [hc2] at h3 d2 hc ⊢;have z1:0 < 100 - a:=by grind
  have z2:0 < 100 - c:=by grind
  have z3:=jxA (z:=100 - x) z1 (by grind);have z4:=jxE z1 (b:=100 - c) (by grind);have z5:0 < (100 - c)⁻¹:=Rat.inv_pos.2 z2;have z6:0≤(100 - x)*((100 - a)⁻¹ - (100 - c)⁻¹):=Rat.mul_nonneg (by grind) (by grind);have z7:0 < (100 - x)*(100 - c)⁻¹:=Rat.mul_pos (by grind) z5;have z8:(100 - x)*((100 - a)⁻¹ - (100 - c)⁻¹)≤1:=by grind
  have hv0:=o.v0;obtain ⟨s,hs⟩:∃s,(100 - a)⁻¹ - (100 - c)⁻¹=s:=⟨_,rfl⟩;have e1:=jxp z1 (by grind) (jwC (x:=100) (k:=0) (by decide+kernel) d1);have e2:=jxp z2 (by grind) (jwC (x:=100) (k:=0) (by decide+kernel) d2);have e3:=jwH (jwC e1 e2) dv;rw [hs] at z6 z8 e3 ⊢;have z9:=Rat.mul_nonneg z6 hv0;have z10:=Rat.mul_le_mul_of_nonneg_right z8 hv0;refine ⟨by grind, ?_,e3⟩;refine Rat.le_trans ?_ hv
  grind
 ·refine ⟨by grind, ?_,Nat.pow_pos (by omega)⟩;rw [show (100 - x)*(0:Rat)=0 by grind];exact Rat.le_trans o.v0 hv
section
variable {n:Nat} {ls:List Bd} {x y:Rat} {mass:Int}
theorem jxG (hx0:0≤x) (hx:x < 100) (hy:0≤y) (dx:x.den≤10^28) (dy:y.den≤10^28)
  (hB:∀i,i < n→BdOk 30 (ls.getD i ([],[],[])) (numQ (ls.getD i ([],[],[])).1) (numQ (ls.getD i ([],[],[])).2.1) (numQ (ls.getD i ([],[],[])).2.2))
  (hD:∀i,i < n→(numQ (ls.getD i ([],[],[])).1).den≤10^28∧(numQ (ls.getD i ([],[],[])).2.1).den≤10^28∧(numQ (ls.getD i ([],[],[])).2.2).den≤10^28):
  ∀i,i≤n→0≤(100 - x)*tS x y ls i∧(100 - x)*tS x y ls i≤(i:Rat)*((10^30:Nat):Rat)∧(tS x y ls i).den≤10^(88*i)
 | 0,_=>by
   show 0≤(100 - x)*(0:Rat)∧(100 - x)*(0:Rat)≤((0:Nat):Rat)*_∧(0:Rat).den≤_
   refine ⟨by grind, ?_,Nat.le_refl _⟩;rw [show ((0:Nat):Rat)=0 from rfl];grind
 | i+1,hi=>by
   obtain ⟨h1,h2,h3⟩:=jxG hx0 hx hy dx dy hB hD i (by omega);obtain ⟨d1,d2,d3⟩:=hD i (by omega);obtain ⟨g1,g2,g3⟩:=jxJ (hB i (by omega)) hx0 hx hy dx dy d1 d2 d3;show 0≤(100 - x)*(tS x y ls i+tT x y _)∧(100 - x)*(tS x y ls i+tT x y _)≤((i+1:Nat):Rat)*_∧(tS x y ls i+tT x y _).den≤_
   refine ⟨by grind, ?_, ?_⟩
   ·rw [show ((i+1:Nat):Rat)=(i:Rat)+1 by rw [Rat.natCast_add];rfl]
    grind
   ·have:=jxo h3 g3;rwa [show 88*(i+1)=88*i+88 by omega]
theorem jx9 (hn:n≤6) (m1:1≤mass) (m2:mass≤999999999) (hx0:0≤x) (hx:x < 100) (hy:0≤y) (dx:x.den≤10^28) (dy:y.den≤10^28)
  (hB:∀i,i < n→BdOk 30 (ls.getD i ([],[],[])) (numQ (ls.getD i ([],[],[])).1) (numQ (ls.getD i ([],[],[])).2.1) (numQ (ls.getD i ([],[],[])).2.2))
  (hD:∀i,i < n→(numQ (ls.getD i ([],[],[])).1).den≤10^28∧(numQ (ls.getD i ([],[],[])).2.1).den≤10^28∧(numQ (ls.getD i ([],[],[])).2.2).den≤10^28):
  je3 (enS mass x y ls n)=false:=by
 obtain ⟨h1,h2,h3⟩:=jxG hx0 hx hy dx dy hB hD n (Nat.le_refl _);obtain ⟨e,he⟩:∃e,88*n=e:=⟨_,rfl⟩;rw [he] at h3;have d4:=jwH (jwC (x:=100) (k:=0) (by decide+kernel) dx) h3;have d5:=jwH (x:=(mass:Rat)) (k:=0) (by rw [Rat.den_intCast];exact Nat.le_refl _) d4;have e1:((1:Int):Rat)≤(mass:Rat):=Rat.intCast_le_intCast.2 m1;have e2:(mass:Rat)≤((999999999:Int):Rat):=Rat.intCast_le_intCast.2 m2;rw [show ((1:Int):Rat)=1 from rfl] at e1;rw [show ((999999999:Int):Rat)=999999999 from rfl] at e2;have e3:enS mass x y ls n=(mass:Rat)*((100 - x)*tS x y ls n):=by rw [jwA];grind
 have e4:(n:Rat)≤6:=by exact_mod_cast hn
 rw [←e3] at d5;have e5:0≤enS mass x y ls n:=by rw [e3];exact Rat.mul_nonneg (by grind) h1
 have e6:enS mass x y ls n≤((10^40:Nat):Rat):=by
  rw [e3];obtain ⟨t,ht⟩:∃t,(100 - x)*tS x y ls n=t:=⟨_,rfl⟩;obtain ⟨c,hc⟩:∃c,((10^30:Nat):Rat)=c:=⟨_,rfl⟩;have hc0:0≤c:=by rw [←hc];exact_mod_cast Nat.zero_le _
  rw [ht] at h1 h2 ⊢;rw [hc] at h2;have f1:=Rat.mul_le_mul_of_nonneg_right e4 hc0;have f2:=Rat.mul_le_mul_of_nonneg_right e2 h1;have f3:((10^40:Nat):Rat)=10000000000*c:=by rw [←hc];decide+kernel
  rw [f3];grind
 have d6:=jxl e5 e6 (Nat.le_refl _) d5;unfold je3 lng;have hp:∀{a b:Nat},a≤b→10^a < 10^(b+1):=fun h=>Nat.pow_lt_pow_right (by omega) (by omega)
 have a1:=jb0 (Nat.lt_of_le_of_lt d6 (hp (Nat.le_refl _))) (by omega);have a2:=jb0 (Nat.lt_of_le_of_lt d5 (hp (Nat.le_refl _))) (by omega);rw [Int.natAbs_natCast,decide_eq_false (by omega),decide_eq_false (by omega)];rfl
end

structure FC (w:World) (g:Nat) (q:FT):Prop where
 c0:w.cell? ⟨g,0,none⟩=some (.int .i64 q.1.1)
 c1:w.cell? ⟨g,1,none⟩=some (.slice q.1.2.1 q.1.2.2.1 q.1.2.2.2)
 c2:w.cell? ⟨g,2,none⟩=some (.int .i64 q.2.1)
 c3:w.cell? ⟨g,3,none⟩=some (.slice q.2.2.1 q.2.2.2.1 q.2.2.2.2)
 fz:∀o,w.frozen? ⟨g,o,none⟩=false
theorem FC.lt {w:World} {g:Nat} {q:FT} (h:FC w g q):g < w.heap.size:=World.block_lt_of_cell? w _ h.c0
theorem FC.below {w w':World} {g:Nat} {q:FT} (h:FC w g q) (hb:Below w.heap.size w w'):FC w' g q:=
 ⟨ja9 hb h.c0,ja9 hb h.c1,ja9 hb h.c2,ja9 hb h.c3,fun o=>(hb.frozen (p:=⟨g,o,none⟩) h.lt).trans (h.fz o)⟩
theorem FC.set {w:World} {g:Nat} {q:FT} (h:FC w g q) (q':FT):FC (jt4 w g q') g q':=by
 obtain ⟨h0,h1,h2,h3,h4⟩:=h;refine ⟨?_, ?_, ?_, ?_,fun o=> ?_⟩
 all_goals simp [jt4,go_sem,h0,h1,h2,h3,h4]
theorem FC.other {w:World} {g b:Nat} {q q':FT} (h:FC w g q) (hne:g≠b):FC (jt4 w b q') g q:=by
 obtain ⟨h0,h1,h2,h3,h4⟩:=h;have hne':b≠g:=fun e=>hne e.symm
 refine ⟨?_, ?_, ?_, ?_,fun o=> ?_⟩
 all_goals simp [jt4,go_sem,h0,h1,h2,h3,h4,hne,hne']
theorem FC.rep {w:World} {g:Nat} {q q' p:FT} {x:Rat} (h:FC w g q) (r:jlE w p x):jlE (jt4 w g q') p x:=by
 obtain ⟨h0,h1,h2,h3,_⟩:=h;unfold jt4;constructor
 ·exact rP (rP r.1 rfl ⟨⟨_,h0⟩,_,_,_,h1⟩) rfl ⟨⟨q.2.1,by simp [go_sem,h2]⟩,q.2.2.1,q.2.2.2.1,q.2.2.2.2,by simp [go_sem,h3]⟩
 ·exact rP (rP r.2 rfl ⟨⟨_,h0⟩,_,_,_,h1⟩) rfl ⟨⟨q.2.1,by simp [go_sem,h2]⟩,q.2.2.1,q.2.2.2.1,q.2.2.2.2,by simp [go_sem,h3]⟩
theorem FC.made (w:World) (t:TypeId) (s t':Int) (A B:Option Addr) (n c m d:Nat):FC (w.alloc (.cells #[.int .i64 s, .slice A n c, .int .i64 t', .slice B m d] t)) w.heap.size ((s,A,n,c),(t',B,m,d)):=by
 refine ⟨?_, ?_, ?_, ?_,fun o=> ?_⟩
 all_goals simp [go_sem]
section
variable {w W:World} {g b:Nat} {q p:FT} {x:Rat} {s t:Int} {A B:Option Addr} {n c m d:Nat}
theorem FC.setR (h:FC w g q):FC ((((w.setCell ⟨g,0,none⟩ (.int .i64 s)).setCell ⟨g,1,none⟩ (.slice A n c)).setCell ⟨g,2,none⟩ (.int .i64 t)).setCell ⟨g,3,none⟩ (.slice B m d)) g ((s,A,n,c),(t,B,m,d)):=h.set ((s,A,n,c),(t,B,m,d))
theorem FC.otherR (h:FC w g q) (hne:g≠b):FC ((((w.setCell ⟨b,0,none⟩ (.int .i64 s)).setCell ⟨b,1,none⟩ (.slice A n c)).setCell ⟨b,2,none⟩ (.int .i64 t)).setCell ⟨b,3,none⟩ (.slice B m d)) g q:=h.other (q':=((s,A,n,c),(t,B,m,d))) hne
theorem FC.repR (h:FC w g q) (r:jlE w p x):jlE ((((w.setCell ⟨g,0,none⟩ (.int .i64 s)).setCell ⟨g,1,none⟩ (.slice A n c)).setCell ⟨g,2,none⟩ (.int .i64 t)).setCell ⟨g,3,none⟩ (.slice B m d)) p x:=h.rep (q':=((s,A,n,c),(t,B,m,d))) r
theorem jx2 (h:Below W.heap.size W w) (hg:W.heap.size≤g):Below W.heap.size W ((((w.setCell ⟨g,0,none⟩ (.int .i64 s)).setCell ⟨g,1,none⟩ (.slice A n c)).setCell ⟨g,2,none⟩ (.int .i64 t)).setCell ⟨g,3,none⟩ (.slice B m d)):=bC (bC (bC (bC h hg) hg) hg) hg
end

section
variable {w:World} {A:Option Addr} {n c:Nat} {ls:List Bd} {a t:List UInt8} {mass:Int} {x y:Rat}
set_option maxHeartbeats 64000000 in
theorem jwJ {k K:Nat} (hE:Env w) (h:Bv w A n ls) (hn:n≤6) (hn0:0 < n) (hl:∀l∈ls,l.1.length < 4294967281∧l.2.1.length < 4294967281∧l.2.2.length < 4294967281) (h1:jwI ls n=0) (hla:a.length < 4294967281) (hlb:t.length < 4294967281) (hk:jhc mass a t=0) (hxx:numQ a=x) (hyy:numQ t=y) (h0:jwB ls x y=0)
  (hB:∀i,i < n→BdOk 30 (ls.getD i ([],[],[])) (numQ (ls.getD i ([],[],[])).1) (numQ (ls.getD i ([],[],[])).2.1) (numQ (ls.getD i ([],[],[])).2.2)) (hN:∀i,i < n→IsNum (ls.getD i ([],[],[])).1 (numQ (ls.getD i ([],[],[])).1)∧IsNum (ls.getD i ([],[],[])).2.1 (numQ (ls.getD i ([],[],[])).2.1)∧IsNum (ls.getD i ([],[],[])).2.2 (numQ (ls.getD i ([],[],[])).2.2))
  (dx:Dz k x) (dy:Dz k y) (hk2:k≤1000) (hD:∀i,i≤n→Dz K (enS mass x y ls i)) (hK:K≤20000) (hlg:je3 (enS mass x y ls n)=false):
  Calls prog 9 #[.slice A n c, .int .i64 mass,bs a,bs t] w fun e w'=>e= .returned (.tuple #[bs (tq (enS mass x y ls n)), .int .i64 0])∧Below w.heap.size w w':=by
 have HC:=qh (fun W (hb:Below w.heap.size w W)=>jxd (c:=c) (hE.below hb) (h.below hb) (by omega) hl h1);have HL:=qh (fun W (hb:Below w.heap.size w W)=>jcC (hE.below hb) hla hlb hk);have HE:=qh hE;have H:=qh h;have HB:=qh hB;have HN:=qh hN;have HDD:=qh hD;have HKK:=qh (And.intro hn hK);obtain ⟨⟨m1,m2⟩,hx,hy,hyx⟩:=jcg hk;rw [hxx] at hx hyx;rw [hyy] at hy hyx;have HX:=qh hx.num;have HY:=qh hy.num;have dx:Dz 1000 x:=dx.mono hk2;have dy:Dz 1000 y:=dy.mono hk2;have hx100:=hx.high;have HXD:=qh (And.intro dx (And.intro dy (And.intro hx100 (And.intro m1 m2))));have HZX:=qh (jta dx);have HZY:=qh (jta dy);have HRM:=qh (show R64 mass from ⟨by omega,by omega⟩);have HZM:=qh (jej HRM.o);have HZR:=qh (jta (jc9.sub dx));have HZT:=qh (jta (((dzm m1 m2).mul (jc9.sub dx)).mono (m:=1100) (by omega)));have HR0:=qh (show R64 0 by constructor <;> decide);have HF0:=qh (show ((0:Int):Rat)=enS mass x y ls 0 from rfl);have HGV:Hd (jcF (enS mass x y ls n)=tq (enS mass x y ls n)∧jbq (enS mass x y ls n)=0):=qh ⟨by unfold jcF;rw [hlg];rfl,by unfold jbq;rw [hlg];rfl⟩;have HST:=qh ((hD n (Nat.le_refl _)).strQ hK);obtain ⟨b,o,rfl,hbl,hcell⟩:=h.at_ hn0;have c1:=(hcell (n - 1) (by omega)).2.1;have c2:=(hcell 0 hn0).1;have i1:=(hN (n - 1) (by omega)).2.1;have i2:=(hN 0 hn0).1;have hlen:=h.len;unfold jwB at h0;rw [hlen] at h0;obtain ⟨q,hq⟩:∃q,numQ (ls.getD (n - 1) ([],[],[])).2.1=q:=⟨_,rfl⟩;obtain ⟨p,hp⟩:∃q,numQ (ls.getD 0 ([],[],[])).1=q:=⟨_,rfl⟩;obtain ⟨TQ,hTQ⟩:∃q,(ls.getD (n - 1) ([],[],[])).2.1=q:=⟨_,rfl⟩;obtain ⟨TP,hTP⟩:∃q,(ls.getD 0 ([],[],[])).1=q:=⟨_,rfl⟩;rw [hq] at i1 h0;rw [hp] at i2 h0;rw [hTQ] at i1 c1;rw [hTP] at i2 c2;rw [show o+0*3=o by omega] at c2;obtain ⟨j1,hj1⟩:∃j,Rq.cmpQ x q=j:=⟨_,rfl⟩;obtain ⟨j2,hj2⟩:∃j,Rq.cmpQ y p=j:=⟨_,rfl⟩;have HQ:=qh i1;have HP:=qh i2;have HZQ:=qh i1.sz;have HZP:=qh i2.sz;have HJ1:=qh hj1;have HJ2:=qh hj2;have e1:wrap64 ((n:Int) - 1)=((n - 1:Nat):Int):=by unfold wrap64;omega
 have e2:IntKind.i64.wrap ((n:Int) - 1)=((n - 1:Nat):Int):=by simp [IntKind.wrap,IntKind.bits,IntKind.signed];omega
 have hi1:n - 1 < n:=by omega
 have HCC:=qh (And.intro c1 (And.intro c2 hbl))
 have hg1:decide (0 < j1)=false:=by
  rw [decide_eq_false_iff_not,←hj1];intro e;rw [if_pos (.inl (Rq.cmp_pos.1 e))] at h0;cases h0
 have hg2:decide (j2 < 0)=false:=by
  rw [decide_eq_false_iff_not,←hj2];intro e;rw [if_pos (.inr (Rq.cmp_neg.1 e))] at h0;cases h0
 clear hE h hn hl h1 hla hlb hk hB hN h0 hx hy hyx hxx hyy hcell c1 c2 i1 i2 hlen hq hp hTQ hTP hj1 hj2 m1 m2 dx dy hx100 hD hlg;go_enter func9,ntmps9;go_upto_region 8 with (first|(go_at_call 38;(with_reducible refine mo0 (HC.o _ bi) fun w1 hb1 hc1 hf1 _=> ?_))|(go_at_call 33;(with_reducible refine mo0 (HL.o _ bi) fun w2 hb2 hc2 hf2 _=> ?_))|(go_at_call 35;(with_reducible show Calls _ _ #[bs a] _ _);(with_reducible refine mf0 (jaz HX.o (HE.o.below bi)) fun w3 s3 A3 n3 c3 t3 B3 m3 d3 hr3 hq3 hb3 hc3 hf3 _=> ?_))|(go_at_call 35;(with_reducible show Calls _ _ #[bs t] _ _);(with_reducible refine mf0 (jaz HY.o (HE.o.below bi)) fun w4 s4 A4 n4 c4 t4 B4 m4 d4 hr4 hq4 hb4 hc4 hf4 _=> ?_)))
 have bU:Below w.heap.size w ((w4.alloc (.cells #[.int .i64 s3, .slice A3 n3 c3, .int .i64 t3, .slice B3 m3 d3] 83)).alloc (.cells #[.int .i64 s4, .slice A4 n4 c4, .int .i64 t4, .slice B4 m4 d4] 83)):=bi;have f0:RepF ((w4.alloc (.cells #[.int .i64 s3, .slice A3 n3 c3, .int .i64 t3, .slice B3 m3 d3] 83)).alloc (.cells #[.int .i64 s4, .slice A4 n4 c4, .int .i64 t4, .slice B4 m4 d4] 83)) s3 A3 n3 c3 t3 B3 m3 d3 x:=(by constructor <;> (with_reducible repeat first|assumption|apply rZ|refine rP ?_ rfl (by simp [go_sem,hc4])));have f1:RepF ((w4.alloc (.cells #[.int .i64 s3, .slice A3 n3 c3, .int .i64 t3, .slice B3 m3 d3] 83)).alloc (.cells #[.int .i64 s4, .slice A4 n4 c4, .int .i64 t4, .slice B4 m4 d4] 83)) s4 A4 n4 c4 t4 B4 m4 d4 y:=(by constructor <;> (with_reducible repeat first|assumption|apply rZ|refine rP ?_ rfl (by simp [go_sem,hc4])));have k0:FC ((w4.alloc (.cells #[.int .i64 s3, .slice A3 n3 c3, .int .i64 t3, .slice B3 m3 d3] 83)).alloc (.cells #[.int .i64 s4, .slice A4 n4 c4, .int .i64 t4, .slice B4 m4 d4] 83)) w4.heap.size ((s3,A3,n3,c3),(t3,B3,m3,d3)):=(FC.made w4 _ _ _ _ _ _ _ _ _).below (bA bR);have k1:FC ((w4.alloc (.cells #[.int .i64 s3, .slice A3 n3 c3, .int .i64 t3, .slice B3 m3 d3] 83)).alloc (.cells #[.int .i64 s4, .slice A4 n4 c4, .int .i64 t4, .slice B4 m4 d4] 83)) (w4.heap.size+1) ((s4,A4,n4,c4),(t4,B4,m4,d4)):=by have:=FC.made (w4.alloc (.cells #[.int .i64 s3, .slice A3 n3 c3, .int .i64 t3, .slice B3 m3 d3] 83)) 83 s4 t4 A4 B4 n4 c4 m4 d4;rwa [World.size_alloc] at this
 obtain ⟨U,hU⟩:∃U,((w4.alloc (.cells #[.int .i64 s3, .slice A3 n3 c3, .int .i64 t3, .slice B3 m3 d3] 83)).alloc (.cells #[.int .i64 s4, .slice A4 n4 c4, .int .i64 t4, .slice B4 m4 d4] 83))=U:=⟨_,rfl⟩;rw [hU] at bU f0 f1 k0 k1 ⊢;obtain ⟨ga,hga⟩:∃g,w4.heap.size=g:=⟨_,rfl⟩;rw [hga] at k0 k1 ⊢;obtain ⟨gb,hgb⟩:∃g,ga+1=g:=⟨_,rfl⟩;rw [hgb] at k1 ⊢;have HKA:=qh (And.intro k0 f0);have HKB:=qh (And.intro k1 f1);have HEU:=qh (HE.o.below bU);have HBU:=qh bU;obtain ⟨c1,c2,hbl⟩:=HCC.o;replace c1:=ja9 bU c1;replace c2:=ja9 bU c2;have hbl:b < U.heap.size:=World.block_lt_of_cell? U _ c1;obtain ⟨a0,a1,a2,a3,af⟩:=k0;dsimp only at a0 a1 a2 a3;obtain ⟨b0,b1,b2,b3,bf⟩:=k1;dsimp only at b0 b1 b2 b3;have za:ga < U.heap.size:=World.block_lt_of_cell? U _ a0;have zb:gb < U.heap.size:=World.block_lt_of_cell? U _ b0;clear hU hga hgb hb1 hb2 hb3 hb4 hc1 hc2 hc3 hc4 hf1 hf2 hf3 hf4 hr3 hq3 hr4 hq4 f0 f1 HC HL HCC HX HY af bf bU;refine ja1 (fun w'=>Below U.heap.size U w') [] (by kernel_rfl) ?_;refine tb 0 (fv s3 A3 n3 c3 t3 B3 m3 d3) [] rfl (by kernel_rfl) pk rfl (by intros;go_simp) bq0 ?_;refine tb 1 (.slice (some ⟨b,o,none⟩) n c) [] rfl (by kernel_rfl) pk rfl (by intros;go_simp) bq0 ?_;refine tb 2 (.slice (some ⟨b,o,none⟩) n c) [] rfl (by kernel_rfl) pk rfl (by intros;go_simp) bq0 ?_;refine tb 3 (.int .i64 (n:Int)) [] rfl (by kernel_rfl) pk rfl (by intros;go_simp) bq0 ?_;refine tb 4 (.int .i64 ((n - 1:Nat):Int)) [] rfl (by kernel_rfl) pk rfl (by intros;go_simp) bq0 ?_;refine tb 5 (.pointer (some ⟨b,o+(n - 1)*3,none⟩)) [] rfl (by kernel_rfl) pk rfl (by intros;go_simp) bq0 ?_;refine tb 6 (.pointer (some ⟨b,o+(n - 1)*3+1,none⟩)) [] rfl (by kernel_rfl) pk rfl (by intros;go_simp) bq0 ?_;refine tb 7 (bs TQ) [] rfl (by kernel_rfl) pk rfl (by intros;go_simp) bq0 ?_;simp only [ppq];refine rd1 8 (by kernel_rfl) rfl (fun K hK=> ?_);go_simp;go_wp2_with (go_at_call 35;(with_reducible refine mf0 (jaz HQ.o (HEU.o.below bi)) fun w5 s5 A5 n5 c5 t5 B5 m5 d5 hr5 hq5 hb5 hc5 hf5 _=> ?_))
 have sS5:=qh (bst bq0 hb5);refine hK.out _ _ (fun _=>sS5.o) ?_;clear hK K;refine rd1 9 (by kernel_rfl) rfl (fun K hK=> ?_);go_simp;go_wp2_with (go_at_call 39;(with_reducible refine mo0 (jd7 1000 600 HJ1.o (HKA.o.2.below bi) ⟨hr5,hq5⟩ HZX.o HZQ.o (by omega)) fun w6 hb6 hc6 hf6 _=> ?_))
 have sS6:=qh (bst sS5.o hb6);refine hK.out _ _ (fun _=>sS6.o) ?_;clear hK K;refine rd1 10 (by kernel_rfl) rfl (fun K hK=> ?_);go_simp;refine hK.out _ _ (fun _=>bi) ?_;clear hK K;refine rd1 11 (by kernel_rfl) rfl (fun K hK=> ?_);go_simp;refine hK.out _ _ (fun _=>bi) ?_;clear hK K;refine tb 12 (fv s4 A4 n4 c4 t4 B4 m4 d4) [] rfl (by kernel_rfl) pk rfl (by intros;go_simp) sS6.o ?_;refine tb 13 (.slice (some ⟨b,o,none⟩) n c) [] rfl (by kernel_rfl) pk rfl (by intros;go_simp) sS6.o ?_;refine tb 14 (.pointer (some ⟨b,o,none⟩)) [] rfl (by kernel_rfl) pk rfl (by intros;go_simp) sS6.o ?_;refine tb 15 (.pointer (some ⟨b,o,none⟩)) [] rfl (by kernel_rfl) pk rfl (by intros;go_simp) sS6.o ?_;refine tb 16 (bs TP) [] rfl (by kernel_rfl) pk rfl (by intros;go_simp) sS6.o ?_;simp only [ppq];refine rd1 17 (by kernel_rfl) rfl (fun K hK=> ?_);go_simp;go_wp2_with (go_at_call 35;(with_reducible refine mf0 (jaz HP.o (HEU.o.below bi)) fun w7 s7 A7 n7 c7 t7 B7 m7 d7 hr7 hq7 hb7 hc7 hf7 _=> ?_))
 have sS7:=qh (bst sS6.o hb7);refine hK.out _ _ (fun _=>sS7.o) ?_;clear hK K;refine rd1 18 (by kernel_rfl) rfl (fun K hK=> ?_);go_simp;go_wp2_with (go_at_call 39;(with_reducible refine mo0 (jd7 1000 600 HJ2.o (HKB.o.2.below bi) ⟨hr7,hq7⟩ HZY.o HZP.o (by omega)) fun w8 hb8 hc8 hf8 _=> ?_))
 have sS8:=qh (bst sS7.o hb8);refine hK.out _ _ (fun _=>sS8.o) ?_;clear hK K;refine rd1 19 (by kernel_rfl) rfl (fun K hK=> ?_);go_simp;refine hK.out _ _ (fun _=>bi) ?_;clear hK K;refine rd1 20 (by kernel_rfl) rfl (fun K hK=> ?_);go_simp;refine hK.out _ _ (fun _=>bi) ?_;clear hK K;refine ja2 (by kernel_rfl) ?_ _;have b8:RowKit.Below U.heap.size U w8:=bi;have HKA:=qh (And.intro (HKA.o.1.below b8) (HKA.o.2.below b8));have HKB:=qh (And.intro (HKB.o.1.below b8) (HKB.o.2.below b8));have HBX:=qh (ja0 HBU.o b8);clear a0 a1 a2 a3 b0 b1 b2 b3 za zb c1 c2 hbl hb5 hb6 hb7 hb8 hc5 hc6 hc7 hc8 hf5 hf6 hf7 hf8 hr5 hq5 hr7 hq7 b8 HJ1 HJ2 HQ HP HZQ HZP HEU HBU e1 e2 hi1;go_upto_region 10 with (fail)
 clear hg1 hg2
 go_cut [14] (fun u wx=>∃(gm:Nat) (qm:FT),u= .pointer (some ⟨gm,0,none⟩)∧FC wx gm qm∧jlE wx qm ((mass:Rat)*(100 - x))∧RowKit.Below w8.heap.size w8 wx)
 case first=>
  -- FAST
  have k0:=HKA.o.1;obtain ⟨a0,a1,a2,a3,af⟩:=k0;dsimp only at a0 a1 a2 a3;have za:ga < w8.heap.size:=World.block_lt_of_cell? w8 _ a0;clear af;refine ja1 (fun w'=>Below w8.heap.size w8 w') [6] (by kernel_rfl) ?_;refine tb 0 (.int .i64 mass) [] rfl (by kernel_rfl) pk rfl (by intros;go_simp) bq0 ?_;refine tb 2 (fv s3 A3 n3 c3 t3 B3 m3 d3) [] rfl (by kernel_rfl) pk rfl (by intros;go_simp) bq0 ?_;simp only [ppq];refine wa2 1 5 (by kernel_rfl) rfl rfl (fun K hK=> ?o1) (fun K hK=> ?o2)
  case' o1=>
   go_simp;go_wp2_with ((go_at_call 40;(with_reducible refine mf0 (jes rfl HRM.o) fun w9 s9 A9 n9 c9 t9 B9 m9 d9 hr9 hq9 hb9 hc9 hf9 _=> ?_));have y9_0:=zlt (w8.heap.size) hb9)
   refine hK.out _ _ (fun _=>bi) ?_;clear hK K;refine wa2 3 5 (by kernel_rfl) rfl rfl (fun K hK=> ?o3) (fun K hK=> ?o4)
   case' o3=>
    go_simp;go_wp2_with ((go_at_call 42;(with_reducible refine mf0 (jeU rfl (HKA.o.2.below bi) HZX.o (by omega)) fun w10 s10 A10 n10 c10 t10 B10 m10 d10 hr10 hq10 hb10 hc10 hf10 _=> ?_));have y10_0:=zlt (w8.heap.size) hb10;have y10_1:=zlt (w9.heap.size) hb10)
    refine hK.out _ _ (fun _=>bi) ?_;clear hK K;refine wa2 4 5 (by kernel_rfl) rfl rfl (fun K hK=> ?o5) (fun K hK=> ?o6)
    case' o5=>
     go_simp;go_wp2_with ((go_at_call 41;(with_reducible refine mf0 (jbO 1 (3+1000+1) rfl (by constructor <;> (with_reducible repeat first|assumption|apply rZ|refine rP ?_ rfl (by simp [go_sem,hc10]))) (by constructor <;> (with_reducible repeat first|assumption|apply rZ|refine rP ?_ rfl (by simp [go_sem,hc10]))) HZM.o HZR.o (by omega)) fun w11 s11 A11 n11 c11 t11 B11 m11 d11 hr11 hq11 hb11 hc11 hf11 _=> ?_));have y11_0:=zlt (w8.heap.size) hb11;have y11_1:=zlt (w9.heap.size) hb11;have y11_2:=zlt (w10.heap.size) hb11)
     refine hK.out _ _ (fun _=>bi) ?_;clear hK K;refine wa1 5 (by kernel_rfl) rfl (fun K hK=> ?_);go_simp;refine hK.out _ _ (fun _=>bi) ?_;clear hK K
    case' o6=>
     go_simp;refine hK.out _ _ (fun _=>bi) ?_;clear hK K;refine wa1 4 (by kernel_rfl) rfl (fun K hK=> ?_);go_simp;go_wp2_with ((go_at_call 41;(with_reducible refine mf0 (jbO 1 (3+1000+1) rfl (by constructor <;> (with_reducible repeat first|assumption|apply rZ|refine rP ?_ rfl (by simp [go_sem,hc10]))) (by constructor <;> (with_reducible repeat first|assumption|apply rZ|refine rP ?_ rfl (by simp [go_sem,hc10]))) HZM.o HZR.o (by omega)) fun w11 s11 A11 n11 c11 t11 B11 m11 d11 hr11 hq11 hb11 hc11 hf11 _=> ?_));have y11_0:=zlt (w8.heap.size) hb11;have y11_1:=zlt (w9.heap.size) hb11;have y11_2:=zlt (w10.heap.size) hb11)
     refine hK.out _ _ (fun _=>bi) ?_;clear hK K
   case' o4=>
    go_simp;refine hK.out _ _ (fun _=>bi) ?_;clear hK K;refine wa1 3 (by kernel_rfl) rfl (fun K hK=> ?_);go_simp;go_wp2_with ((go_at_call 42;(with_reducible refine mf0 (jeU rfl (HKA.o.2.below bi) HZX.o (by omega)) fun w10 s10 A10 n10 c10 t10 B10 m10 d10 hr10 hq10 hb10 hc10 hf10 _=> ?_));have y10_0:=zlt (w8.heap.size) hb10;have y10_1:=zlt (w9.heap.size) hb10)
    refine hK.out _ _ (fun _=>bi) ?_;clear hK K;refine wa1 4 (by kernel_rfl) rfl (fun K hK=> ?_);go_simp;go_wp2_with ((go_at_call 41;(with_reducible refine mf0 (jbO 1 (3+1000+1) rfl (by constructor <;> (with_reducible repeat first|assumption|apply rZ|refine rP ?_ rfl (by simp [go_sem,hc10]))) (by constructor <;> (with_reducible repeat first|assumption|apply rZ|refine rP ?_ rfl (by simp [go_sem,hc10]))) HZM.o HZR.o (by omega)) fun w11 s11 A11 n11 c11 t11 B11 m11 d11 hr11 hq11 hb11 hc11 hf11 _=> ?_));have y11_0:=zlt (w8.heap.size) hb11;have y11_1:=zlt (w9.heap.size) hb11;have y11_2:=zlt (w10.heap.size) hb11)
    refine hK.out _ _ (fun _=>bi) ?_;clear hK K
  case' o2=>
   go_simp;refine hK.out _ _ (fun _=>bi) ?_;clear hK K;refine wa1 1 (by kernel_rfl) rfl (fun K hK=> ?_);go_simp;go_wp2_with ((go_at_call 40;(with_reducible refine mf0 (jes rfl HRM.o) fun w9 s9 A9 n9 c9 t9 B9 m9 d9 hr9 hq9 hb9 hc9 hf9 _=> ?_));have y9_0:=zlt (w8.heap.size) hb9)
   refine hK.out _ _ (fun _=>bi) ?_;clear hK K;refine wa1 3 (by kernel_rfl) rfl (fun K hK=> ?_);go_simp;go_wp2_with ((go_at_call 42;(with_reducible refine mf0 (jeU rfl (HKA.o.2.below bi) HZX.o (by omega)) fun w10 s10 A10 n10 c10 t10 B10 m10 d10 hr10 hq10 hb10 hc10 hf10 _=> ?_));have y10_0:=zlt (w8.heap.size) hb10;have y10_1:=zlt (w9.heap.size) hb10)
   refine hK.out _ _ (fun _=>bi) ?_;clear hK K;refine wa1 4 (by kernel_rfl) rfl (fun K hK=> ?_);go_simp;go_wp2_with ((go_at_call 41;(with_reducible refine mf0 (jbO 1 (3+1000+1) rfl (by constructor <;> (with_reducible repeat first|assumption|apply rZ|refine rP ?_ rfl (by simp [go_sem,hc10]))) (by constructor <;> (with_reducible repeat first|assumption|apply rZ|refine rP ?_ rfl (by simp [go_sem,hc10]))) HZM.o HZR.o (by omega)) fun w11 s11 A11 n11 c11 t11 B11 m11 d11 hr11 hq11 hb11 hc11 hf11 _=> ?_));have y11_0:=zlt (w8.heap.size) hb11;have y11_1:=zlt (w9.heap.size) hb11;have y11_2:=zlt (w10.heap.size) hb11)
   refine hK.out _ _ (fun _=>bi) ?_;clear hK K
  all_goals
   refine rd1 6 (by kernel_rfl) rfl (fun K hK=> ?_);go_simp;refine hK.out _ _ (fun h=>(h (by decide)).elim) ?_;clear hK K;refine ja2 (by kernel_rfl) ?_ _;go_wp2;go_meet
   (refine ⟨_,((s11,A11,n11,c11),t11,B11,m11,d11),rfl,⟨?_, ?_, ?_, ?_,fun o=> ?_⟩,⟨?_, ?_⟩,bi⟩ <;> first|(simp [go_sem,hf11,hf10,hf9,hc11,hc10,hc9,y9_0,y10_0,y10_1,y11_0,y11_1,y11_2];done)|exact (by with_reducible repeat first|assumption|apply rZ|refine rP ?_ rfl (by simp [go_sem,hc11,hc10,hc9,y9_0,y10_0,y10_1,y11_0,y11_1,y11_2])))
  -- SLOW
 case rest=>
  rename World=>wx
  obtain ⟨gm,⟨⟨sm,Am,nm,cm⟩,tm,Bm,mm,dm⟩,rfl,hM,hMR,bx⟩:=hcut;go_wp2_with (go_at_call 40;(with_reducible refine mf0 (jes HF0.o HR0.o) fun w12 s12 A12 n12 c12 t12 B12 m12 d12 hr12 hq12 hb12 hc12 hf12 _=> ?_))
  have b12:RowKit.Below wx.heap.size wx w12:=bi;have hT:=FC.made w12 83 s12 t12 A12 B12 n12 c12 m12 d12;have hR:jlE (w12.alloc (.cells #[.int .i64 s12, .slice A12 n12 c12, .int .i64 t12, .slice B12 m12 d12] 83)) ((s12,A12,n12,c12),(t12,B12,m12,d12)) (enS mass x y ls 0):=(by constructor <;> (with_reducible repeat first|assumption|apply rZ|refine rP ?_ rfl (by simp [go_sem,hc12])));have HKA:=qh (And.intro ((HKA.o.1.below bx).below b12) ((HKA.o.2.below bx).below b12));have HKB:=qh (And.intro ((HKB.o.1.below bx).below b12) ((HKB.o.2.below bx).below b12));have HKM:=qh (And.intro (hM.below b12) (RepF.below hMR b12));have HBV:=qh (ja0 (ja0 HBX.o bx) b12);obtain ⟨tg,htg⟩:∃g,w12.heap.size=g:=⟨_,rfl⟩;have bT:RowKit.Below w12.heap.size w12 (w12.alloc (.cells #[.int .i64 s12, .slice A12 n12 c12, .int .i64 t12, .slice B12 m12 d12] 83)):=bA bR;have HTG:=qh (Nat.le_of_eq htg);rw [htg] at hT;simp only [htg];have HAS:=qh (And.intro bT (And.intro hT hR));clear hM hMR bx b12 bT hT hR htg hb12 hc12 hf12 hr12 hq12 HBX HRM HZM HZR HF0 HR0
  go_loopw [66] (fun u wr=>∃(i:Nat) (q:FT),u= .int .i64 (i:Int)∧i≤n∧RowKit.Below w12.heap.size w12 wr∧FC wr tg q∧jlE wr q (enS mass x y ls i)) (fun u _=>n - (intOf u).toNat)
  case atStart=>exact ⟨0,_,rfl,Nat.zero_le _,HAS.o.1,HAS.o.2.1,HAS.o.2.2⟩
  case round=>
   obtain ⟨i,⟨⟨sT,AT,nT,cT⟩,tT,BT,mT,dT⟩,rfl,hin,hb,hT,hR⟩:=hrel;have _:=bm hb;have hnn:=HKK.o.1;by_cases hi:i < n
   ·have q0:decide ((i:Int) < (n:Int))=true:=by simp;exact hi
    have q9:decide (i < n)=true:=by simpa using hi
    obtain ⟨b',o',hAe,hbl,hcell⟩:=(H.o.below (ja0 HBV.o hb)).at_ (by omega);cases hAe
    obtain ⟨y0,y1,y2⟩:=hcell i hi;have ho:=HB.o i hi;have hd:=HDD.o i (by omega);have hd2:=HDD.o (i+1) (by omega);obtain ⟨N0,N1,N2⟩:=HN.o i hi;have hS:enS mass x y ls (i+1)=enS mass x y ls i+enT mass x y (ls.getD i ([],[],[])):=rfl;obtain ⟨⟨x0,x1,x2⟩,hxs⟩:∃z,ls.getD i ([],[],[])=z:=⟨_,rfl⟩;rw [hxs] at y0 y1 y2 ho N0 N1 N2 hS;dsimp only at y0 y1 y2 ho N0 N1 N2;obtain ⟨p,hp⟩:∃p,numQ x0=p:=⟨_,rfl⟩;obtain ⟨r,hr⟩:∃p,numQ x1=p:=⟨_,rfl⟩;obtain ⟨v,hv⟩:∃p,numQ x2=p:=⟨_,rfl⟩;have hTT:enT mass x y (x0,x1,x2)=if jwy y p < jwr x r then ((mass:Rat)*(100 - x) / (100 - jwr x r) - (mass:Rat)*(100 - x) / (100 - jwy y p))*v else 0:=by unfold enT;dsimp only;rw [hp,hr,hv]
    rw [hTT] at hS;rw [hp,hr,hv] at ho;rw [hp] at N0;rw [hr] at N1;rw [hv] at N2;obtain ⟨dx,dy,hx100,m1,m2⟩:=HXD.o;have hax:=jwM x r;have da:=(jx6 dx ho.d1).mono (m:=1030) (by omega);have de:=(jx7 dy ho.d0).mono (m:=1030) (by omega);obtain ⟨j3,hj3⟩:∃j,Rq.cmpQ x r=j:=⟨_,rfl⟩;obtain ⟨j4,hj4⟩:∃j,Rq.cmpQ y p=j:=⟨_,rfl⟩;obtain ⟨g3,hg3⟩:∃g,decide (j3 < 0)=g:=⟨_,rfl⟩;obtain ⟨g4,hg4⟩:∃g,decide (0 < j4)=g:=⟨_,rfl⟩
    have hga:jwr x r=if g3 then x else r:=by
     rw [←hg3,←hj3];unfold jwr;by_cases z:x < r
     ·rw [if_neg (fun z2=>by grind),decide_eq_true (Rq.cmp_neg.2 z)];rfl
     ·rw [decide_eq_false (fun z2=>z (Rq.cmp_neg.1 z2))];show (if r < x then r else x)=r;split <;> grind
    have hge:jwy y p=if g4 then y else p:=by
     rw [←hg4,←hj4];unfold jwy;by_cases z:p < y
     ·rw [if_neg (fun z2=>by grind),decide_eq_true (Rq.cmp_pos.2 z)];rfl
     ·rw [decide_eq_false (fun z2=>z (Rq.cmp_pos.1 z2))];show (if y < p then p else y)=p;split <;> grind
    obtain ⟨a,ha⟩:∃a,jwr x r=a:=⟨_,rfl⟩;obtain ⟨e,he⟩:∃a,jwy y p=a:=⟨_,rfl⟩;rw [ha] at hS hax da hga;rw [he] at hS de hge;obtain ⟨j5,hj5⟩:∃j,Rq.cmpQ e a=j:=⟨_,rfl⟩;have HJ3:=qh hj3;have HJ4:=qh hj4;have HJ5:=qh hj5;have HGA:=qh hga;have HGE:=qh hge;have HX0:=qh N0;have HX1:=qh N1;have HX2:=qh N2;have HZP:=qh N0.sz;have HZQ:=qh N1.sz;have HZV:=qh N2.sz;have HZA:=qh (jta da);have HZE:=qh (jta de);have HSS:=qh (And.intro hS (And.intro hd hd2));have HHA:=qh (show a < 100 by grind);have HI:=qh hi;have HTR:=qh (And.intro hT hR);have HBB:=qh hb;clear hcell ho hd hd2 N0 N1 N2 hS hxs hp hr hv hTT dx dy hx100 m1 m2 hax da de hj3 hj4 hj5 hga hge ha he hT hR hnn hin;go_upto_region 15 with (fail)
    have k0:(wr.alloc (.cells #[bs x0,bs x1,bs x2] 27)).cell? ⟨wr.heap.size,0,none⟩=some (bs x0):=by simp
    have k1:(wr.alloc (.cells #[bs x0,bs x1,bs x2] 27)).cell? ⟨wr.heap.size,1,none⟩=some (bs x1):=by simp
    have k2:(wr.alloc (.cells #[bs x0,bs x1,bs x2] 27)).cell? ⟨wr.heap.size,2,none⟩=some (bs x2):=by simp
    have bW:RowKit.Below wr.heap.size wr (wr.alloc (.cells #[bs x0,bs x1,bs x2] 27)):=bi;obtain ⟨W,hW⟩:∃W,wr.alloc (.cells #[bs x0,bs x1,bs x2] 27)=W:=⟨_,rfl⟩;rw [hW] at k0 k1 k2 bW ⊢;obtain ⟨g,hg⟩:∃g,wr.heap.size=g:=⟨_,rfl⟩;rw [hg] at k0 k1 k2 ⊢;have gz:g < W.heap.size:=World.block_lt_of_cell? W _ k0;have HEW:=qh (HE.o.below (ja0 (ja0 HBV.o hb) bW));have HBW:=qh (ja0 hb bW);have HTR:=qh (And.intro (HTR.o.1.below bW) (RepF.below HTR.o.2 bW));clear hW hg y0 y1 y2 hbl q9 bW hb
    go_cut [18,19] (fun u v wx=>∃(a1 a2:Nat) (q1 q2:FT),u= .pointer (some ⟨a1,0,none⟩)∧v= .pointer (some ⟨a2,0,none⟩)∧(a1≠a2∧W.heap.size≤a1∧W.heap.size≤a2)∧FC wx a1 q1∧FC wx a2 q2∧jlE wx q1 r∧jlE wx q2 p∧RowKit.Below W.heap.size W wx)
    case first=>
     -- FAST
     refine ja1 (fun w'=>Below W.heap.size W w') [] (by kernel_rfl) ?_;refine tb 0 (.pointer (some ⟨g,1,none⟩)) [] rfl (by kernel_rfl) pk rfl (by intros;go_simp) bq0 ?_;refine tb 1 (bs x1) [] rfl (by kernel_rfl) pk rfl (by intros;go_simp) bq0 ?_;refine tb 3 (.pointer (some ⟨g,0,none⟩)) [] rfl (by kernel_rfl) pk rfl (by intros;go_simp) bq0 ?_;refine tb 4 (bs x0) [] rfl (by kernel_rfl) pk rfl (by intros;go_simp) bq0 ?_;simp only [ppq];refine wa3 2 6 7 (by kernel_rfl) rfl rfl rfl (fun K hK=> ?o7) (fun K hK=> ?o8) (fun K hK=> ?o9)
     case' o7=>
      go_simp;go_wp2_with ((go_at_call 35;(with_reducible refine mf0 (jaz HX1.o (HEW.o.below bi)) fun w2 s2 A2 n2 c2 t2 B2 m2 d2 hr2 hq2 hb2 hc2 hf2 _=> ?_));have y2_0:=zlt (W.heap.size) hb2;have y2_1:=zlt (W.heap.size+1) hb2)
      refine hK.out _ _ (fun _=>bi) ?_;clear hK K;refine wa3 5 6 7 (by kernel_rfl) rfl rfl rfl (fun K hK=> ?o10) (fun K hK=> ?o11) (fun K hK=> ?o12)
      case' o10=>
       go_simp;go_wp2_with ((go_at_call 35;(with_reducible refine mf0 (jaz HX0.o (HEW.o.below bi)) fun w3 s3 A3 n3 c3 t3 B3 m3 d3 hr3 hq3 hb3 hc3 hf3 _=> ?_));have y3_0:=zlt (W.heap.size) hb3;have y3_1:=zlt (W.heap.size+1) hb3;have y3_2:=zlt (w2.heap.size) hb3;have y3_3:=zlt (w2.heap.size+1) hb3)
       refine hK.out _ _ (fun _=>bi) ?_;clear hK K;refine wa2 6 7 (by kernel_rfl) rfl rfl (fun K hK=> ?o13) (fun K hK=> ?o14)
       case' o13=>
        go_simp;refine hK.out _ _ (fun _=>bi) ?_;clear hK K;refine wa1 7 (by kernel_rfl) rfl (fun K hK=> ?_);go_simp;refine hK.out _ _ (fun _=>bi) ?_;clear hK K
       case' o14=>
        go_simp;refine hK.out _ _ (fun _=>bi) ?_;clear hK K;refine wa1 6 (by kernel_rfl) rfl (fun K hK=> ?_);go_simp;refine hK.out _ _ (fun _=>bi) ?_;clear hK K
      case' o11=>
       go_simp;refine hK.out _ _ (fun _=>bi) ?_;clear hK K;refine wa2 5 7 (by kernel_rfl) rfl rfl (fun K hK=> ?o15) (fun K hK=> ?o16)
       case' o15=>
        go_simp;go_wp2_with ((go_at_call 35;(with_reducible refine mf0 (jaz HX0.o (HEW.o.below bi)) fun w3 s3 A3 n3 c3 t3 B3 m3 d3 hr3 hq3 hb3 hc3 hf3 _=> ?_));have y3_0:=zlt (W.heap.size) hb3;have y3_1:=zlt (W.heap.size+1) hb3;have y3_2:=zlt (w2.heap.size) hb3;have y3_3:=zlt (w2.heap.size+1) hb3)
        refine hK.out _ _ (fun _=>bi) ?_;clear hK K;refine wa1 7 (by kernel_rfl) rfl (fun K hK=> ?_);go_simp;refine hK.out _ _ (fun _=>bi) ?_;clear hK K
       case' o16=>
        go_simp;refine hK.out _ _ (fun _=>bi) ?_;clear hK K;refine wa1 5 (by kernel_rfl) rfl (fun K hK=> ?_);go_simp;go_wp2_with ((go_at_call 35;(with_reducible refine mf0 (jaz HX0.o (HEW.o.below bi)) fun w3 s3 A3 n3 c3 t3 B3 m3 d3 hr3 hq3 hb3 hc3 hf3 _=> ?_));have y3_0:=zlt (W.heap.size) hb3;have y3_1:=zlt (W.heap.size+1) hb3;have y3_2:=zlt (w2.heap.size) hb3;have y3_3:=zlt (w2.heap.size+1) hb3)
        refine hK.out _ _ (fun _=>bi) ?_;clear hK K
      case' o12=>
       go_simp;refine hK.out _ _ (fun _=>bi) ?_;clear hK K;refine wa2 5 6 (by kernel_rfl) rfl rfl (fun K hK=> ?o17) (fun K hK=> ?o18)
       case' o17=>
        go_simp;go_wp2_with ((go_at_call 35;(with_reducible refine mf0 (jaz HX0.o (HEW.o.below bi)) fun w3 s3 A3 n3 c3 t3 B3 m3 d3 hr3 hq3 hb3 hc3 hf3 _=> ?_));have y3_0:=zlt (W.heap.size) hb3;have y3_1:=zlt (W.heap.size+1) hb3;have y3_2:=zlt (w2.heap.size) hb3;have y3_3:=zlt (w2.heap.size+1) hb3)
        refine hK.out _ _ (fun _=>bi) ?_;clear hK K;refine wa1 6 (by kernel_rfl) rfl (fun K hK=> ?_);go_simp;refine hK.out _ _ (fun _=>bi) ?_;clear hK K
       case' o18=>
        go_simp;refine hK.out _ _ (fun _=>bi) ?_;clear hK K;refine wa1 5 (by kernel_rfl) rfl (fun K hK=> ?_);go_simp;go_wp2_with ((go_at_call 35;(with_reducible refine mf0 (jaz HX0.o (HEW.o.below bi)) fun w3 s3 A3 n3 c3 t3 B3 m3 d3 hr3 hq3 hb3 hc3 hf3 _=> ?_));have y3_0:=zlt (W.heap.size) hb3;have y3_1:=zlt (W.heap.size+1) hb3;have y3_2:=zlt (w2.heap.size) hb3;have y3_3:=zlt (w2.heap.size+1) hb3)
        refine hK.out _ _ (fun _=>bi) ?_;clear hK K
     case' o8=>
      go_simp;refine hK.out _ _ (fun _=>bi) ?_;clear hK K;refine wa2 2 7 (by kernel_rfl) rfl rfl (fun K hK=> ?o19) (fun K hK=> ?o20)
      case' o19=>
       go_simp;go_wp2_with ((go_at_call 35;(with_reducible refine mf0 (jaz HX1.o (HEW.o.below bi)) fun w2 s2 A2 n2 c2 t2 B2 m2 d2 hr2 hq2 hb2 hc2 hf2 _=> ?_));have y2_0:=zlt (W.heap.size) hb2;have y2_1:=zlt (W.heap.size+1) hb2)
       refine hK.out _ _ (fun _=>bi) ?_;clear hK K;refine wa2 5 7 (by kernel_rfl) rfl rfl (fun K hK=> ?o21) (fun K hK=> ?o22)
       case' o21=>
        go_simp;go_wp2_with ((go_at_call 35;(with_reducible refine mf0 (jaz HX0.o (HEW.o.below bi)) fun w3 s3 A3 n3 c3 t3 B3 m3 d3 hr3 hq3 hb3 hc3 hf3 _=> ?_));have y3_0:=zlt (W.heap.size) hb3;have y3_1:=zlt (W.heap.size+1) hb3;have y3_2:=zlt (w2.heap.size) hb3;have y3_3:=zlt (w2.heap.size+1) hb3)
        refine hK.out _ _ (fun _=>bi) ?_;clear hK K;refine wa1 7 (by kernel_rfl) rfl (fun K hK=> ?_);go_simp;refine hK.out _ _ (fun _=>bi) ?_;clear hK K
       case' o22=>
        go_simp;refine hK.out _ _ (fun _=>bi) ?_;clear hK K;refine wa1 5 (by kernel_rfl) rfl (fun K hK=> ?_);go_simp;go_wp2_with ((go_at_call 35;(with_reducible refine mf0 (jaz HX0.o (HEW.o.below bi)) fun w3 s3 A3 n3 c3 t3 B3 m3 d3 hr3 hq3 hb3 hc3 hf3 _=> ?_));have y3_0:=zlt (W.heap.size) hb3;have y3_1:=zlt (W.heap.size+1) hb3;have y3_2:=zlt (w2.heap.size) hb3;have y3_3:=zlt (w2.heap.size+1) hb3)
        refine hK.out _ _ (fun _=>bi) ?_;clear hK K
      case' o20=>
       go_simp;refine hK.out _ _ (fun _=>bi) ?_;clear hK K;refine wa1 2 (by kernel_rfl) rfl (fun K hK=> ?_);go_simp;go_wp2_with ((go_at_call 35;(with_reducible refine mf0 (jaz HX1.o (HEW.o.below bi)) fun w2 s2 A2 n2 c2 t2 B2 m2 d2 hr2 hq2 hb2 hc2 hf2 _=> ?_));have y2_0:=zlt (W.heap.size) hb2;have y2_1:=zlt (W.heap.size+1) hb2)
       refine hK.out _ _ (fun _=>bi) ?_;clear hK K;refine wa1 5 (by kernel_rfl) rfl (fun K hK=> ?_);go_simp;go_wp2_with ((go_at_call 35;(with_reducible refine mf0 (jaz HX0.o (HEW.o.below bi)) fun w3 s3 A3 n3 c3 t3 B3 m3 d3 hr3 hq3 hb3 hc3 hf3 _=> ?_));have y3_0:=zlt (W.heap.size) hb3;have y3_1:=zlt (W.heap.size+1) hb3;have y3_2:=zlt (w2.heap.size) hb3;have y3_3:=zlt (w2.heap.size+1) hb3)
       refine hK.out _ _ (fun _=>bi) ?_;clear hK K
     case' o9=>
      go_simp;refine hK.out _ _ (fun _=>bi) ?_;clear hK K;refine wa2 2 6 (by kernel_rfl) rfl rfl (fun K hK=> ?o23) (fun K hK=> ?o24)
      case' o23=>
       go_simp;go_wp2_with ((go_at_call 35;(with_reducible refine mf0 (jaz HX1.o (HEW.o.below bi)) fun w2 s2 A2 n2 c2 t2 B2 m2 d2 hr2 hq2 hb2 hc2 hf2 _=> ?_));have y2_0:=zlt (W.heap.size) hb2;have y2_1:=zlt (W.heap.size+1) hb2)
       refine hK.out _ _ (fun _=>bi) ?_;clear hK K;refine wa2 5 6 (by kernel_rfl) rfl rfl (fun K hK=> ?o25) (fun K hK=> ?o26)
       case' o25=>
        go_simp;go_wp2_with ((go_at_call 35;(with_reducible refine mf0 (jaz HX0.o (HEW.o.below bi)) fun w3 s3 A3 n3 c3 t3 B3 m3 d3 hr3 hq3 hb3 hc3 hf3 _=> ?_));have y3_0:=zlt (W.heap.size) hb3;have y3_1:=zlt (W.heap.size+1) hb3;have y3_2:=zlt (w2.heap.size) hb3;have y3_3:=zlt (w2.heap.size+1) hb3)
        refine hK.out _ _ (fun _=>bi) ?_;clear hK K;refine wa1 6 (by kernel_rfl) rfl (fun K hK=> ?_);go_simp;refine hK.out _ _ (fun _=>bi) ?_;clear hK K
       case' o26=>
        go_simp;refine hK.out _ _ (fun _=>bi) ?_;clear hK K;refine wa1 5 (by kernel_rfl) rfl (fun K hK=> ?_);go_simp;go_wp2_with ((go_at_call 35;(with_reducible refine mf0 (jaz HX0.o (HEW.o.below bi)) fun w3 s3 A3 n3 c3 t3 B3 m3 d3 hr3 hq3 hb3 hc3 hf3 _=> ?_));have y3_0:=zlt (W.heap.size) hb3;have y3_1:=zlt (W.heap.size+1) hb3;have y3_2:=zlt (w2.heap.size) hb3;have y3_3:=zlt (w2.heap.size+1) hb3)
        refine hK.out _ _ (fun _=>bi) ?_;clear hK K
      case' o24=>
       go_simp;refine hK.out _ _ (fun _=>bi) ?_;clear hK K;refine wa1 2 (by kernel_rfl) rfl (fun K hK=> ?_);go_simp;go_wp2_with ((go_at_call 35;(with_reducible refine mf0 (jaz HX1.o (HEW.o.below bi)) fun w2 s2 A2 n2 c2 t2 B2 m2 d2 hr2 hq2 hb2 hc2 hf2 _=> ?_));have y2_0:=zlt (W.heap.size) hb2;have y2_1:=zlt (W.heap.size+1) hb2)
       refine hK.out _ _ (fun _=>bi) ?_;clear hK K;refine wa1 5 (by kernel_rfl) rfl (fun K hK=> ?_);go_simp;go_wp2_with ((go_at_call 35;(with_reducible refine mf0 (jaz HX0.o (HEW.o.below bi)) fun w3 s3 A3 n3 c3 t3 B3 m3 d3 hr3 hq3 hb3 hc3 hf3 _=> ?_));have y3_0:=zlt (W.heap.size) hb3;have y3_1:=zlt (W.heap.size+1) hb3;have y3_2:=zlt (w2.heap.size) hb3;have y3_3:=zlt (w2.heap.size+1) hb3)
       refine hK.out _ _ (fun _=>bi) ?_;clear hK K
     all_goals
      refine rd1 8 (by kernel_rfl) rfl (fun K hK=> ?_);go_simp;refine hK.out _ _ (fun _=>bi) ?_;clear hK K;refine rd1 9 (by kernel_rfl) rfl (fun K hK=> ?_);go_simp;refine hK.out _ _ (fun _=>bi) ?_;clear hK K;refine ja2 (by kernel_rfl) ?_ _;go_wp2;go_meet
      (refine ⟨_,_,((s2,A2,n2,c2),t2,B2,m2,d2),((s3,A3,n3,c3),t3,B3,m3,d3),rfl,rfl,⟨by first|omega|(simp;done)|(simp;omega)|fail,by first|omega|(have e2:=hb2.size;have e3:=hb3.size;(try simp at e2);(try simp at e3);(try simp);omega)|fail,by first|omega|(have e2:=hb2.size;have e3:=hb3.size;(try simp at e2);(try simp at e3);(try simp);omega)|fail⟩,⟨?_, ?_, ?_, ?_,fun o=> ?_⟩,⟨?_, ?_, ?_, ?_,fun o=> ?_⟩,⟨?_, ?_⟩,⟨?_, ?_⟩,bi⟩ <;> first|(simp [go_sem,hf3,hf2,hc3,hc2,y2_0,y2_1,y3_0,y3_1,y3_2,y3_3,jx0,nl,Nat.ne_of_gt];done)|(simp [go_sem,hf3,hf2,hc3,hc2,y2_0,y3_0,y3_2,nls y2_0,nl,Nat.ne_of_gt];done)|exact (by with_reducible repeat first|assumption|apply rZ|refine rP ?_ rfl (by simp [go_sem,hc3,hc2,y2_0,y2_1,y3_0,y3_1,y3_2,y3_3,jx0,Nat.le_of_lt,nl,Nat.ne_of_gt])))
     -- SLOW
    case rest=>
     rename World=>wx
     obtain ⟨gh,gl,⟨⟨s1,A1,n1,c1⟩,t1,B1,m1,d1⟩,⟨⟨s2,A2,n2,c2⟩,t2,B2,m2,d2⟩,rfl,rfl,⟨hne,zl1,zl2⟩,hF1,hF2,hR1,hR2,bx⟩:=hcut;have z1:=hF1.lt;have z2:=hF2.lt;have gx:=ja9 bx k2;have HK2:=qh k2;have gzx:=Nat.lt_of_lt_of_le gz bx.size;have HBX:=qh (ja0 HBW.o bx);have HEX:=qh (HEW.o.below bx);have hAx:=HKA.o.1.below HBX.o;have hBx:=HKB.o.1.below HBX.o;have hMx:=HKM.o.1.below HBX.o;have HAX:=qh (And.intro hAx (RepF.below HKA.o.2 HBX.o));have HBBX:=qh (And.intro hBx (RepF.below HKB.o.2 HBX.o));have HMX:=qh (And.intro hMx (RepF.below HKM.o.2 HBX.o));have HF1:=qh (And.intro hF1 hR1);have HF2:=qh (And.intro hF2 hR2);have HNE:=qh (And.intro hne (And.intro zl1 zl2));obtain ⟨a0,a1,a2,a3,af⟩:=hAx;dsimp only at a0 a1 a2 a3;obtain ⟨u0,u1,u2,u3,uf⟩:=hF1;dsimp only at u0 u1 u2 u3;have za:ga < wx.heap.size:=World.block_lt_of_cell? wx _ a0;clear af uf hBx hMx hF2 hR1 hR2 k0 k1 k2 gz hne zl1 zl2
     go_upto_if 79 with (go_at_call 39;(with_reducible refine mo0 (jd7 1000 600 HJ3.o (RepF.below HAX.o.2 bi) (RepF.below HF1.o.2 bi) HZX.o HZQ.o (by omega)) fun w1 hb1 hc1 hf1 _=> ?_))
     have b1:RowKit.Below wx.heap.size wx w1:=bi;clear hc1 hf1
     go_cut [18] (fun u wz=>u= .pointer (some ⟨gh,0,none⟩)∧∃q1,FC wz gh q1∧FC wz gl ((s2,A2,n2,c2),t2,B2,m2,d2)∧jlE wz q1 a∧jlE wz ((s2,A2,n2,c2),t2,B2,m2,d2) p∧RowKit.Below W.heap.size W wz)
     case first=>
      have hAx:=HAX.o.1.below b1;have hF1:=HF1.o.1.below b1;have hF2:=HF2.o.1.below b1;have hR0:=RepF.below HAX.o.2 b1;have hR1:=RepF.below HF1.o.2 b1;have hR2:=RepF.below HF2.o.2 b1;have bz:=ja0 bx b1;cases g3 with
      | true=>
        have KA:=qh hAx;have KF:=qh hF1;obtain ⟨l0,l1,l2,l3,lf⟩:=hAx;dsimp only at l0 l1 l2 l3;have lf0:=lf 0;have lf1:=lf 1;have lf2:=lf 2;have lf3:=lf 3;clear lf;obtain ⟨k0,k1,k2,k3,kf⟩:=hF1;dsimp only at k0 k1 k2 k3;have kf0:=kf 0;have kf1:=kf 1;have kf2:=kf 2;have kf3:=kf 3;clear kf;go_wp2;go_meet;exact ⟨rfl,((s3,A3,n3,c3),t3,B3,m3,d3),KF.o.setR,hF2.otherR (fun e=>HNE.o.1 e.symm),by rw [show a=x from HGA.o];exact KF.o.repR hR0,KF.o.repR hR2,jx2 bz HNE.o.2.1⟩
      | false=>
        go_wp2;go_meet;exact ⟨rfl,_,hF1,hF2,by rw [show a=r from HGA.o];exact hR1,hR2,bz⟩
     case rest=>
      rename World=>wy
      obtain ⟨rfl,⟨⟨s5,A5,n5,c5⟩,t5,B5,m5,d5⟩,hF1,hF2,hR1,hR2,by_⟩:=hcut;have z1:=hF1.lt;have z2:=hF2.lt;have bxw:=ja0 HBW.o by_;have hAx:=HKA.o.1.below bxw;have hBx:=HKB.o.1.below bxw;have hMx:=HKM.o.1.below bxw;have HBBX:=qh (And.intro hBx (RepF.below HKB.o.2 bxw));have HMX:=qh (And.intro hMx (RepF.below HKM.o.2 bxw));have HF1:=qh (And.intro hF1 hR1);have HF2:=qh (And.intro hF2 hR2);have hk2:=ja9 by_ HK2.o;have HBY:=qh by_;obtain ⟨l0,l1,l2,l3,lf⟩:=hBx;dsimp only at l0 l1 l2 l3;obtain ⟨v0,v1,v2,v3,vf⟩:=hF2;dsimp only at v0 v1 v2 v3;have zb:gb < wy.heap.size:=World.block_lt_of_cell? wy _ l0;clear lf vf hAx hMx hF1 hR1 hR2 by_ bxw a0 a1 a2 a3 u0 u1 u2 u3 za gx gzx HAX bx b1 hb1
      go_upto_if 84 with (go_at_call 39;(with_reducible refine mo0 (jd7 1000 600 HJ4.o (RepF.below HBBX.o.2 bi) (RepF.below HF2.o.2 bi) HZY.o HZP.o (by omega)) fun w2 hb2 hc2 hf2 _=> ?_))
      have b2':RowKit.Below wy.heap.size wy w2:=bi;clear hc2 hf2
      go_cut [19] (fun u wz=>u= .pointer (some ⟨gl,0,none⟩)∧∃q2,FC wz gh ((s5,A5,n5,c5),t5,B5,m5,d5)∧FC wz gl q2∧jlE wz ((s5,A5,n5,c5),t5,B5,m5,d5) a∧jlE wz q2 e∧RowKit.Below W.heap.size W wz)
      case first=>
       have hBx:=HBBX.o.1.below b2';have hF1:=HF1.o.1.below b2';have hF2:=HF2.o.1.below b2';have hR0:=RepF.below HBBX.o.2 b2';have hR1:=RepF.below HF1.o.2 b2';have hR2:=RepF.below HF2.o.2 b2';have bz:=ja0 HBY.o b2';cases g4 with
       | true=>
         have KF:=qh hF2;obtain ⟨l0,l1,l2,l3,lf⟩:=hBx;dsimp only at l0 l1 l2 l3;have lf0:=lf 0;have lf1:=lf 1;have lf2:=lf 2;have lf3:=lf 3;clear lf;obtain ⟨k0,k1,k2,k3,kf⟩:=hF2;dsimp only at k0 k1 k2 k3;have kf0:=kf 0;have kf1:=kf 1;have kf2:=kf 2;have kf3:=kf 3;clear kf;go_wp2;go_meet;exact ⟨rfl,((s4,A4,n4,c4),t4,B4,m4,d4),hF1.otherR HNE.o.1,KF.o.setR,KF.o.repR hR1,by rw [show e=y from HGE.o];exact KF.o.repR hR0,jx2 bz HNE.o.2.2⟩
       | false=>
         go_wp2;go_meet;exact ⟨rfl,_,hF1,hF2,hR1,by rw [show e=p from HGE.o];exact hR2,bz⟩
      case rest=>
       rename World=>wz
       obtain ⟨rfl,⟨⟨s6,A6,n6,c6⟩,t6,B6,m6,d6⟩,hF1,hF2,hR1,hR2,bz⟩:=hcut;have bxw:=ja0 HBW.o bz;have hMx:=HKM.o.1.below bxw;have HMX:=qh (And.intro hMx (RepF.below HKM.o.2 bxw));have HTZ:=qh (And.intro (HTR.o.1.below bz) (RepF.below HTR.o.2 bz));have HF1:=qh (And.intro hF1 hR1);have HF2:=qh (And.intro hF2 hR2);have HEZ:=qh (HEW.o.below bz);have hk2:=ja9 bz HK2.o;have HK2:=qh hk2;have HBZ:=qh bxw;obtain ⟨hS,hd,hd2⟩:=HSS.o;obtain ⟨u0,u1,u2,u3,uf⟩:=hF1;dsimp only at u0 u1 u2 u3;obtain ⟨v0,v1,v2,v3,vf⟩:=hF2;dsimp only at v0 v1 v2 v3;clear uf vf hMx hR1 hR2 bz bxw l0 l1 l2 l3 zb hk2 b2' hb2 HBBX HTR HEW HBY z1 z2;by_cases hg:e < a
       ·rw [if_pos hg] at hS;have q3:decide (j5 < 0)=true:=by rw [decide_eq_true_iff,←HJ5.o];exact Rq.cmp_neg.2 hg
        have na:(100:Rat) - a≠0:=by have:=HHA.o;grind
        have ne:(100:Rat) - e≠0:=by have:=HHA.o;grind
        obtain ⟨P1,hP1⟩:∃z,(mass:Rat)*(100 - x) / (100 - a)=z:=⟨_,rfl⟩;obtain ⟨P2,hP2⟩:∃z,(mass:Rat)*(100 - x) / (100 - e)=z:=⟨_,rfl⟩;obtain ⟨DD,hDD⟩:∃z,P1 - P2=z:=⟨_,rfl⟩;rw [hP1,hP2,hDD] at hS;have HSA:Hd (Sz 1034 (100 - a)):=qh (((jta jc9).sub HZA.o).mono (by omega));have HSE:Hd (Sz 1034 (100 - e)):=qh (((jta jc9).sub HZE.o).mono (by omega));have HNA:=qh na;have HNE2:=qh ne;have HP1:=qh hP1;have HP2:=qh hP2;have HDE:=qh hDD;have HS1:Hd (Sz 2134 P1):=qh (hP1 ▸ HZT.o.div HSA.o na);have HS2:Hd (Sz 2134 P2):=qh (hP2 ▸ HZT.o.div HSE.o ne);have HSD:Hd (Sz 4269 DD):=qh (hDD ▸ HS1.o.sub HS2.o);have HSV:Hd (Sz 4869 (DD*v)):=qh (HSD.o.mul HZV.o);have HAD:=qh hS.symm;have HSU:Hd (Sz 20000 (enS mass x y ls i)):=qh ((jta hd).mono HKK.o.2);clear hg na ne hP1 hP2 hDD hS hd hd2;go_upto_region 21 with (go_at_call 39;(with_reducible refine mo0 (jd7 1030 1030 HJ5.o (RepF.below HF2.o.2 bi) (RepF.below HF1.o.2 bi) HZE.o HZA.o (by omega)) fun w3 hb3 hc3 hf3 _=> ?_))
        have b3:RowKit.Below wz.heap.size wz w3:=bi;have hMx:=HMX.o.1.below b3;have hF1:=HF1.o.1.below b3;have hF2:=HF2.o.1.below b3;have HMR:=qh (RepF.below HMX.o.2 b3);have HR1:=qh (RepF.below HF1.o.2 b3);have HR2:=qh (RepF.below HF2.o.2 b3);have HB3:=qh (ja0 HBZ.o b3);have HE3:=qh (HEZ.o.below b3);have HTZ:=qh (And.intro (HTZ.o.1.below b3) (RepF.below HTZ.o.2 b3));have hk2:=ja9 b3 HK2.o;have HK2:=qh hk2;clear u0 u1 u2 u3 v0 v1 v2 v3 hc3 hf3 hb3 b3 HF1 HF2 HMX;obtain ⟨l0,l1,l2,l3,lf⟩:=hMx;dsimp only at l0 l1 l2 l3;obtain ⟨u0,u1,u2,u3,uf⟩:=hF1;dsimp only at u0 u1 u2 u3;obtain ⟨v0,v1,v2,v3,vf⟩:=hF2;dsimp only at v0 v1 v2 v3;have zm:=World.block_lt_of_cell? w3 _ l0;have zu:=World.block_lt_of_cell? w3 _ u0;have zv:=World.block_lt_of_cell? w3 _ v0;dsimp only at zm zu zv;clear lf uf vf hk2
        go_cut [20] (fun u wx=>∃(gw:Nat) (qw:FT),u= .pointer (some ⟨gw,0,none⟩)∧FC wx gw qw∧jlE wx qw DD∧RowKit.Below w3.heap.size w3 wx)
        case first=>
         -- FAST
         refine ja1 (fun w'=>Below w3.heap.size w3 w') [10] (by kernel_rfl) ?_;refine tb 0 (fv sm Am nm cm tm Bm mm dm) [] rfl (by kernel_rfl) pk rfl (by intros;go_simp) bq0 ?_;refine tb 1 (fv s5 A5 n5 c5 t5 B5 m5 d5) [] rfl (by kernel_rfl) pk rfl (by intros;go_simp) bq0 ?_;refine tb 4 (fv sm Am nm cm tm Bm mm dm) [] rfl (by kernel_rfl) pk rfl (by intros;go_simp) bq0 ?_;refine tb 5 (fv s6 A6 n6 c6 t6 B6 m6 d6) [] rfl (by kernel_rfl) pk rfl (by intros;go_simp) bq0 ?_;simp only [ppq];clear l0 l1 l2 l3 u0 u1 u2 u3 v0 v1 v2 v3 zm zu zv;refine wa2 2 9 (by kernel_rfl) rfl rfl (fun K hK=> ?o27) (fun K hK=> ?o28)
         case' o27=>
          go_simp;go_wp2_with ((go_at_call 42;(with_reducible refine mf0 (jeU rfl (HR1.o.below bi) HZA.o (by omega)) fun w4 s4 A4 n4 c4 t4 B4 m4 d4 hr4 hq4 hb4 hc4 hf4 _=> ?_));have y4_0:=zlt (w3.heap.size) hb4)
          refine hK.out _ _ (fun _=>bi) ?_;clear hK K;refine wa2 3 9 (by kernel_rfl) rfl rfl (fun K hK=> ?o29) (fun K hK=> ?o30)
          case' o29=>
           go_simp;go_wp2_with ((go_at_call 43;(with_reducible refine mf0 (jeB 1100 1034 HP1.o (HMR.o.below bi) (by constructor <;> (with_reducible repeat first|assumption|apply rZ|refine rP ?_ rfl (by simp [go_sem,hc4,y4_0]))) HZT.o HSA.o (by omega) HNA.o) fun w5 s5 A5 n5 c5 t5 B5 m5 d5 hr5 hq5 hb5 hc5 hf5 _=> ?_));have y5_0:=zlt (w3.heap.size) hb5;have y5_1:=zlt (w4.heap.size) hb5)
           refine hK.out _ _ (fun _=>bi) ?_;clear hK K;refine wa2 6 9 (by kernel_rfl) rfl rfl (fun K hK=> ?o31) (fun K hK=> ?o32)
           case' o31=>
            go_simp;go_wp2_with ((go_at_call 42;(with_reducible refine mf0 (jeU rfl (HR2.o.below bi) HZE.o (by omega)) fun w6 s6 A6 n6 c6 t6 B6 m6 d6 hr6 hq6 hb6 hc6 hf6 _=> ?_));have y6_0:=zlt (w3.heap.size) hb6;have y6_1:=zlt (w4.heap.size) hb6;have y6_2:=zlt (w5.heap.size) hb6)
            refine hK.out _ _ (fun _=>bi) ?_;clear hK K;refine wa2 7 9 (by kernel_rfl) rfl rfl (fun K hK=> ?o33) (fun K hK=> ?o34)
            case' o33=>
             go_simp;go_wp2_with ((go_at_call 43;(with_reducible refine mf0 (jeB 1100 1034 HP2.o (HMR.o.below bi) (by constructor <;> (with_reducible repeat first|assumption|apply rZ|refine rP ?_ rfl (by simp [go_sem,hc6,hc5,hc4,y4_0,y5_0,y5_1]))) HZT.o HSE.o (by omega) HNE2.o) fun w7 s7 A7 n7 c7 t7 B7 m7 d7 hr7 hq7 hb7 hc7 hf7 _=> ?_));have y7_0:=zlt (w3.heap.size) hb7;have y7_1:=zlt (w4.heap.size) hb7;have y7_2:=zlt (w5.heap.size) hb7;have y7_3:=zlt (w6.heap.size) hb7)
             refine hK.out _ _ (fun _=>bi) ?_;clear hK K;refine wa2 8 9 (by kernel_rfl) rfl rfl (fun K hK=> ?o35) (fun K hK=> ?o36)
             case' o35=>
              go_simp;go_wp2_with ((go_at_call 44;(with_reducible refine mf0 (jeP 2134 2134 HDE.o (by constructor <;> (with_reducible repeat first|assumption|apply rZ|refine rP ?_ rfl (by simp [go_sem,hc7]))) (by constructor <;> (with_reducible repeat first|assumption|apply rZ|refine rP ?_ rfl (by simp [go_sem,hc7]))) HS1.o HS2.o (by omega)) fun w8 s8 A8 n8 c8 t8 B8 m8 d8 hr8 hq8 hb8 hc8 hf8 _=> ?_));have y8_0:=zlt (w3.heap.size) hb8;have y8_1:=zlt (w4.heap.size) hb8;have y8_2:=zlt (w5.heap.size) hb8;have y8_3:=zlt (w6.heap.size) hb8;have y8_4:=zlt (w7.heap.size) hb8)
              refine hK.out _ _ (fun _=>bi) ?_;clear hK K;refine wa1 9 (by kernel_rfl) rfl (fun K hK=> ?_);go_simp;refine hK.out _ _ (fun _=>bi) ?_;clear hK K
             case' o36=>
              go_simp;refine hK.out _ _ (fun _=>bi) ?_;clear hK K;refine wa1 8 (by kernel_rfl) rfl (fun K hK=> ?_);go_simp;go_wp2_with ((go_at_call 44;(with_reducible refine mf0 (jeP 2134 2134 HDE.o (by constructor <;> (with_reducible repeat first|assumption|apply rZ|refine rP ?_ rfl (by simp [go_sem,hc7]))) (by constructor <;> (with_reducible repeat first|assumption|apply rZ|refine rP ?_ rfl (by simp [go_sem,hc7]))) HS1.o HS2.o (by omega)) fun w8 s8 A8 n8 c8 t8 B8 m8 d8 hr8 hq8 hb8 hc8 hf8 _=> ?_));have y8_0:=zlt (w3.heap.size) hb8;have y8_1:=zlt (w4.heap.size) hb8;have y8_2:=zlt (w5.heap.size) hb8;have y8_3:=zlt (w6.heap.size) hb8;have y8_4:=zlt (w7.heap.size) hb8)
              refine hK.out _ _ (fun _=>bi) ?_;clear hK K
            case' o34=>
             go_simp;refine hK.out _ _ (fun _=>bi) ?_;clear hK K;refine wa1 7 (by kernel_rfl) rfl (fun K hK=> ?_);go_simp;go_wp2_with ((go_at_call 43;(with_reducible refine mf0 (jeB 1100 1034 HP2.o (HMR.o.below bi) (by constructor <;> (with_reducible repeat first|assumption|apply rZ|refine rP ?_ rfl (by simp [go_sem,hc6,hc5,hc4,y4_0,y5_0,y5_1]))) HZT.o HSE.o (by omega) HNE2.o) fun w7 s7 A7 n7 c7 t7 B7 m7 d7 hr7 hq7 hb7 hc7 hf7 _=> ?_));have y7_0:=zlt (w3.heap.size) hb7;have y7_1:=zlt (w4.heap.size) hb7;have y7_2:=zlt (w5.heap.size) hb7;have y7_3:=zlt (w6.heap.size) hb7)
             refine hK.out _ _ (fun _=>bi) ?_;clear hK K;refine wa1 8 (by kernel_rfl) rfl (fun K hK=> ?_);go_simp;go_wp2_with ((go_at_call 44;(with_reducible refine mf0 (jeP 2134 2134 HDE.o (by constructor <;> (with_reducible repeat first|assumption|apply rZ|refine rP ?_ rfl (by simp [go_sem,hc7]))) (by constructor <;> (with_reducible repeat first|assumption|apply rZ|refine rP ?_ rfl (by simp [go_sem,hc7]))) HS1.o HS2.o (by omega)) fun w8 s8 A8 n8 c8 t8 B8 m8 d8 hr8 hq8 hb8 hc8 hf8 _=> ?_));have y8_0:=zlt (w3.heap.size) hb8;have y8_1:=zlt (w4.heap.size) hb8;have y8_2:=zlt (w5.heap.size) hb8;have y8_3:=zlt (w6.heap.size) hb8;have y8_4:=zlt (w7.heap.size) hb8)
             refine hK.out _ _ (fun _=>bi) ?_;clear hK K
           case' o32=>
            go_simp;refine hK.out _ _ (fun _=>bi) ?_;clear hK K;refine wa1 6 (by kernel_rfl) rfl (fun K hK=> ?_);go_simp;go_wp2_with ((go_at_call 42;(with_reducible refine mf0 (jeU rfl (HR2.o.below bi) HZE.o (by omega)) fun w6 s6 A6 n6 c6 t6 B6 m6 d6 hr6 hq6 hb6 hc6 hf6 _=> ?_));have y6_0:=zlt (w3.heap.size) hb6;have y6_1:=zlt (w4.heap.size) hb6;have y6_2:=zlt (w5.heap.size) hb6)
            refine hK.out _ _ (fun _=>bi) ?_;clear hK K;refine wa1 7 (by kernel_rfl) rfl (fun K hK=> ?_);go_simp;go_wp2_with ((go_at_call 43;(with_reducible refine mf0 (jeB 1100 1034 HP2.o (HMR.o.below bi) (by constructor <;> (with_reducible repeat first|assumption|apply rZ|refine rP ?_ rfl (by simp [go_sem,hc6,hc5,hc4,y4_0,y5_0,y5_1]))) HZT.o HSE.o (by omega) HNE2.o) fun w7 s7 A7 n7 c7 t7 B7 m7 d7 hr7 hq7 hb7 hc7 hf7 _=> ?_));have y7_0:=zlt (w3.heap.size) hb7;have y7_1:=zlt (w4.heap.size) hb7;have y7_2:=zlt (w5.heap.size) hb7;have y7_3:=zlt (w6.heap.size) hb7)
            refine hK.out _ _ (fun _=>bi) ?_;clear hK K;refine wa1 8 (by kernel_rfl) rfl (fun K hK=> ?_);go_simp;go_wp2_with ((go_at_call 44;(with_reducible refine mf0 (jeP 2134 2134 HDE.o (by constructor <;> (with_reducible repeat first|assumption|apply rZ|refine rP ?_ rfl (by simp [go_sem,hc7]))) (by constructor <;> (with_reducible repeat first|assumption|apply rZ|refine rP ?_ rfl (by simp [go_sem,hc7]))) HS1.o HS2.o (by omega)) fun w8 s8 A8 n8 c8 t8 B8 m8 d8 hr8 hq8 hb8 hc8 hf8 _=> ?_));have y8_0:=zlt (w3.heap.size) hb8;have y8_1:=zlt (w4.heap.size) hb8;have y8_2:=zlt (w5.heap.size) hb8;have y8_3:=zlt (w6.heap.size) hb8;have y8_4:=zlt (w7.heap.size) hb8)
            refine hK.out _ _ (fun _=>bi) ?_;clear hK K
          case' o30=>
           go_simp;refine hK.out _ _ (fun _=>bi) ?_;clear hK K;refine wa1 3 (by kernel_rfl) rfl (fun K hK=> ?_);go_simp;go_wp2_with ((go_at_call 43;(with_reducible refine mf0 (jeB 1100 1034 HP1.o (HMR.o.below bi) (by constructor <;> (with_reducible repeat first|assumption|apply rZ|refine rP ?_ rfl (by simp [go_sem,hc4,y4_0]))) HZT.o HSA.o (by omega) HNA.o) fun w5 s5 A5 n5 c5 t5 B5 m5 d5 hr5 hq5 hb5 hc5 hf5 _=> ?_));have y5_0:=zlt (w3.heap.size) hb5;have y5_1:=zlt (w4.heap.size) hb5)
           refine hK.out _ _ (fun _=>bi) ?_;clear hK K;refine wa1 6 (by kernel_rfl) rfl (fun K hK=> ?_);go_simp;go_wp2_with ((go_at_call 42;(with_reducible refine mf0 (jeU rfl (HR2.o.below bi) HZE.o (by omega)) fun w6 s6 A6 n6 c6 t6 B6 m6 d6 hr6 hq6 hb6 hc6 hf6 _=> ?_));have y6_0:=zlt (w3.heap.size) hb6;have y6_1:=zlt (w4.heap.size) hb6;have y6_2:=zlt (w5.heap.size) hb6)
           refine hK.out _ _ (fun _=>bi) ?_;clear hK K;refine wa1 7 (by kernel_rfl) rfl (fun K hK=> ?_);go_simp;go_wp2_with ((go_at_call 43;(with_reducible refine mf0 (jeB 1100 1034 HP2.o (HMR.o.below bi) (by constructor <;> (with_reducible repeat first|assumption|apply rZ|refine rP ?_ rfl (by simp [go_sem,hc6,hc5,hc4,y4_0,y5_0,y5_1]))) HZT.o HSE.o (by omega) HNE2.o) fun w7 s7 A7 n7 c7 t7 B7 m7 d7 hr7 hq7 hb7 hc7 hf7 _=> ?_));have y7_0:=zlt (w3.heap.size) hb7;have y7_1:=zlt (w4.heap.size) hb7;have y7_2:=zlt (w5.heap.size) hb7;have y7_3:=zlt (w6.heap.size) hb7)
           refine hK.out _ _ (fun _=>bi) ?_;clear hK K;refine wa1 8 (by kernel_rfl) rfl (fun K hK=> ?_);go_simp;go_wp2_with ((go_at_call 44;(with_reducible refine mf0 (jeP 2134 2134 HDE.o (by constructor <;> (with_reducible repeat first|assumption|apply rZ|refine rP ?_ rfl (by simp [go_sem,hc7]))) (by constructor <;> (with_reducible repeat first|assumption|apply rZ|refine rP ?_ rfl (by simp [go_sem,hc7]))) HS1.o HS2.o (by omega)) fun w8 s8 A8 n8 c8 t8 B8 m8 d8 hr8 hq8 hb8 hc8 hf8 _=> ?_));have y8_0:=zlt (w3.heap.size) hb8;have y8_1:=zlt (w4.heap.size) hb8;have y8_2:=zlt (w5.heap.size) hb8;have y8_3:=zlt (w6.heap.size) hb8;have y8_4:=zlt (w7.heap.size) hb8)
           refine hK.out _ _ (fun _=>bi) ?_;clear hK K
         case' o28=>
          go_simp;refine hK.out _ _ (fun _=>bi) ?_;clear hK K;refine wa1 2 (by kernel_rfl) rfl (fun K hK=> ?_);go_simp;go_wp2_with ((go_at_call 42;(with_reducible refine mf0 (jeU rfl (HR1.o.below bi) HZA.o (by omega)) fun w4 s4 A4 n4 c4 t4 B4 m4 d4 hr4 hq4 hb4 hc4 hf4 _=> ?_));have y4_0:=zlt (w3.heap.size) hb4)
          refine hK.out _ _ (fun _=>bi) ?_;clear hK K;refine wa1 3 (by kernel_rfl) rfl (fun K hK=> ?_);go_simp;go_wp2_with ((go_at_call 43;(with_reducible refine mf0 (jeB 1100 1034 HP1.o (HMR.o.below bi) (by constructor <;> (with_reducible repeat first|assumption|apply rZ|refine rP ?_ rfl (by simp [go_sem,hc4,y4_0]))) HZT.o HSA.o (by omega) HNA.o) fun w5 s5 A5 n5 c5 t5 B5 m5 d5 hr5 hq5 hb5 hc5 hf5 _=> ?_));have y5_0:=zlt (w3.heap.size) hb5;have y5_1:=zlt (w4.heap.size) hb5)
          refine hK.out _ _ (fun _=>bi) ?_;clear hK K;refine wa1 6 (by kernel_rfl) rfl (fun K hK=> ?_);go_simp;go_wp2_with ((go_at_call 42;(with_reducible refine mf0 (jeU rfl (HR2.o.below bi) HZE.o (by omega)) fun w6 s6 A6 n6 c6 t6 B6 m6 d6 hr6 hq6 hb6 hc6 hf6 _=> ?_));have y6_0:=zlt (w3.heap.size) hb6;have y6_1:=zlt (w4.heap.size) hb6;have y6_2:=zlt (w5.heap.size) hb6)
          refine hK.out _ _ (fun _=>bi) ?_;clear hK K;refine wa1 7 (by kernel_rfl) rfl (fun K hK=> ?_);go_simp;go_wp2_with ((go_at_call 43;(with_reducible refine mf0 (jeB 1100 1034 HP2.o (HMR.o.below bi) (by constructor <;> (with_reducible repeat first|assumption|apply rZ|refine rP ?_ rfl (by simp [go_sem,hc6,hc5,hc4,y4_0,y5_0,y5_1]))) HZT.o HSE.o (by omega) HNE2.o) fun w7 s7 A7 n7 c7 t7 B7 m7 d7 hr7 hq7 hb7 hc7 hf7 _=> ?_));have y7_0:=zlt (w3.heap.size) hb7;have y7_1:=zlt (w4.heap.size) hb7;have y7_2:=zlt (w5.heap.size) hb7;have y7_3:=zlt (w6.heap.size) hb7)
          refine hK.out _ _ (fun _=>bi) ?_;clear hK K;refine wa1 8 (by kernel_rfl) rfl (fun K hK=> ?_);go_simp;go_wp2_with ((go_at_call 44;(with_reducible refine mf0 (jeP 2134 2134 HDE.o (by constructor <;> (with_reducible repeat first|assumption|apply rZ|refine rP ?_ rfl (by simp [go_sem,hc7]))) (by constructor <;> (with_reducible repeat first|assumption|apply rZ|refine rP ?_ rfl (by simp [go_sem,hc7]))) HS1.o HS2.o (by omega)) fun w8 s8 A8 n8 c8 t8 B8 m8 d8 hr8 hq8 hb8 hc8 hf8 _=> ?_));have y8_0:=zlt (w3.heap.size) hb8;have y8_1:=zlt (w4.heap.size) hb8;have y8_2:=zlt (w5.heap.size) hb8;have y8_3:=zlt (w6.heap.size) hb8;have y8_4:=zlt (w7.heap.size) hb8)
          refine hK.out _ _ (fun _=>bi) ?_;clear hK K
         all_goals
          refine rd1 10 (by kernel_rfl) rfl (fun K hK=> ?_);go_simp;refine hK.out _ _ (fun h=>(h (by decide)).elim) ?_;clear hK K;refine ja2 (by kernel_rfl) ?_ _;go_wp2;go_meet
          (refine ⟨_,((s8,A8,n8,c8),t8,B8,m8,d8),rfl,⟨?_, ?_, ?_, ?_,fun o=> ?_⟩,⟨?_, ?_⟩,bi⟩ <;> first|(simp [go_sem,hf8,hf7,hf6,hf5,hf4,hc8,hc7,hc6,hc5,hc4,y4_0,y5_0,y5_1,y6_0,y6_1,y6_2,y7_0,y7_1,y7_2,y7_3,y8_0,y8_1,y8_2,y8_3,y8_4];done)|exact (by with_reducible repeat first|assumption|apply rZ|refine rP ?_ rfl (by simp [go_sem,hc8,hc7,hc6,hc5,hc4,y4_0,y5_0,y5_1,y6_0,y6_1,y6_2,y7_0,y7_1,y7_2,y7_3,y8_0,y8_1,y8_2,y8_3,y8_4])))
         -- SLOW
        case rest=>
         rename World=>wv
         obtain ⟨gw,⟨⟨s9,A9,n9,c9⟩,t9,B9,m9,d9⟩,rfl,hW,hWR,bv⟩:=hcut;have hTT:=HTZ.o.1.below bv;have HTT:=qh (RepF.below HTZ.o.2 bv);have HWR:=qh hWR;have hk2:=ja9 bv HK2.o;have HEV:=qh (HE3.o.below bv);have HBV2:=qh (ja0 HB3.o bv);have HFT:=qh hTT;have gvz:=World.block_lt_of_cell? wv _ hk2;have gwz:=hW.lt;have gtz:=hTT.lt;dsimp only at gvz;obtain ⟨u0,u1,u2,u3,uf⟩:=hTT;dsimp only at u0 u1 u2 u3;obtain ⟨v0,v1,v2,v3,vf⟩:=hW;dsimp only at v0 v1 v2 v3;clear l0 l1 l2 l3 uf vf zm zu zv hWR bv HR1 HR2 HMR HTZ HE3 HB3;go_upto_region 22 with (fail)
         refine ja1 (fun w'=>Below wv.heap.size wv w') [7] (by kernel_rfl) ?_;refine tb 0 (fv sT AT nT cT tT BT mT dT) [] rfl (by kernel_rfl) pk rfl (by intros;go_simp) bq0 ?_;refine tb 1 (fv s9 A9 n9 c9 t9 B9 m9 d9) [] rfl (by kernel_rfl) pk rfl (by intros;go_simp) bq0 ?_;refine tb 2 (.pointer (some ⟨g,2,none⟩)) [] rfl (by kernel_rfl) pk rfl (by intros;go_simp) bq0 ?_;refine tb 3 (bs x2) [] rfl (by kernel_rfl) pk rfl (by intros;go_simp) bq0 ?_;simp only [ppq];refine rd1 4 (by kernel_rfl) rfl (fun K hK=> ?_);go_simp;go_wp2_with (go_at_call 35;(with_reducible refine mf0 (jaz HX2.o (HEV.o.below bi)) fun w9 s9 A9 n9 c9 t9 B9 m9 d9 hr9 hq9 hb9 hc9 hf9 _=> ?_))
         have sS9:=qh (bst bq0 hb9);refine hK.out _ _ (fun _=>sS9.o) ?_;clear hK K;refine rd1 5 (by kernel_rfl) rfl (fun K hK=> ?_);go_simp;go_wp2_with (go_at_call 41;(with_reducible refine mf0 (jbO 4269 600 rfl (HWR.o.below bi) ⟨hr9,hq9⟩ HSD.o HZV.o (by omega)) fun w10 s10 A10 n10 c10 t10 B10 m10 d10 hr10 hq10 hb10 hc10 hf10 _=> ?_))
         have sS10:=qh (bst sS9.o hb10);refine hK.out _ _ (fun _=>sS10.o) ?_;clear hK K;refine rd1 6 (by kernel_rfl) rfl (fun K hK=> ?_);go_simp;go_wp2_with (go_at_call 45;(with_reducible refine mf0 (jo7 20000 4869 HAD.o (HTT.o.below bi) ⟨hr10,hq10⟩ HSU.o HSV.o (by omega)) fun w11 s11 A11 n11 c11 t11 B11 m11 d11 hr11 hq11 hb11 hc11 hf11 _=> ?_))
         have sS11:=qh (bst sS10.o hb11);refine hK.out _ _ (fun _=>sS11.o) ?_;clear hK K;have b11:RowKit.Below wv.heap.size wv w11:=bi;have hTT:=HFT.o.below b11;have KF:=qh hTT;have B11':=ja0 HBV2.o b11;clear u0 u1 u2 u3 v0 v1 v2 v3 hc9 hc10 hc11 hf9 hf10 hf11 hk2 gvz gwz gtz;obtain ⟨u0,u1,u2,u3,uf⟩:=hTT;dsimp only at u0 u1 u2 u3;have uf0:=uf 0;have uf1:=uf 1;have uf2:=uf 2;have uf3:=uf 3;clear uf;refine rd1 7 (by kernel_rfl) rfl (fun K hK=> ?_);go_simp;refine hK.out _ _ (fun h=>(h (by decide)).elim) ?_;clear hK K;refine ja2 (by kernel_rfl) ?_ _;have hnn:=HKK.o.1;go_wp2;have hi:=HI.o;exact ⟨⟨i+1,((s11,A11,n11,c11),t11,B11,m11,d11),by simp,hi,jx2 B11' HTG.o,KF.o.setR,KF.o.repR ⟨hr11,hq11⟩⟩,by simp [intOf];omega⟩
       ·rw [if_neg hg,Rat.add_zero] at hS;have q3:decide (j5 < 0)=false:=by rw [decide_eq_false_iff_not,←HJ5.o];exact fun z=>hg (Rq.cmp_neg.1 z)
        have HSI:=qh hS;have hnn:=HKK.o.1;clear hg hS hd hd2;go_wp2_with (go_at_call 39;(with_reducible refine mo0 (jd7 1030 1030 HJ5.o (RepF.below HF2.o.2 bi) (RepF.below HF1.o.2 bi) HZE.o HZA.o (by omega)) fun w3 hb3 hc3 hf3 _=> ?_))
        have hi:=HI.o;exact ⟨⟨i+1,_,by simp,hi,ja0 HBZ.o hb3,HTZ.o.1.below hb3,by rw [HSI.o];exact RepF.below HTZ.o.2 hb3⟩,by simp [intOf];omega⟩
   ·have q0:decide (i < n)=false:=by simp;omega
    obtain rfl:i=n:=by omega
    have HTT:=qh hR;have hER:=HE.o.below (ja0 HBV.o hb);have HER:=qh hER;have HBR:=qh (ja0 HBV.o hb);obtain ⟨e0,e1,e2,e3,ef⟩:=hT;dsimp only at e0 e1 e2 e3;clear hi hb hR hER ef;go_wp2_with (go_at_call 46;(with_reducible refine mo0 (jpA HGV.o.1 HGV.o.2 (RepF.below HTT.o bi) (HER.o.below bi) HST.o) fun w13 hb13 hc13 hf13 _=> ?_))
    go_ret2;exact ⟨rfl,ja0 HBR.o bi⟩
end
end Go.Proofs.YtdjppepcckedkaaGreatDoor
