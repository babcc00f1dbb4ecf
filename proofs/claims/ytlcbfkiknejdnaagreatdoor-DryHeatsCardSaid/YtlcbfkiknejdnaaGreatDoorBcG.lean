/- Parts. -/
import Derived.Test.YtlcbfkiknejdnaaGreatDoorBb
set_option linter.all false
set_option maxRecDepth 100000
set_option maxHeartbeats 8000000
namespace Go.Proofs.YtlcbfkiknejdnaaGreatDoor
open Go Go.RowKit

noncomputable def enT (mass:Int) (x y:Rat) (b:Bd):Rat:=if jww y (numQ b.1) < jwt x (numQ b.2.1) then ((mass:Rat)*(100 - x) / (100 - jwt x (numQ b.2.1)) - (mass:Rat)*(100 - x) / (100 - jww y (numQ b.1)))*numQ b.2.2 else 0
noncomputable def enS (mass:Int) (x y:Rat) (ls:List Bd):Nat→Rat
 | 0=>0
 | i+1=>enS mass x y ls i+enT mass x y (ls.getD i ([],[],[]))
noncomputable def jx2 (ls:List Bd) (x y:Rat):Int:=if numQ (ls.getD (ls.length - 1) ([],[],[])).2.1 < x∨y < numQ (ls.getD 0 ([],[],[])).1 then 3 else 0
theorem jwH {k m:Nat} {x y:Rat} (hx:Dz k x) (hy:Dz m y):Dz (k+m) (jwt x y):=by
 unfold jwt;split
 ·exact hy.mono (Nat.le_add_left m k)
 ·exact hx.mono (Nat.le_add_right k m)
theorem jwF {k m:Nat} {x y:Rat} (hx:Dz k x) (hy:Dz m y):Dz (k+m) (jww x y):=by
 unfold jww;split
 ·exact hy.mono (Nat.le_add_left m k)
 ·exact hx.mono (Nat.le_add_right k m)
structure BdOk (k:Nat) (b:Bd) (p q v:Rat):Prop where
 e0:b.1=tq p
 e1:b.2.1=tq q
 e2:b.2.2=tq v
 n0:numQ b.1=p
 n1:numQ b.2.1=q
 n2:numQ b.2.2=v
 d0:Dz k p
 d1:Dz k q
 d2:Dz k v
 p0:0≤p
 pq:p < q
 q1:q < 100
 v0:0≤v
theorem jxk {k i:Nat} {ls:List Bd} (h:bdE ls i=0) (hl:(ls.getD i ([],[],[])).1.length≤k∧(ls.getD i ([],[],[])).2.1.length≤k∧(ls.getD i ([],[],[])).2.2.length≤k) (hk:0 < k):BdOk k (ls.getD i ([],[],[])) (numQ (ls.getD i ([],[],[])).1) (numQ (ls.getD i ([],[],[])).2.1) (numQ (ls.getD i ([],[],[])).2.2):=by
 unfold bdE at h;obtain ⟨b,hb⟩:∃b,ls.getD i ([],[],[])=b:=⟨_,rfl⟩;rw [hb] at h hl ⊢;by_cases h0:bdC b=0
 ·rw [if_pos h0] at h;obtain ⟨z0,z1,z2⟩:=jwv h0;have n0:=jjb z0;have n1:=jjb z1;have n2:=jjb z2;by_cases h1:bdR b=0
  ·unfold bdR at h1;have h2:¬(numQ b.1 < 0∨numQ b.2.1≤numQ b.1∨100≤numQ b.2.1∨numQ b.2.2 < 0):=fun e=>by rw [if_pos e] at h1;cases h1
   refine ⟨n0.eq,n1.eq,n2.eq,rfl,rfl,rfl,n0.dzl hl.1 hk,n1.dzl hl.2.1 hk,n2.dzl hl.2.2 hk, ?_, ?_, ?_, ?_⟩
   ·exact Rat.not_lt.1 fun e=>h2 (.inl e)
   ·exact Rat.not_le.1 fun e=>h2 (.inr (.inl e))
   ·exact Rat.not_le.1 fun e=>h2 (.inr (.inr (.inl e)))
   ·exact Rat.not_lt.1 fun e=>h2 (.inr (.inr (.inr e)))
  ·rw [if_neg h1] at h;exact absurd h h1
 ·rw [if_neg h0] at h;exact absurd h h0
section
variable {w:World} {A:Option Addr} {n c:Nat} {ls:List Bd} {x y:Rat} {k:Nat}
theorem jwL {R:Int} (h:Bv w A n ls) (h0:0 < n) (hn:n≤100000) (hB:∀i,i < n→BdOk k (ls.getD i ([],[],[])) (numQ (ls.getD i ([],[],[])).1) (numQ (ls.getD i ([],[],[])).2.1) (numQ (ls.getD i ([],[],[])).2.2)) (hx:Dz k x) (hy:Dz k y) (hk:0 < k) (hk2:k≤1000) (hR:jx2 ls x y=R):
  Calls Tryz.prog 11 #[.slice A n c,bs (tq x),bs (tq y)] w fun e w'=>e= .returned (.int .i64 R)∧Below w.heap.size w w':=by
 obtain ⟨b,o,rfl,hbl,hcell⟩:=h.at_ h0;have c1:=(hcell (n - 1) (by omega)).2.1;have c2:=(hcell 0 h0).1;have o1:=hB (n - 1) (by omega);have o2:=hB 0 h0;have hlen:=h.len;unfold jx2 at hR;rw [hlen] at hR;obtain ⟨q,hq⟩:∃q,numQ (ls.getD (n - 1) ([],[],[])).2.1=q:=⟨_,rfl⟩;obtain ⟨p,hp⟩:∃q,numQ (ls.getD 0 ([],[],[])).1=q:=⟨_,rfl⟩;have d1:=o1.d1;have d2:=o2.d0;rw [o1.e1] at c1;rw [o2.e0] at c2;rw [hq] at d1 hR c1;rw [hp] at d2 hR c2;rw [show o+0*3=o by omega] at c2;obtain ⟨j1,hj1⟩:∃j,Rq.cmpQ x q=j:=⟨_,rfl⟩;obtain ⟨j2,hj2⟩:∃j,Rq.cmpQ y p=j:=⟨_,rfl⟩;have HJ1:=qh (fun W=>jko (w:=W) hj1 hx d1 hk hk (by omega) (by omega));have HJ2:=qh (fun W=>jko (w:=W) hj2 hy d2 hk hk (by omega) (by omega));have m1:wrap64 ((n:Int) - 1)=((n - 1:Nat):Int):=by unfold wrap64;omega
 have hi1:n - 1 < n:=by omega
 obtain ⟨X,hX⟩:∃X,tq x=X:=⟨_,rfl⟩;obtain ⟨Y,hY⟩:∃X,tq y=X:=⟨_,rfl⟩;obtain ⟨Q,hQ⟩:∃X,tq q=X:=⟨_,rfl⟩;obtain ⟨P,hP⟩:∃X,tq p=X:=⟨_,rfl⟩;rw [hX,hQ] at HJ1;rw [hY,hP] at HJ2;rw [hQ] at c1;rw [hP] at c2;rw [hX,hY];by_cases g1:q < x
 ·rw [if_pos (.inl g1)] at hR;subst hR;have q1:decide (0 < j1)=true:=by rw [decide_eq_true_iff,←hj1];exact Rq.cmp_pos.2 g1
  clear h hB o1 o2 hcell hlen hx hy d1 d2 hj1 hj2 hX hY hQ hP hq hp g1;go_enter Tryz.func11,Tryz.ntmps11;go_wp2_with (go_at_call 41;(with_reducible refine mo0 (HJ1.out _) fun w1 hb1 hc1 hf1 _=> ?_))
  go_ret;exact ⟨rfl,bi⟩
 ·have q1:decide (0 < j1)=false:=by rw [decide_eq_false_iff_not,←hj1];exact fun e=>g1 (Rq.cmp_pos.1 e)
  by_cases g2:y < p
  ·rw [if_pos (.inr g2)] at hR;subst hR;have q2:decide (j2 < 0)=true:=by rw [decide_eq_true_iff,←hj2];exact Rq.cmp_neg.2 g2
   clear h hB o1 o2 hcell hlen hx hy d1 d2 hj1 hj2 hX hY hQ hP hq hp g1 g2;go_enter Tryz.func11,Tryz.ntmps11;go_wp2_with (first|(go_at_call 41;(with_reducible show Calls _ _ #[bs X,bs Q] _ _);(with_reducible refine mo0 (HJ1.out _) fun w1 hb1 hc1 hf1 _=> ?_))|(go_at_call 41;(with_reducible refine mo0 (HJ2.out _) fun w2 hb2 hc2 hf2 _=> ?_)))
   go_ret;exact ⟨rfl,bi⟩
  ·rw [if_neg (fun e=>e.elim g1 g2)] at hR;subst hR;have q2:decide (j2 < 0)=false:=by rw [decide_eq_false_iff_not,←hj2];exact fun e=>g2 (Rq.cmp_neg.1 e)
   clear h hB o1 o2 hcell hlen hx hy d1 d2 hj1 hj2 hX hY hQ hP hq hp g1 g2;go_enter Tryz.func11,Tryz.ntmps11;go_wp2_with (first|(go_at_call 41;(with_reducible show Calls _ _ #[bs X,bs Q] _ _);(with_reducible refine mo0 (HJ1.out _) fun w1 hb1 hc1 hf1 _=> ?_))|(go_at_call 41;(with_reducible refine mo0 (HJ2.out _) fun w2 hb2 hc2 hf2 _=> ?_)))
   go_ret;exact ⟨rfl,bi⟩
end

section
variable {w:World} {A:Option Addr} {n c:Nat} {ls:List Bd} {x y:Rat} {mass:Int}
theorem jwy (x y:Rat):jwt x y≤x:=by unfold jwt;split <;> grind
theorem jxm {p q v:Rat} (h1:1≤mass) (h2:mass≤999999999) (dx:Dz 30 x) (dy:Dz 30 y) (hx:x < 100) {b:Bd} (o:BdOk 30 b p q v):Dz 260 (enT mass x y b):=by
 unfold enT;rw [o.n0,o.n1,o.n2];split
 ·rename_i hc
  have da:=jwH dx o.d1;have dc:=jwF dy o.d0;have ha:jwt x q≤x:=jwy x q;have n1:(100:Rat) - jwt x q≠0:=by grind
  have n2:(100:Rat) - jww y p≠0:=by grind
  exact (((((dzm h1 h2).mul (jc9.sub dx)).div (jc9.sub da) n1).sub (((dzm h1 h2).mul (jc9.sub dx)).div (jc9.sub dc) n2)).mul o.d2).mono (by omega)
 ·exact ⟨by decide+kernel,by decide+kernel⟩
theorem jwX (h1:1≤mass) (h2:mass≤999999999) (dx:Dz 30 x) (dy:Dz 30 y) (hx:x < 100) (hB:∀i,i < n→BdOk 30 (ls.getD i ([],[],[])) (numQ (ls.getD i ([],[],[])).1) (numQ (ls.getD i ([],[],[])).2.1) (numQ (ls.getD i ([],[],[])).2.2)):∀i,i≤n→Dz (1+300*i) (enS mass x y ls i)
 | 0,_=>show Dz 1 (0:Rat) from ⟨by decide+kernel,by decide+kernel⟩
 | i+1,hi=>by
   have h:=jwX h1 h2 dx dy hx hB i (by omega);exact (h.add (jxm h1 h2 dx dy hx (hB i (by omega)))).mono (by omega)
set_option maxHeartbeats 16000000 in
theorem jwO (h:Bv w A n ls) (hn:n≤6) (h1:1≤mass) (h2:mass≤999999999) (dx:Dz 30 x) (dy:Dz 30 y) (hx:x < 100) (hB:∀i,i < n→BdOk 30 (ls.getD i ([],[],[])) (numQ (ls.getD i ([],[],[])).1) (numQ (ls.getD i ([],[],[])).2.1) (numQ (ls.getD i ([],[],[])).2.2)):
  Calls Tryz.prog 12 #[.slice A n c, .int .i64 mass,bs (tq x),bs (tq y)] w (QP (enS mass x y ls n) w):=by
 unfold QP;have HD:=qh (jwX h1 h2 dx dy hx hB);have H:=qh h;have HN:=qh hn;have HB:=qh hB;have HM:=qh (And.intro h1 (And.intro h2 (And.intro dx (And.intro dy hx))));obtain ⟨X,hX⟩:∃X,tq x=X:=⟨_,rfl⟩;obtain ⟨Y,hY⟩:∃X,tq y=X:=⟨_,rfl⟩;rw [hX,hY];have HX:=qh (And.intro hX hY);have z0:bs [48]=bs (tq (enS mass x y ls 0)):=by rw [show tq (enS mass x y ls 0)=[48] from (show tq (0:Rat)=[48] by decide+kernel)]
 clear h hn h1 h2 dx dy hx hB hX hY;go_enter Tryz.func12,Tryz.ntmps12;go_wp2
 go_loopw [9,10] (fun t u wr=>∃(i:Nat),t=bs (tq (enS mass x y ls i))∧u= .int .i64 (i:Int)∧i≤n∧Below w.heap.size w wr) (fun _ u _=>n - (intOf u).toNat)
 case atStart=>exact ⟨0,z0,rfl,Nat.zero_le _,bi⟩
 case round=>
  obtain ⟨i,rfl,rfl,hin,hb⟩:=hrel;have _:=bm hb;have hnn:=HN.out;by_cases hi:i < n
  ·have q0:decide ((i:Int) < (n:Int))=true:=by simp;exact hi
   have q9:decide (i < n)=true:=by simpa using hi
   obtain ⟨b,o,rfl,hbl,hcell⟩:=(H.out.below hb).at_ (by omega);obtain ⟨y0,y1,y2⟩:=hcell i hi;have ho:=HB.out i hi;have hd:=HD.out i (by omega);obtain ⟨p,hp⟩:∃p,numQ (ls.getD i ([],[],[])).1=p:=⟨_,rfl⟩;obtain ⟨q,hq⟩:∃p,numQ (ls.getD i ([],[],[])).2.1=p:=⟨_,rfl⟩;obtain ⟨v,hv⟩:∃p,numQ (ls.getD i ([],[],[])).2.2=p:=⟨_,rfl⟩;rw [hp,hq,hv] at ho;rw [ho.e0] at y0;rw [ho.e1] at y1;rw [ho.e2] at y2;have hS:enS mass x y ls (i+1)=enS mass x y ls i+enT mass x y (ls.getD i ([],[],[])):=rfl;have hT:enT mass x y (ls.getD i ([],[],[]))=if jww y p < jwt x q then ((mass:Rat)*(100 - x) / (100 - jwt x q) - (mass:Rat)*(100 - x) / (100 - jww y p))*v else 0:=by unfold enT;rw [hp,hq,hv]
   rw [hT] at hS;obtain ⟨h1,h2,dx,dy,hx⟩:=HM.out;obtain ⟨a,ha⟩:∃a,jwt x q=a:=⟨_,rfl⟩;obtain ⟨e,he⟩:∃a,jww y p=a:=⟨_,rfl⟩;have da:=jwH dx ho.d1;have de:=jwF dy ho.d0;have hax:=jwy x q;have HMI:=qh (fun W=>jxl (w:=W) dx ho.d1 (by omega) (by omega) (by omega) (by omega));have HMA:=qh (fun W=>jxi (w:=W) dy ho.d0 (by omega) (by omega) (by omega) (by omega));rw [ha,he] at hS;rw [ha] at da HMI hax;rw [he] at de HMA;obtain ⟨j,hj⟩:∃j,Rq.cmpQ e a=j:=⟨_,rfl⟩;have HJ:=qh (fun W=>jko (w:=W) hj de da (by omega) (by omega) (by omega) (by omega));have hv2:=ho.d2;unfold QP at HMI HMA;rw [HX.out.1] at HMI;rw [HX.out.2] at HMA;obtain ⟨TA,hTA⟩:∃X,tq a=X:=⟨_,rfl⟩;obtain ⟨TE,hTE⟩:∃X,tq e=X:=⟨_,rfl⟩;obtain ⟨TP,hTP⟩:∃X,tq p=X:=⟨_,rfl⟩;obtain ⟨TQ,hTQ⟩:∃X,tq q=X:=⟨_,rfl⟩;obtain ⟨TV,hTV⟩:∃X,tq v=X:=⟨_,rfl⟩;obtain ⟨TS,hTS⟩:∃X,tq (enS mass x y ls i)=X:=⟨_,rfl⟩;rw [hTP] at y0 HMA;rw [hTQ] at y1 HMI;rw [hTV] at y2;rw [hTA] at HMI;rw [hTE] at HMA;rw [hTE,hTA] at HJ;rw [hTS];have HI:=qh hi;have HY2:=qh y2;by_cases g:e < a
   ·rw [if_pos g] at hS;have q3:decide (j < 0)=true:=by rw [decide_eq_true_iff,←hj];exact Rq.cmp_neg.2 g
    have n1:(100:Rat) - a≠0:=by grind
    have n2:(100:Rat) - e≠0:=by grind
    obtain ⟨P1,hP1⟩:∃z,(mass:Rat)*(100 - x) / (100 - a)=z:=⟨_,rfl⟩;obtain ⟨P2,hP2⟩:∃z,(mass:Rat)*(100 - x) / (100 - e)=z:=⟨_,rfl⟩;have dP1:Dz 120 P1:=hP1 ▸ (((dzm h1 h2).mul (jc9.sub dx)).div (jc9.sub da) n1).mono (by omega);have dP2:Dz 120 P2:=hP2 ▸ (((dzm h1 h2).mul (jc9.sub dx)).div (jc9.sub de) n2).mono (by omega);have HW1:=qh (fun W=>jkl (w:=W) h1 h2 dx da (by omega) (by omega) (by omega) (by omega) n1);have HW2:=qh (fun W=>jkl (w:=W) h1 h2 dx de (by omega) (by omega) (by omega) (by omega) n2);have HSU:=qh (fun W=>jg3 (w:=W) dP1 dP2 (by omega) (by omega) (by omega) (by omega));have HMU:=qh (fun W=>jka (w:=W) (dP1.sub dP2) hv2 (by omega) (by omega) (by omega) (by omega));have HAD:=qh (fun W=>jto (w:=W) hd ((dP1.sub dP2).mul hv2) (by omega) (by omega) (by omega) (by omega));rw [hP1,hP2] at hS;rw [hP1] at HW1;rw [hP2] at HW2;rw [←hS] at HAD;unfold QP at HW1 HW2 HSU HMU HAD;obtain ⟨T1,hT1⟩:∃X,tq P1=X:=⟨_,rfl⟩;obtain ⟨T2,hT2⟩:∃X,tq P2=X:=⟨_,rfl⟩;obtain ⟨T3,hT3⟩:∃X,tq (P1 - P2)=X:=⟨_,rfl⟩;obtain ⟨T4,hT4⟩:∃X,tq ((P1 - P2)*v)=X:=⟨_,rfl⟩;obtain ⟨T5,hT5⟩:∃X,tq (enS mass x y ls (i+1))=X:=⟨_,rfl⟩;rw [HX.out.1,hTA,hT1] at HW1;rw [HX.out.1,hTE,hT2] at HW2;rw [hT1,hT2,hT3] at HSU;rw [hT3,hTV,hT4] at HMU;rw [hTS,hT4,hT5] at HAD;have HT5:=qh hT5;clear hcell ho hd hp hq hv hS hT h1 h2 dx dy hx ha he da de hax hj hv2 hTA hTE hTP hTQ hTV hTS g n1 n2 hP1 hP2 dP1 dP2 hT1 hT2 hT3 hT4 hT5;go_upto_region 5 with (fail)
    refine ja1 (fun w'=>Below wr.heap.size wr w') [] (by kernel_rfl) ?_;refine tb 0 (bs X) [] rfl (by kernel_rfl) pk rfl (by intros;go_simp) bq0 ?_;refine tb 1 (.slice (some ⟨b,o,none⟩) n c) [] rfl (by kernel_rfl) pk rfl (by intros;go_simp) bq0 ?_;refine tb 2 (.int .i64 (i:Int)) [] rfl (by kernel_rfl) pk rfl (by intros;go_simp) bq0 ?_;refine tb 3 (.pointer (some ⟨b,o+i*3,none⟩)) [] rfl (by kernel_rfl) pk rfl (by intros;go_simp) bq0 ?_;refine tb 4 (.pointer (some ⟨b,o+i*3+1,none⟩)) [] rfl (by kernel_rfl) pk rfl (by intros;go_simp) bq0 ?_;refine tb 5 (bs TQ) [] rfl (by kernel_rfl) pk rfl (by intros;go_simp) bq0 ?_;refine tb 7 (bs Y) [] rfl (by kernel_rfl) pk rfl (by intros;go_simp) bq0 ?_;refine tb 8 (.slice (some ⟨b,o,none⟩) n c) [] rfl (by kernel_rfl) pk rfl (by intros;go_simp) bq0 ?_;refine tb 9 (.int .i64 (i:Int)) [] rfl (by kernel_rfl) pk rfl (by intros;go_simp) bq0 ?_;refine tb 10 (.pointer (some ⟨b,o+i*3,none⟩)) [] rfl (by kernel_rfl) pk rfl (by intros;go_simp) bq0 ?_;refine tb 11 (.pointer (some ⟨b,o+i*3,none⟩)) [] rfl (by kernel_rfl) pk rfl (by intros;go_simp) bq0 ?_;refine tb 12 (bs TP) [] rfl (by kernel_rfl) pk rfl (by intros;go_simp) bq0 ?_;simp only [ppq];refine rd1 6 (by kernel_rfl) rfl (fun K hK=> ?_);go_simp;go_wp2_with (go_at_call 49;(with_reducible refine mo0 (HMI.out _) fun w1 hb1 hc1 hf1 _=> ?_))
    have sS1:=qh (bst bq0 hb1);refine hK.out _ _ (fun _=>sS1.out) ?_;clear hK K;refine rd1 13 (by kernel_rfl) rfl (fun K hK=> ?_);go_simp;go_wp2_with (go_at_call 50;(with_reducible refine mo0 (HMA.out _) fun w2 hb2 hc2 hf2 _=> ?_))
    have sS2:=qh (bst sS1.out hb2);refine hK.out _ _ (fun _=>sS2.out) ?_;clear hK K;refine rd1 14 (by kernel_rfl) rfl (fun K hK=> ?_);go_simp;refine hK.out _ _ (fun _=>bi) ?_;clear hK K;refine rd1 15 (by kernel_rfl) rfl (fun K hK=> ?_);go_simp;refine hK.out _ _ (fun _=>bi) ?_;clear hK K;refine ja2 (by kernel_rfl) ?_ _;go_upto_region 8 with (first|(go_at_call 41;(with_reducible refine mo0 (HJ.out _) fun w3 hb3 hc3 hf3 _=> ?_))|(go_at_call 52;(with_reducible show Calls _ _ #[.int .i64 mass,bs X,bs TA] _ _);(with_reducible refine mo0 (HW1.out _) fun w4 hb4 hc4 hf4 _=> ?_))|(go_at_call 52;(with_reducible show Calls _ _ #[.int .i64 mass,bs X,bs TE] _ _);(with_reducible refine mo0 (HW2.out _) fun w5 hb5 hc5 hf5 _=> ?_))|(go_at_call 51;(with_reducible refine mo0 (HSU.out _) fun w6 hb6 hc6 hf6 _=> ?_)))
    have b6:RowKit.Below wr.heap.size wr w6:=bi;have y2:=ja9 b6 HY2.out;have hi:=HI.out;go_wp2_with (first|(go_at_call 54;(with_reducible refine mo0 (HMU.out _) fun w7 hb7 hc7 hf7 _=> ?_))|(go_at_call 53;(with_reducible refine mo0 (HAD.out _) fun w8 hb8 hc8 hf8 _=> ?_)))
    exact ⟨⟨i+1,by rw [HT5.out],by simp,hi,ja0 hb bi⟩,by simp [intOf];omega⟩
   ·rw [if_neg g,Rat.add_zero] at hS;have q3:decide (j < 0)=false:=by rw [decide_eq_false_iff_not,←hj];exact fun e=>g (Rq.cmp_neg.1 e)
    have HTS:=qh (show tq (enS mass x y ls (i+1))=TS by rw [hS,hTS]);clear hcell ho hd hp hq hv hS hT h1 h2 dx dy hx ha he da de hax hj hv2 hTA hTE hTP hTQ hTV hTS g;go_upto_region 5 with (fail)
    refine ja1 (fun w'=>Below wr.heap.size wr w') [] (by kernel_rfl) ?_;refine tb 0 (bs X) [] rfl (by kernel_rfl) pk rfl (by intros;go_simp) bq0 ?_;refine tb 1 (.slice (some ⟨b,o,none⟩) n c) [] rfl (by kernel_rfl) pk rfl (by intros;go_simp) bq0 ?_;refine tb 2 (.int .i64 (i:Int)) [] rfl (by kernel_rfl) pk rfl (by intros;go_simp) bq0 ?_;refine tb 3 (.pointer (some ⟨b,o+i*3,none⟩)) [] rfl (by kernel_rfl) pk rfl (by intros;go_simp) bq0 ?_;refine tb 4 (.pointer (some ⟨b,o+i*3+1,none⟩)) [] rfl (by kernel_rfl) pk rfl (by intros;go_simp) bq0 ?_;refine tb 5 (bs TQ) [] rfl (by kernel_rfl) pk rfl (by intros;go_simp) bq0 ?_;refine tb 7 (bs Y) [] rfl (by kernel_rfl) pk rfl (by intros;go_simp) bq0 ?_;refine tb 8 (.slice (some ⟨b,o,none⟩) n c) [] rfl (by kernel_rfl) pk rfl (by intros;go_simp) bq0 ?_;refine tb 9 (.int .i64 (i:Int)) [] rfl (by kernel_rfl) pk rfl (by intros;go_simp) bq0 ?_;refine tb 10 (.pointer (some ⟨b,o+i*3,none⟩)) [] rfl (by kernel_rfl) pk rfl (by intros;go_simp) bq0 ?_;refine tb 11 (.pointer (some ⟨b,o+i*3,none⟩)) [] rfl (by kernel_rfl) pk rfl (by intros;go_simp) bq0 ?_;refine tb 12 (bs TP) [] rfl (by kernel_rfl) pk rfl (by intros;go_simp) bq0 ?_;simp only [ppq];refine rd1 6 (by kernel_rfl) rfl (fun K hK=> ?_);go_simp;go_wp2_with (go_at_call 49;(with_reducible refine mo0 (HMI.out _) fun w1 hb1 hc1 hf1 _=> ?_))
    have sS1:=qh (bst bq0 hb1);refine hK.out _ _ (fun _=>sS1.out) ?_;clear hK K;refine rd1 13 (by kernel_rfl) rfl (fun K hK=> ?_);go_simp;go_wp2_with (go_at_call 50;(with_reducible refine mo0 (HMA.out _) fun w2 hb2 hc2 hf2 _=> ?_))
    have sS2:=qh (bst sS1.out hb2);refine hK.out _ _ (fun _=>sS2.out) ?_;clear hK K;refine rd1 14 (by kernel_rfl) rfl (fun K hK=> ?_);go_simp;refine hK.out _ _ (fun _=>bi) ?_;clear hK K;refine rd1 15 (by kernel_rfl) rfl (fun K hK=> ?_);go_simp;refine hK.out _ _ (fun _=>bi) ?_;clear hK K;refine ja2 (by kernel_rfl) ?_ _;go_wp2_with (first|(go_at_call 41;(with_reducible refine mo0 (HJ.out _) fun w3 hb3 hc3 hf3 _=> ?_)))
    have hi:=HI.out;exact ⟨⟨i+1,by rw [HTS.out],by simp,hi,ja0 hb bi⟩,by simp [intOf];omega⟩
  ·have q0:decide (i < n)=false:=by simp;omega
   obtain rfl:i=n:=by omega
   clear hi;go_wp2;go_ret;exact ⟨rfl,hb⟩
end

section
variable {w:World} {A:Option Addr} {n c:Nat} {ls:List Bd} {a t:List UInt8} {mass:Int}
theorem jwz {k:Int} (hE:Env w) (h:Bv w A n ls) (hn:n≤100000) (hl:∀l∈ls,l.1.length < 4294967281∧l.2.1.length < 4294967281∧l.2.2.length < 4294967281) (hk:jwJ ls n=k) (h0:k≠0):
  Calls Tryz.prog 6 #[.slice A n c, .int .i64 mass,bs a,bs t] w fun e w'=>e= .returned (.tuple #[bs [], .int .i64 k])∧Below w.heap.size w w':=by
 have HC:=qh (fun W (hb:Below w.heap.size w W)=>jws (c:=c) (hE.below hb) (h.below hb) hn hl hk);have q1:(k != 0)=true:=by rw [bne_iff_ne];exact h0
 clear hE h hn hl hk h0;go_enter Tryz.func6,Tryz.ntmps6;go_wp2_with (go_at_call 8;(with_reducible refine mo0 (HC.out _ bi) fun w1 hb1 hc1 hf1 _=> ?_))
 go_ret2;exact ⟨rfl,bi⟩
theorem jwQ {k:Int} (hE:Env w) (h:Bv w A n ls) (hn:n≤100000) (hl:∀l∈ls,l.1.length < 4294967281∧l.2.1.length < 4294967281∧l.2.2.length < 4294967281) (h1:jwJ ls n=0) (hla:a.length < 4294967281) (hlb:t.length < 4294967281) (hk:jhc mass a t=k) (h0:k≠0):
  Calls Tryz.prog 6 #[.slice A n c, .int .i64 mass,bs a,bs t] w fun e w'=>e= .returned (.tuple #[bs [], .int .i64 k])∧Below w.heap.size w w':=by
 have HC:=qh (fun W (hb:Below w.heap.size w W)=>jws (c:=c) (hE.below hb) (h.below hb) hn hl h1);have HL:=qh (fun W (hb:Below w.heap.size w W)=>jcC (hE.below hb) hla hlb hk);have q1:(k != 0)=true:=by rw [bne_iff_ne];exact h0
 clear hE h hn hl hk h0 h1 hla hlb;go_enter Tryz.func6,Tryz.ntmps6;go_wp2_with (first|(go_at_call 8;(with_reducible refine mo0 (HC.out _ bi) fun w1 hb1 hc1 hf1 _=> ?_))|(go_at_call 29;(with_reducible refine mo0 (HL.out _ bi) fun w2 hb2 hc2 hf2 _=> ?_)))
 go_ret2;exact ⟨rfl,bi⟩
set_option maxHeartbeats 16000000 in
theorem jwR (hE:Env w) (h:Bv w A n ls) (hn:n≤100000) (hl:∀l∈ls,l.1.length < 4294967281∧l.2.1.length < 4294967281∧l.2.2.length < 4294967281) (h1:jwJ ls n=0) (hn0:0 < n) (hla:a.length < 4294967281) (hlb:t.length < 4294967281) (hk:jhc mass a t=0)
  (hB:∀i,i < n→BdOk 30 (ls.getD i ([],[],[])) (numQ (ls.getD i ([],[],[])).1) (numQ (ls.getD i ([],[],[])).2.1) (numQ (ls.getD i ([],[],[])).2.2)) (hN:∀i,i < n→IsNum (ls.getD i ([],[],[])).1 (numQ (ls.getD i ([],[],[])).1)∧IsNum (ls.getD i ([],[],[])).2.1 (numQ (ls.getD i ([],[],[])).2.1)) (h0:jx2 ls (numQ a) (numQ t)=3):
  Calls Tryz.prog 6 #[.slice A n c, .int .i64 mass,bs a,bs t] w fun e w'=>e= .returned (.tuple #[bs [], .int .i64 3])∧Below w.heap.size w w':=by
 have HC:=qh (fun W (hb:Below w.heap.size w W)=>jws (c:=c) (hE.below hb) (h.below hb) hn hl h1);have HL:=qh (fun W (hb:Below w.heap.size w W)=>jcC (hE.below hb) hla hlb hk);have HE:=qh hE;obtain ⟨_,hx,hy,_⟩:=jcg hk;obtain ⟨x,hxx⟩:∃x,numQ a=x:=⟨_,rfl⟩;obtain ⟨y,hyy⟩:∃x,numQ t=x:=⟨_,rfl⟩;rw [hxx] at hx h0;rw [hyy] at hy h0;have HX:=qh hx.num;have HY:=qh hy.num;have HZX:=qh hx.num.sz;have HZY:=qh hy.num.sz;obtain ⟨b,o,rfl,hbl,hcell⟩:=h.at_ hn0;have c1:=(hcell (n - 1) (by omega)).2.1;have c2:=(hcell 0 hn0).1;have i1:=(hN (n - 1) (by omega)).2;have i2:=(hN 0 hn0).1;have hlen:=h.len;unfold jx2 at h0;rw [hlen] at h0;obtain ⟨q,hq⟩:∃q,numQ (ls.getD (n - 1) ([],[],[])).2.1=q:=⟨_,rfl⟩;obtain ⟨p,hp⟩:∃q,numQ (ls.getD 0 ([],[],[])).1=q:=⟨_,rfl⟩;obtain ⟨TQ,hTQ⟩:∃q,(ls.getD (n - 1) ([],[],[])).2.1=q:=⟨_,rfl⟩;obtain ⟨TP,hTP⟩:∃q,(ls.getD 0 ([],[],[])).1=q:=⟨_,rfl⟩;rw [hq] at i1 h0;rw [hp] at i2 h0;rw [hTQ] at i1 c1;rw [hTP] at i2 c2;rw [show o+0*3=o by omega] at c2;obtain ⟨j1,hj1⟩:∃j,Rq.cmpQ x q=j:=⟨_,rfl⟩;obtain ⟨j2,hj2⟩:∃j,Rq.cmpQ y p=j:=⟨_,rfl⟩;have HQ:=qh i1;have HP:=qh i2;have HZQ:=qh i1.sz;have HZP:=qh i2.sz;have HJ1:=qh hj1;have HJ2:=qh hj2;have m1:wrap64 ((n:Int) - 1)=((n - 1:Nat):Int):=by unfold wrap64;omega
 have m2:IntKind.i64.wrap ((n:Int) - 1)=((n - 1:Nat):Int):=by simp [IntKind.wrap,IntKind.bits,IntKind.signed];omega
 have hi1:n - 1 < n:=by omega
 have HCC:=qh (And.intro c1 (And.intro c2 hbl));obtain ⟨g1,hg1⟩:∃g,decide (0 < j1)=g:=⟨_,rfl⟩
 have G2:g1=false→decide (j2 < 0)=true:=fun e=>by
  rw [e,decide_eq_false_iff_not,←hj1] at hg1;rw [decide_eq_true_iff,←hj2];by_cases z1:q < x
  ·exact absurd (Rq.cmp_pos.2 z1) hg1
  by_cases z2:y < p
  ·exact Rq.cmp_neg.2 z2
  ·rw [if_neg (fun z=>z.elim z1 z2)] at h0;cases h0
 have HG2:=qh G2;clear hE h hn hl h1 hla hlb hk hB hN h0 hx hy hxx hyy hcell c1 c2 i1 i2 hlen hq hp hTQ hTP hj1 hj2 G2;go_enter Tryz.func6,Tryz.ntmps6;go_upto_region 8 with (first|(go_at_call 8;(with_reducible refine mo0 (HC.out _ bi) fun w1 hb1 hc1 hf1 _=> ?_))|(go_at_call 29;(with_reducible refine mo0 (HL.out _ bi) fun w2 hb2 hc2 hf2 _=> ?_))|(go_at_call 30;(with_reducible show Calls _ _ #[bs a] _ _);(with_reducible refine mf0 (jaz HX.out (HE.out.below bi)) fun w3 s3 A3 n3 c3 t3 B3 m3 d3 hr3 hq3 hb3 hc3 hf3 _=> ?_))|(go_at_call 30;(with_reducible show Calls _ _ #[bs t] _ _);(with_reducible refine mf0 (jaz HY.out (HE.out.below bi)) fun w4 s4 A4 n4 c4 t4 B4 m4 d4 hr4 hq4 hb4 hc4 hf4 _=> ?_)))
 have bU:Below w.heap.size w ((w4.alloc (.cells #[.int .i64 s3, .slice A3 n3 c3, .int .i64 t3, .slice B3 m3 d3] 82)).alloc (.cells #[.int .i64 s4, .slice A4 n4 c4, .int .i64 t4, .slice B4 m4 d4] 82)):=bi;obtain ⟨c1,c2,hbl⟩:=HCC.out;replace c1:=ja9 bU c1;replace c2:=ja9 bU c2;have f0:RepF ((w4.alloc (.cells #[.int .i64 s3, .slice A3 n3 c3, .int .i64 t3, .slice B3 m3 d3] 82)).alloc (.cells #[.int .i64 s4, .slice A4 n4 c4, .int .i64 t4, .slice B4 m4 d4] 82)) s3 A3 n3 c3 t3 B3 m3 d3 x:=⟨(by with_reducible repeat first|assumption|apply rZ|refine rP ?_ rfl (by simp [go_sem,hc4])),(by with_reducible repeat first|assumption|apply rZ|refine rP ?_ rfl (by simp [go_sem,hc4]))⟩;have f1:RepF ((w4.alloc (.cells #[.int .i64 s3, .slice A3 n3 c3, .int .i64 t3, .slice B3 m3 d3] 82)).alloc (.cells #[.int .i64 s4, .slice A4 n4 c4, .int .i64 t4, .slice B4 m4 d4] 82)) s4 A4 n4 c4 t4 B4 m4 d4 y:=⟨(by with_reducible repeat first|assumption|apply rZ|refine rP ?_ rfl (by simp [go_sem,hc4])),(by with_reducible repeat first|assumption|apply rZ|refine rP ?_ rfl (by simp [go_sem,hc4]))⟩;have e0:((w4.alloc (.cells #[.int .i64 s3, .slice A3 n3 c3, .int .i64 t3, .slice B3 m3 d3] 82)).alloc (.cells #[.int .i64 s4, .slice A4 n4 c4, .int .i64 t4, .slice B4 m4 d4] 82)).cell? ⟨w4.heap.size,0,none⟩=some (.int .i64 s3)∧((w4.alloc (.cells #[.int .i64 s3, .slice A3 n3 c3, .int .i64 t3, .slice B3 m3 d3] 82)).alloc (.cells #[.int .i64 s4, .slice A4 n4 c4, .int .i64 t4, .slice B4 m4 d4] 82)).cell? ⟨w4.heap.size,1,none⟩=some (.slice A3 n3 c3)∧((w4.alloc (.cells #[.int .i64 s3, .slice A3 n3 c3, .int .i64 t3, .slice B3 m3 d3] 82)).alloc (.cells #[.int .i64 s4, .slice A4 n4 c4, .int .i64 t4, .slice B4 m4 d4] 82)).cell? ⟨w4.heap.size,2,none⟩=some (.int .i64 t3)∧((w4.alloc (.cells #[.int .i64 s3, .slice A3 n3 c3, .int .i64 t3, .slice B3 m3 d3] 82)).alloc (.cells #[.int .i64 s4, .slice A4 n4 c4, .int .i64 t4, .slice B4 m4 d4] 82)).cell? ⟨w4.heap.size,3,none⟩=some (.slice B3 m3 d3):=⟨by simp [go_sem],by simp [go_sem],by simp [go_sem],by simp [go_sem]⟩;have e1:((w4.alloc (.cells #[.int .i64 s3, .slice A3 n3 c3, .int .i64 t3, .slice B3 m3 d3] 82)).alloc (.cells #[.int .i64 s4, .slice A4 n4 c4, .int .i64 t4, .slice B4 m4 d4] 82)).cell? ⟨w4.heap.size+1,0,none⟩=some (.int .i64 s4)∧((w4.alloc (.cells #[.int .i64 s3, .slice A3 n3 c3, .int .i64 t3, .slice B3 m3 d3] 82)).alloc (.cells #[.int .i64 s4, .slice A4 n4 c4, .int .i64 t4, .slice B4 m4 d4] 82)).cell? ⟨w4.heap.size+1,1,none⟩=some (.slice A4 n4 c4)∧((w4.alloc (.cells #[.int .i64 s3, .slice A3 n3 c3, .int .i64 t3, .slice B3 m3 d3] 82)).alloc (.cells #[.int .i64 s4, .slice A4 n4 c4, .int .i64 t4, .slice B4 m4 d4] 82)).cell? ⟨w4.heap.size+1,2,none⟩=some (.int .i64 t4)∧((w4.alloc (.cells #[.int .i64 s3, .slice A3 n3 c3, .int .i64 t3, .slice B3 m3 d3] 82)).alloc (.cells #[.int .i64 s4, .slice A4 n4 c4, .int .i64 t4, .slice B4 m4 d4] 82)).cell? ⟨w4.heap.size+1,3,none⟩=some (.slice B4 m4 d4):=⟨by simp [go_sem],by simp [go_sem],by simp [go_sem],by simp [go_sem]⟩;obtain ⟨U,hU⟩:∃U,((w4.alloc (.cells #[.int .i64 s3, .slice A3 n3 c3, .int .i64 t3, .slice B3 m3 d3] 82)).alloc (.cells #[.int .i64 s4, .slice A4 n4 c4, .int .i64 t4, .slice B4 m4 d4] 82))=U:=⟨_,rfl⟩;rw [hU] at bU c1 c2 f0 f1 e0 e1 ⊢;obtain ⟨a0,a1,a2,a3⟩:=e0;obtain ⟨b0,b1,b2,b3⟩:=e1;obtain ⟨g,hg⟩:∃g,w4.heap.size=g:=⟨_,rfl⟩;rw [hg] at a0 a1 a2 a3 b0 b1 b2 b3 ⊢;have z0:g < U.heap.size:=World.block_lt_of_cell? U _ a0;have z1:g+1 < U.heap.size:=World.block_lt_of_cell? U _ b0;have z2:b < U.heap.size:=World.block_lt_of_cell? U _ c1;have HF0:=qh f0;have HF1:=qh f1;have HEU:=qh (HE.out.below bU);clear hU hg hb1 hb2 hb3 hb4 hc1 hc2 hc3 hc4 hf1 hf2 hf3 hf4 hr3 hq3 hr4 hq4 f0 f1 HC HL HCC hbl HX HY;refine ja1 (fun w'=>Below U.heap.size U w') [] (by kernel_rfl) ?_;refine tb 0 (fv s3 A3 n3 c3 t3 B3 m3 d3) [] rfl (by kernel_rfl) pk rfl (by intros;go_simp) bq0 ?_;refine tb 1 (.slice (some ⟨b,o,none⟩) n c) [] rfl (by kernel_rfl) pk rfl (by intros;go_simp) bq0 ?_;refine tb 2 (.slice (some ⟨b,o,none⟩) n c) [] rfl (by kernel_rfl) pk rfl (by intros;go_simp) bq0 ?_;refine tb 3 (.int .i64 (n:Int)) [] rfl (by kernel_rfl) pk rfl (by intros;go_simp) bq0 ?_;refine tb 4 (.int .i64 ((n - 1:Nat):Int)) [] rfl (by kernel_rfl) pk rfl (by intros;go_simp) bq0 ?_;refine tb 5 (.pointer (some ⟨b,o+(n - 1)*3,none⟩)) [] rfl (by kernel_rfl) pk rfl (by intros;go_simp) bq0 ?_;refine tb 6 (.pointer (some ⟨b,o+(n - 1)*3+1,none⟩)) [] rfl (by kernel_rfl) pk rfl (by intros;go_simp) bq0 ?_;refine tb 7 (bs TQ) [] rfl (by kernel_rfl) pk rfl (by intros;go_simp) bq0 ?_;simp only [ppq];refine rd1 8 (by kernel_rfl) rfl (fun K hK=> ?_);go_simp;go_wp2_with (go_at_call 30;(with_reducible refine mf0 (jaz HQ.out (HEU.out.below bi)) fun w5 s5 A5 n5 c5 t5 B5 m5 d5 hr5 hq5 hb5 hc5 hf5 _=> ?_))
 have sS5:=qh (bst bq0 hb5);refine hK.out _ _ (fun _=>sS5.out) ?_;clear hK K;refine rd1 9 (by kernel_rfl) rfl (fun K hK=> ?_);go_simp;go_wp2_with (go_at_call 31;(with_reducible refine mo0 (jd7 600 600 HJ1.out (HF0.out.below bi) ⟨hr5,hq5⟩ HZX.out HZQ.out (by omega)) fun w6 hb6 hc6 hf6 _=> ?_))
 have sS6:=qh (bst sS5.out hb6);refine hK.out _ _ (fun _=>sS6.out) ?_;clear hK K;refine rd1 10 (by kernel_rfl) rfl (fun K hK=> ?_);go_simp;refine hK.out _ _ (fun _=>bi) ?_;clear hK K;refine rd1 11 (by kernel_rfl) rfl (fun K hK=> ?_);go_simp;refine hK.out _ _ (fun _=>bi) ?_;clear hK K;clear hg1;cases g1 with
 | true=>
   refine ts 12 [] rfl (by kernel_rfl) pk (by rfl) sS6.out ?_;simp only [ppq];refine ts 13 [] rfl (by kernel_rfl) pk (by rfl) sS6.out ?_;simp only [ppq];refine ts 14 [] rfl (by kernel_rfl) pk (by rfl) sS6.out ?_;simp only [ppq];refine ts 15 [] rfl (by kernel_rfl) pk (by rfl) sS6.out ?_;simp only [ppq];refine ts 16 [] rfl (by kernel_rfl) pk (by rfl) sS6.out ?_;simp only [ppq];refine ts 17 [] rfl (by kernel_rfl) pk (by rfl) sS6.out ?_;simp only [ppq];refine ts 18 [] rfl (by kernel_rfl) pk (by rfl) sS6.out ?_;simp only [ppq];refine ts 19 [] rfl (by kernel_rfl) pk (by rfl) sS6.out ?_;simp only [ppq];refine rd1 20 (by kernel_rfl) rfl (fun K hK=> ?_);go_simp;refine hK.out _ _ (fun _=>bi) ?_;clear hK K;refine ja2 (by kernel_rfl) ?_ _;go_wp2;go_ret2;exact ⟨rfl,ja0 bU bi⟩
 | false=>
   have G2:=HG2.out rfl;refine tb 12 (fv s4 A4 n4 c4 t4 B4 m4 d4) [] rfl (by kernel_rfl) pk rfl (by intros;go_simp) sS6.out ?_;refine tb 13 (.slice (some ⟨b,o,none⟩) n c) [] rfl (by kernel_rfl) pk rfl (by intros;go_simp) sS6.out ?_;refine tb 14 (.pointer (some ⟨b,o,none⟩)) [] rfl (by kernel_rfl) pk rfl (by intros;go_simp) sS6.out ?_;refine tb 15 (.pointer (some ⟨b,o,none⟩)) [] rfl (by kernel_rfl) pk rfl (by intros;go_simp) sS6.out ?_;refine tb 16 (bs TP) [] rfl (by kernel_rfl) pk rfl (by intros;go_simp) sS6.out ?_;simp only [ppq];refine rd1 17 (by kernel_rfl) rfl (fun K hK=> ?_);go_simp;go_wp2_with (go_at_call 30;(with_reducible refine mf0 (jaz HP.out (HEU.out.below bi)) fun w7 s7 A7 n7 c7 t7 B7 m7 d7 hr7 hq7 hb7 hc7 hf7 _=> ?_))
   have sS7:=qh (bst sS6.out hb7);refine hK.out _ _ (fun _=>sS7.out) ?_;clear hK K;refine rd1 18 (by kernel_rfl) rfl (fun K hK=> ?_);go_simp;go_wp2_with (go_at_call 31;(with_reducible refine mo0 (jd7 600 600 HJ2.out (HF1.out.below bi) ⟨hr7,hq7⟩ HZY.out HZP.out (by omega)) fun w8 hb8 hc8 hf8 _=> ?_))
   have sS8:=qh (bst sS7.out hb8);refine hK.out _ _ (fun _=>sS8.out) ?_;clear hK K;refine rd1 19 (by kernel_rfl) rfl (fun K hK=> ?_);go_simp;refine hK.out _ _ (fun _=>bi) ?_;clear hK K;refine rd1 20 (by kernel_rfl) rfl (fun K hK=> ?_);go_simp;refine hK.out _ _ (fun _=>bi) ?_;clear hK K;refine ja2 (by kernel_rfl) ?_ _;go_wp2;go_ret2;exact ⟨rfl,ja0 bU bi⟩
end

def bdS (b:Bd):Bool:=[b.1,b.2.1,b.2.2].all fun l=>decide (l.length≤30)
section
variable {w:World} {A:Option Addr} {n c:Nat} {ls:List Bd} {a t:List UInt8} {mass:Int}
theorem jwM (hE:Env w) (h:Bv w A n ls) (hn:n < 9223372036854775808) (hb:ls.all bdS=false):
  Calls Tryz.prog 3 #[.slice A n c, .agg #[.int .i64 mass,bs a,bs t]] w fun e w'=>e= .returned (.bool true)∧Below w.heap.size w w':=by
 have HA:=qh (fun W (hb:Below w.heap.size w W)=>hE.awake6 hb);have H:=qh h;have HN:=qh hn;have HB:=qh hb;clear hE h hn hb;go_enter Tryz.func3,Tryz.ntmps3;go_wp2
 go_loopw [13] (fun u wr=>∃(i:Nat),u= .int .i64 (i:Int)∧i≤n∧Below w.heap.size w wr∧(ls.drop i).all bdS=false) (fun u _=>n - (intOf u).toNat)
 case atStart=>exact ⟨0,rfl,Nat.zero_le _,bi,HB.out⟩
 case round=>
  obtain ⟨i,rfl,hin,hb,hc⟩:=hrel;have _:=bm hb;have hnn:=HN.out;by_cases hi:i < n
  ·have q0:decide ((i:Int) < (n:Int))=true:=by simp;exact hi
   have q9:decide (i < n)=true:=by simpa using hi
   obtain ⟨b,o,rfl,hbl,hcell⟩:=(H.out.below hb).at_ (by omega);obtain ⟨y0,y1,y2⟩:=hcell i hi;have hil:i < ls.length:=by rw [H.out.len];exact hi
   rw [jd5 (d:=([],[],[])) hil,List.all_cons] at hc;obtain ⟨⟨x0,x1,x2⟩,hx⟩:∃x,ls.getD i ([],[],[])=x:=⟨_,rfl⟩;rw [hx] at y0 y1 y2 hc;dsimp only at y0 y1 y2;obtain ⟨f,hf⟩:∃f,bdS (x0,x1,x2)=f:=⟨_,rfl⟩;rw [hf] at hc
   have HF:Hid (Calls Tryz.prog 4 #[.slice (some ⟨wr.heap.size+1,0,none⟩) 3 3] ((wr.alloc (.cells #[bs x0,bs x1,bs x2] 27)).alloc (.cells #[bs x0,bs x1,bs x2] 23)) fun e w'=>e= .returned (.bool f)∧Below ((wr.alloc (.cells #[bs x0,bs x1,bs x2] 27)).alloc (.cells #[bs x0,bs x1,bs x2] 23)).heap.size ((wr.alloc (.cells #[bs x0,bs x1,bs x2] 27)).alloc (.cells #[bs x0,bs x1,bs x2] 23)) w'):=qh (by
    have h:=Sv.three (wr.alloc (.cells #[bs x0,bs x1,bs x2] 27)) 23 x0 x1 x2;rw [World.size_alloc] at h
    exact jgr h (by omega) hf)
   have HI:=qh hi;cases f with
   | true=>
     have HC:=qh (show (ls.drop (i+1)).all bdS=false by simpa using hc);clear hc hf hx hil hcell;go_wp2_with (go_at_call 4;(with_reducible refine mo0 (HF.out) fun w1 hb1 hc1 hf1 _=> ?_))
     exact ⟨⟨i+1,by simp,HI.out,ja0 hb bi,HC.out⟩,by have:=HI.out;simp [intOf];omega⟩
   | false=>
     clear hc hf hx hil hcell;go_wp2_with (first|(go_at_call 4;(with_reducible refine mo0 (HF.out) fun w1 hb1 hc1 hf1 _=> ?_))|(go_at_call 5;(with_reducible refine mo0 (HA.out _ (ja0 hb bi)) fun w2 hb2 hc2 hf2 _=> ?_)))
     go_ret;exact ⟨rfl,ja0 hb bi⟩
  ·rw [List.drop_eq_nil_of_le (by rw [H.out.len];omega)] at hc;cases hc
theorem jwU (hE:Env w) (h:Bv w A n ls) (hn:n < 9223372036854775808) (hb:ls.all bdS=true) (ho:([a,t].all fun l=>decide (l.length≤30))=false∨(6 < n∧n≤64)∨70 < n):
  Calls Tryz.prog 3 #[.slice A n c, .agg #[.int .i64 mass,bs a,bs t]] w fun e w'=>e= .returned (.bool true)∧Below w.heap.size w w':=by
 have HA:=qh (fun W (hb:Below w.heap.size w W)=>hE.awake6 hb);have H:=qh h;have HN:=qh hn;have HB:=qh hb;have HO:=qh ho;clear hE h hn hb ho;go_enter Tryz.func3,Tryz.ntmps3;go_wp2
 go_loopw [13] (fun u wr=>∃(i:Nat),u= .int .i64 (i:Int)∧i≤n∧Below w.heap.size w wr∧wr.cell? ⟨w.heap.size,0,none⟩=some (.int .i64 mass)∧wr.cell? ⟨w.heap.size,1,none⟩=some (bs a)∧wr.cell? ⟨w.heap.size,2,none⟩=some (bs t)) (fun u _=>n - (intOf u).toNat)
 case atStart=>exact ⟨0,rfl,Nat.zero_le _,bi,by simp [go_sem],by simp [go_sem],by simp [go_sem]⟩
 case round=>
  obtain ⟨i,rfl,hin,hb,v0,v1,v2⟩:=hrel;have _:=bm hb;have hnn:=HN.out;have vz:w.heap.size < wr.heap.size:=World.block_lt_of_cell? wr _ v0;by_cases hi:i < n
  ·have q0:decide ((i:Int) < (n:Int))=true:=by simp;exact hi
   have q9:decide (i < n)=true:=by simpa using hi
   obtain ⟨b,o,rfl,hbl,hcell⟩:=(H.out.below hb).at_ (by omega);obtain ⟨y0,y1,y2⟩:=hcell i hi;have hil:i < ls.length:=by rw [H.out.len];exact hi
   have hmem:ls.getD i ([],[],[])∈ls:=by rw [List.getD_eq_getElem?_getD,List.getElem?_eq_getElem hil];exact List.getElem_mem hil
   have hf:=List.all_eq_true.1 HB.out _ hmem;obtain ⟨⟨x0,x1,x2⟩,hx⟩:∃x,ls.getD i ([],[],[])=x:=⟨_,rfl⟩;rw [hx] at y0 y1 y2 hf;dsimp only at y0 y1 y2
   have HF:Hid (Calls Tryz.prog 4 #[.slice (some ⟨wr.heap.size+1,0,none⟩) 3 3] ((wr.alloc (.cells #[bs x0,bs x1,bs x2] 27)).alloc (.cells #[bs x0,bs x1,bs x2] 23)) fun e w'=>e= .returned (.bool true)∧Below ((wr.alloc (.cells #[bs x0,bs x1,bs x2] 27)).alloc (.cells #[bs x0,bs x1,bs x2] 23)).heap.size ((wr.alloc (.cells #[bs x0,bs x1,bs x2] 27)).alloc (.cells #[bs x0,bs x1,bs x2] 23)) w'):=qh (by
    have h:=Sv.three (wr.alloc (.cells #[bs x0,bs x1,bs x2] 27)) 23 x0 x1 x2;rw [World.size_alloc] at h
    exact jgr h (by omega) hf)
   have HI:=qh hi;clear hf hx hil hcell hmem;go_wp2_with (go_at_call 4;(with_reducible refine mo0 (HF.out) fun w1 hb1 hc1 hf1 _=> ?_))
   have b1:Below wr.heap.size wr w1:=bi;exact ⟨⟨i+1,by simp,HI.out,ja0 hb b1,ja9 b1 v0,ja9 b1 v1,ja9 b1 v2⟩,by have:=HI.out;simp [intOf];omega⟩
  ·have q0:decide (i < n)=false:=by simp;omega
   obtain ⟨f,hf⟩:∃f,([a,t].all fun l=>decide (l.length≤30))=f:=⟨_,rfl⟩
   have HF:Hid (Calls Tryz.prog 4 #[.slice (some ⟨wr.heap.size,0,none⟩) 2 2] (wr.alloc (.cells #[bs a,bs t] 23)) fun e w'=>e= .returned (.bool f)∧Below (wr.alloc (.cells #[bs a,bs t] 23)).heap.size (wr.alloc (.cells #[bs a,bs t] 23)) w'):=qh (jgr (ls:=[a,t]) ⟨rfl,fun _=>⟨wr.heap.size,0,rfl,by simp,fun j hj=>by
    match j,hj with
    | 0,_=>simp
    | 1,_=>simp⟩⟩ (by omega) hf)
   have ho:=HO.out;rw [hf] at ho;clear hi hf;cases f with
   | false=>
     clear ho;go_wp2_with (first|(go_at_call 4;(with_reducible refine mo0 (HF.out) fun w1 hb1 hc1 hf1 _=> ?_))|(go_at_call 5;(with_reducible refine mo0 (HA.out _ (ja0 hb bi)) fun w2 hb2 hc2 hf2 _=> ?_)))
     go_ret;exact ⟨rfl,ja0 hb bi⟩
   | true=>
     have ho:(6 < n∧n≤64)∨70 < n:=by
      rcases ho with h|h
      ·cases h
      ·exact h
     have p1:decide ((6:Int) < (n:Int))=true:=by rw [decide_eq_true_iff];omega
     rcases ho with h|h
     ·have p2:decide ((n:Int)≤64)=true:=by rw [decide_eq_true_iff];omega
      clear h;go_wp2_with (first|(go_at_call 4;(with_reducible refine mo0 (HF.out) fun w1 hb1 hc1 hf1 _=> ?_))|(go_at_call 5;(with_reducible refine mo0 (HA.out _ (ja0 hb bi)) fun w2 hb2 hc2 hf2 _=> ?_)))
      go_ret;exact ⟨rfl,ja0 hb bi⟩
     ·have p2:decide ((n:Int)≤64)=false:=by rw [decide_eq_false_iff_not];omega
      have p3:decide ((70:Int) < (n:Int))=true:=by rw [decide_eq_true_iff];omega
      clear h;go_wp2_with (first|(go_at_call 4;(with_reducible refine mo0 (HF.out) fun w1 hb1 hc1 hf1 _=> ?_))|(go_at_call 5;(with_reducible refine mo0 (HA.out _ (ja0 hb bi)) fun w2 hb2 hc2 hf2 _=> ?_)))
      go_ret;exact ⟨rfl,ja0 hb bi⟩
end
end Go.Proofs.YtlcbfkiknejdnaaGreatDoor
