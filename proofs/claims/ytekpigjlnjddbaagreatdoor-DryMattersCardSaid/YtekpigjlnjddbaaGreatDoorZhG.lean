/- Parts. -/
import Derived.Test.YtekpigjlnjddbaaGreatDoorZeG
import Derived.Test.YtekpigjlnjddbaaGreatDoorZjG
set_option linter.all false
set_option maxRecDepth 100000
set_option maxHeartbeats 8000000
namespace Go.Proofs.YtekpigjlnjddbaaGreatDoor
open Go Go.RowKit

def crN (m:Int) (x y:Rat):Int:= -((-((m:Rat)*(100 - x) / (100 - y))).floor)
def crX (m:Int) (x y:Rat):Rat:=100 - (m:Rat)*(100 - x) / (crN m x y:Rat)
noncomputable def stp (mass:Int) (x:Rat) (ls:List (List UInt8)):Nat→Int×Rat
 | 0=>(mass,x)
 | i+1=>(crN (stp mass x ls i).1 (stp mass x ls i).2 (numQ (ls.getD i [])),crX (stp mass x ls i).1 (stp mass x ls i).2 (numQ (ls.getD i [])))
noncomputable def stE (mass:Int) (x:Rat) (ls:List (List UInt8)) (i:Nat):Int:=if mst (ls.getD i [])=0 then (if (stp mass x ls i).2 < numQ (ls.getD i []) then 11 else 0) else mst (ls.getD i [])
noncomputable def stB (mass:Int) (a:List UInt8) (n:Nat):Int:=if jbr mass=0 then (if mst a=0 then (if 256 < n then 5 else 0) else mst a) else jbr mass
noncomputable def stM (mass:Int) (x:Rat) (ls:List (List UInt8)) (i:Nat):List Int:=(List.range i).map fun j=>(stp mass x ls (j+1)).1
noncomputable def stX (mass:Int) (x:Rat) (ls:List (List UInt8)) (i:Nat):List Rat:=(List.range i).map fun j=>(stp mass x ls (j+1)).2
section
variable {mass:Int} {x:Rat} {ls:List (List UInt8)} {i n:Nat} {k:Nat}
theorem jk4:stM mass x ls (i+1)=stM mass x ls i++[(stp mass x ls (i+1)).1]:=by unfold stM;rw [List.range_succ,List.map_append];rfl
theorem jke:stX mass x ls (i+1)=stX mass x ls i++[(stp mass x ls (i+1)).2]:=by unfold stX;rw [List.range_succ,List.map_append];rfl
theorem js4:(stM mass x ls i).length=i:=by unfold stM;rw [List.length_map,List.length_range]
theorem jsH:(stX mass x ls i).length=i:=by unfold stX;rw [List.length_map,List.length_range]
structure StI (mass:Int) (x:Rat) (ls:List (List UInt8)) (k i:Nat):Prop where
 m1:1≤(stp mass x ls i).1
 m2:(stp mass x ls i).1≤999999999
 hx:(stp mass x ls i).2 < 100
 dz:Dz (k+30*i) (stp mass x ls i).2
theorem StI.step (h:StI mass x ls k i) (hk:0 < k) (hl:(ls.getD i []).length≤k) (he:stE mass x ls i=0):
  IsMoist (ls.getD i []) (numQ (ls.getD i []))∧Ceil (stp mass x ls i).1 (stp mass x ls (i+1)).1 (stp mass x ls i).2 (numQ (ls.getD i []))∧StI mass x ls k (i+1):=by
 unfold stE at he;by_cases h0:mst (ls.getD i [])=0
 ·rw [if_pos h0] at he;have hm:=jeF h0;by_cases h1:(stp mass x ls i).2 < numQ (ls.getD i [])
  ·rw [if_pos h1] at he;cases he
  ·have hc:Ceil (stp mass x ls i).1 (stp mass x ls (i+1)).1 (stp mass x ls i).2 (numQ (ls.getD i [])):=⟨rfl,h.m1,h.m2,h.hx,Rat.not_lt.1 h1⟩;obtain ⟨c1,c2⟩:=hc.le;have hm2:=h.m2
   have hN0:(((stp mass x ls (i+1)).1:Int):Rat)≠0:=by
    intro e;have:(stp mass x ls (i+1)).1=0:=by exact_mod_cast e
    omega
   have hz:(stp mass x ls (i+1)).2=100 - ((stp mass x ls i).1:Rat)*(100 - (stp mass x ls i).2) / (((stp mass x ls (i+1)).1:Int):Rat):=rfl;refine ⟨hm,hc,c1,by omega, ?_, ?_⟩
   ·rw [hz];have a1:(1:Rat)≤((stp mass x ls i).1:Rat):=by exact_mod_cast h.m1
    have a2:(1:Rat)≤(((stp mass x ls (i+1)).1:Int):Rat):=by exact_mod_cast c1
    have a3:=h.hx;obtain ⟨Q,hQ⟩:∃Q,((stp mass x ls i).1:Rat)*(100 - (stp mass x ls i).2) / (((stp mass x ls (i+1)).1:Int):Rat)=Q:=⟨_,rfl⟩;have a4:0 < ((stp mass x ls i).1:Rat)*(100 - (stp mass x ls i).2):=Rat.mul_pos (by grind) (by grind);have a5:Q*(((stp mass x ls (i+1)).1:Int):Rat)=((stp mass x ls i).1:Rat)*(100 - (stp mass x ls i).2):=by rw [←hQ];grind
    have a6:0 < Q:=by
     refine Rat.not_le.1 fun hq=> ?_
     have:=Rat.mul_le_mul_of_nonneg_right hq (show (0:Rat)≤(((stp mass x ls (i+1)).1:Int):Rat) by grind);rw [a5] at this
     grind
    rw [hQ]
    grind
   ·rw [hz];exact (jc9.sub (((dzm h.m1 h.m2).mul (jc9.sub h.dz)).div (dzm c1 (by omega)) hN0)).mono (by omega)
 ·rw [if_neg h0] at he;exact absurd he h0
theorem StI.zero (h1:1≤mass) (h2:mass≤999999999) (hx:x < 100) (hd:Dz k x):StI mass x ls k 0:=⟨h1,h2,hx,hd⟩
theorem jta {x:Rat} {k:Nat} (h:Dz k x):Sz k x:=⟨jrr h.num,jrr h.den⟩
theorem jfU {f:Nat→Int} (h:i < n):jar f ((List.range n).drop i)=if f i=0 then jar f ((List.range n).drop (i+1)) else f i:=by
 rw [List.drop_eq_getElem_cons (by rw [List.length_range];exact h),List.getElem_range];rfl
end
structure FBox (w:World) (g:Nat) (q:FT):Prop where
 heap:∃t,w.heap[g]? =some (.cells #[.int .i64 q.1.1, .slice q.1.2.1 q.1.2.2.1 q.1.2.2.2, .int .i64 q.2.1, .slice q.2.2.1 q.2.2.2.1 q.2.2.2.2] t (0,0))
theorem FBox.made (w:World) (t:TypeId) (s t':Int) (A B:Option Addr) (n c m d:Nat):FBox (w.alloc (.cells #[.int .i64 s, .slice A n c, .int .i64 t', .slice B m d] t)) w.heap.size ((s,A,n,c),(t',B,m,d)):=
 ⟨t,heap_alloc_new w _⟩
theorem FBox.lt {w:World} {g:Nat} {q:FT} (h:FBox w g q):g < w.heap.size:=by
 obtain ⟨t,h⟩:=h.heap;exact (Array.getElem?_eq_some_iff.1 h).1
theorem FBox.kept {w w':World} {g:Nat} {q:FT} (h:FBox w g q) (e:w'.heap[g]? =w.heap[g]?):FBox w' g q:=by
 obtain ⟨t,h⟩:=h.heap;exact ⟨t,e.trans h⟩
theorem FBox.below {w w':World} {g:Nat} {q:FT} (h:FBox w g q) (hb:Below w.heap.size w w'):FBox w' g q:=h.kept (hb.block g h.lt)
theorem FBox.nou {w:World} {g:Nat} {q:FT} (h:FBox w g q):NoU w g:=by
 obtain ⟨t,h⟩:=h.heap;exact ⟨_,t,_,h,fun u hu z=>jo6 (q:=q) u hu z⟩
theorem FBox.cells {w:World} {g:Nat} {q:FT} (h:FBox w g q):(w.cell? ⟨g,0,none⟩=some (.int .i64 q.1.1)∧w.cell? ⟨g,1,none⟩=some (.slice q.1.2.1 q.1.2.2.1 q.1.2.2.2)∧w.cell? ⟨g,2,none⟩=some (.int .i64 q.2.1)∧w.cell? ⟨g,3,none⟩=some (.slice q.2.2.1 q.2.2.2.1 q.2.2.2.2))∧(w.frozen? ⟨g,0,none⟩=false∧w.frozen? ⟨g,1,none⟩=false∧w.frozen? ⟨g,2,none⟩=false∧w.frozen? ⟨g,3,none⟩=false):=by
 obtain ⟨t,h⟩:=h.heap;refine ⟨⟨?_, ?_, ?_, ?_⟩, ?_, ?_, ?_, ?_⟩
 all_goals (first
  | (rw [cell_of_row w g _ _ t _ h];rfl)
  | (unfold World.frozen?;rw [h];rfl)
  | (simp [World.frozen?,h]))
def jt4 (w:World) (g:Nat) (q:FT):World:=(((w.setCell ⟨g,0,none⟩ (.int .i64 q.1.1)).setCell ⟨g,1,none⟩ (.slice q.1.2.1 q.1.2.2.1 q.1.2.2.2)).setCell ⟨g,2,none⟩ (.int .i64 q.2.1)).setCell ⟨g,3,none⟩ (.slice q.2.2.1 q.2.2.2.1 q.2.2.2.2)
theorem FBox.set {w:World} {g:Nat} {q:FT} (h:FBox w g q) (q':FT):FBox (jt4 w g q') g q':=by
 obtain ⟨t,h⟩:=h.heap;refine ⟨t, ?_⟩;simp only [jt4,World.setCell,Array.getElem?_modify,if_pos,h,Option.map_some];rfl
theorem jkH (w:World) (g:Nat) (q:FT):w.grownBy (jt4 w g q) (some g):=by
 refine ⟨rfl,rfl,rfl,by simp [jt4],fun k _ hk=> ?_⟩;have e:k≠g:=fun e=>hk (by rw [e])
 unfold jt4;rw [Below.heap_setCell _ _ _ _ e,Below.heap_setCell _ _ _ _ e,Below.heap_setCell _ _ _ _ e,Below.heap_setCell _ _ _ _ e]

section
variable {w:World} {A:Option Addr} {n c:Nat} {a:List UInt8} {ls:List (List UInt8)} {mass:Int}
theorem jmQ {k:Int} (hE:Env w) (hla:a.length < 4294967281) (hn:n≤100000) (hk:stB mass a n=k) (h0:k≠0):Calls Tryz.prog 9 #[.int .i64 mass,bs a, .slice A n c] w fun e w'=>e= .returned (.tuple #[.slice none 0 0, .slice none 0 0, .int .i64 k])∧Below w.heap.size w w':=by
 have HE:=qh hE;obtain ⟨k0,hk0⟩:∃k,jbr mass=k:=⟨_,rfl⟩;obtain ⟨k1,hk1⟩:∃k,mst a=k:=⟨_,rfl⟩;have HM:=qh (fun W=>jh7 (w:=W) hk0);have HMO:=qh (fun W (hb:Below w.heap.size w W)=>jbI (hE.below hb) hla hk1);unfold stB at hk;rw [hk0,hk1] at hk;have q9:(k != 0)=true:=by rw [bne_iff_ne];exact h0
 by_cases e0:k0=0
 ·subst e0;rw [if_pos rfl] at hk;by_cases e1:k1=0
  ·subst e1;rw [if_pos rfl] at hk;by_cases e2:256 < n
   ·rw [if_pos e2] at hk;subst hk;have q1:decide ((256:Int) < (n:Int))=true:=by rw [decide_eq_true_iff];omega
    clear hE hla hn hk0 hk1 h0 e2;go_enter Tryz.func9,Tryz.ntmps9;go_wp2_with (first|(go_at_call 44;(with_reducible refine mo0 (HM.out _) fun w1 hb1 hc1 hf1 _=> ?_))|(go_at_call 45;(with_reducible refine mo0 (HMO.out _ bi) fun w2 hb2 hc2 hf2 _=> ?_))|(go_at_call 47;(with_reducible refine mo0 (jap (b:=true) (k:=5) (r:=5) rfl) fun w3 hb3 hc3 hf3 _=> ?_))|(go_at_call 46;(with_reducible refine mo0 (jbl iv2 (by omega) rfl) fun w4 hb4 hc4 hf4 _=> ?_)))
    go_ret3;exact ⟨rfl,bi⟩
   ·rw [if_neg e2] at hk;exact absurd hk.symm h0
  ·rw [if_neg e1] at hk;subst hk;have q2:(k1==0)=false:=by rw [beq_eq_false_iff_ne];exact h0
   obtain ⟨g,q1⟩:∃g,decide ((256:Int) < (n:Int))=g:=⟨_,rfl⟩;obtain ⟨r,hr⟩:∃r,(if g then (5:Int) else 0)=r:=⟨_,rfl⟩;have HW:=qh hr;have HF:Hid (jkz [k1,r]=k1):=qh (by rw [jkz,if_neg h0]);clear hE hla hn hk0 hk1 h0 e1 hr;go_enter Tryz.func9,Tryz.ntmps9;go_wp2_with (first|(go_at_call 44;(with_reducible refine mo0 (HM.out _) fun w1 hb1 hc1 hf1 _=> ?_))|(go_at_call 45;(with_reducible refine mo0 (HMO.out _ bi) fun w2 hb2 hc2 hf2 _=> ?_))|(go_at_call 47;(with_reducible refine mo0 (jap HW.out) fun w3 hb3 hc3 hf3 _=> ?_))|(go_at_call 46;(with_reducible refine mo0 (jbl iv2 (by omega) HF.out) fun w4 hb4 hc4 hf4 _=> ?_)))
   go_ret3;exact ⟨rfl,bi⟩
 ·rw [if_neg e0] at hk;subst hk;have q2:(k0==0)=false:=by rw [beq_eq_false_iff_ne];exact h0
  obtain ⟨g,q1⟩:∃g,decide ((256:Int) < (n:Int))=g:=⟨_,rfl⟩;obtain ⟨r,hr⟩:∃r,(if g then (5:Int) else 0)=r:=⟨_,rfl⟩;have HW:=qh hr;have HF:Hid (jkz [k0,r]=k0):=qh (by rw [jkz,if_neg h0]);clear hE hla hn hk0 hk1 h0 e0 hr;go_enter Tryz.func9,Tryz.ntmps9;go_wp2_with (first|(go_at_call 44;(with_reducible refine mo0 (HM.out _) fun w1 hb1 hc1 hf1 _=> ?_))|(go_at_call 47;(with_reducible refine mo0 (jap HW.out) fun w3 hb3 hc3 hf3 _=> ?_))|(go_at_call 46;(with_reducible refine mo0 (jbl iv2 (by omega) HF.out) fun w4 hb4 hc4 hf4 _=> ?_)))
  go_ret3;exact ⟨rfl,bi⟩
end

theorem OwnF.form {w:World} {base n:Nat} {v:Value} {vs:List FT} {qs:List Rat} (h:OwnF w base v n vs qs):∃A c,v= .slice A n c∧Qv w A n qs:=by
 rcases Nat.eq_zero_or_pos n with e|e
 ·subst e;have hq:qs=[]:=List.eq_nil_of_length_eq_zero h.num;subst hq;rcases h.row.2 with ⟨rfl,_⟩|⟨g,cap,cur,rfl,_⟩
  ·exact ⟨none,0,rfl,rfl,fun h=>by omega⟩
  ·exact ⟨_,cap,rfl,rfl,fun h=>by omega⟩
 ·exact OwnF.qv h e
theorem OwnJ.form {w:World} {base n:Nat} {v:Value} {zs:List Int} (h:OwnJ w base v n zs):∃A c,v= .slice A n c∧Iv6 w A n zs:=by
 have hl:=h.num;rcases h.row.2 with ⟨rfl,h1⟩|⟨g,cap,cur,rfl,hb,hg,hnc,hcm,hcs,ht⟩
 ·obtain rfl:0=n:=by omega
  exact ⟨none,0,rfl,hl,fun h=>by omega⟩
 ·refine ⟨some ⟨g,0,none⟩,cap,rfl,hl,fun _=>⟨g,0,rfl,(Array.getElem?_eq_some_iff.1 hg).1,fun j hj=> ?_⟩⟩
  have hc:=World.ownsRow.cells h.row (g:=g) rfl j (.int .i64 (zs.getD j 0)) (by
   unfold ztl
   rw [List.getElem?_map,List.getElem?_eq_getElem (by omega),List.getD_eq_getElem?_getD,List.getElem?_eq_getElem (by omega)];rfl)
  rw [jk6] at hc;rw [Nat.zero_add];exact hc
theorem jdI {α:Type} {f:α→Int}:∀{l:List α},jar f l=0→∀x∈l,f x=0
 | [],_,x,h=>by cases h
 | y::r,h,x,hx=>by
   rw [jar] at h;by_cases e:f y=0
   ·rw [if_pos e] at h;rcases List.mem_cons.1 hx with rfl|hx
    ·exact e
    ·exact jdI h x hx
   ·rw [if_neg e] at h;exact absurd h e
theorem StI.all {mass:Int} {x:Rat} {ls:List (List UInt8)} {k n:Nat} (h0:StI mass x ls k 0) (hk:0 < k) (hl:∀l∈ls,l.length≤k) (he:∀j,j < n→stE mass x ls j=0):∀j,j≤n→StI mass x ls k j:=by
 intro j
 induction j with
 | zero=>intro _;exact h0
 | succ j ih=>
   intro hj;refine ((ih (by omega)).step hk ?_ (he j (by omega))).2.2;by_cases q:j < ls.length
   ·exact hl _ (by rw [List.getD_eq_getElem?_getD,List.getElem?_eq_getElem q];exact List.getElem_mem q)
   ·rw [List.getD_eq_getElem?_getD,List.getElem?_eq_none (by omega)];exact Nat.zero_le _
theorem jtg {mass:Int} {x:Rat} {ls:List (List UInt8)} {n j:Nat} (h:j < n):(stX mass x ls n).getD j 0=(stp mass x ls (j+1)).2:=by
 unfold stX;rw [List.getD_eq_getElem?_getD,List.getElem?_map,List.getElem?_range h];rfl
noncomputable def stR (mass:Int) (a:List UInt8) (ls:List (List UInt8)) (n:Nat):List Int×List (List UInt8)×Int:=
 if stB mass a n=0 then (if jar (stE mass (numQ a) ls) (List.range n)=0 then (if (stX mass (numQ a) ls n).any je3 then ([],[],4) else (stM mass (numQ a) ls n,(stX mass (numQ a) ls n).map tq,0)) else ([],[],jar (stE mass (numQ a) ls) (List.range n))) else ([],[],stB mass a n)
theorem jb9 {base i g:Nat} {S W1 W2 W3:World} {u v:Value} {zs:List Int} {V:List FT} {xs:List Rat} {q:FT} {x:Rat}
  (hJ:OwnJ S base u i zs) (hF:OwnF S base v i V xs) (hd1:∀b,u.ownBlock=some b→v.ownBlock≠some b∧b≠g) (hfx:FBox S g q) (hrp:jlE S q x)
  (g1:W1.grownBy W2 u.ownBlock) (h1:Below S.heap.size S W1) (h3:Below W2.heap.size W2 W3):OwnF W3 base v i V xs∧jlE W3 q x∧FBox W3 g q:=by
 have hJ1:=hJ.below h1;have hF1:=hF.below h1;refine ⟨(hF1.kept g1 (fun b e=>hJ1.nou b e) (fun b e e2=>(hd1 b e2.symm).1 e)).below h3,⟨?_, ?_⟩,(((hfx.below h1).kept (g1.block g (hfx.below h1).lt fun e=>(hd1 g e.symm).2 rfl)).below h3)⟩
 ·exact Rep.below (Rep.grown (Rep.below hrp.1 h1) g1 (fun b e=>hJ1.nou b e)) h3
 ·exact Rep.below (Rep.grown (Rep.below hrp.2 h1) g1 (fun b e=>hJ1.nou b e)) h3
theorem jmT {i g:Nat} {w S W1 W2 W3 W4:World} {u v u' v':Value} {zs zs':List Int} {V V':List FT} {xs xs':List Rat} {q:FT} {x:Rat}
  (hB:Below w.heap.size w S) (hJ:OwnJ S w.heap.size u i zs) (hF:OwnF S w.heap.size v i V xs) (hd1:∀b,u.ownBlock=some b→v.ownBlock≠some b∧b≠g) (hd2:∀b,v.ownBlock=some b→b≠g) (hfx:FBox S g q) (hrp:jlE S q x)
  (g1:W1.grownBy W2 u.ownBlock) (j2:OwnJ W2 w.heap.size u' (i+1) zs') (l2:u'.ownBlock=u.ownBlock∨u'.ownBlock=some W1.heap.size)
  (g3:W3.grownBy W4 v.ownBlock) (f4:OwnF W4 w.heap.size v' (i+1) V' xs') (l4:v'.ownBlock=v.ownBlock∨v'.ownBlock=some W3.heap.size) (h1:Below S.heap.size S W1) (h3:Below W2.heap.size W2 W3):
  OwnJ W4 w.heap.size u' (i+1) zs'∧(∀b,u'.ownBlock=some b→v'.ownBlock≠some b∧b≠g)∧(∀b,v'.ownBlock=some b→b≠g)∧FBox W4 g q∧jlE W4 q x∧Below w.heap.size w W4:=by
 obtain ⟨mF,mR,mX⟩:=jb9 hJ hF hd1 hfx hrp g1 h1 h3;have hgS:=hfx.lt;have z1:=h1.size;have z2:=g1.size;have z3:=h3.size
 have hu:∀b,u'.ownBlock=some b→v.ownBlock≠some b∧b≠g:=fun b e=>by
  rcases l2 with l|l
  ·exact hd1 b (l ▸ e)
  ·rw [l] at e;cases e
   refine ⟨fun e2=> ?_,by omega⟩;have:=(hF.lt _ e2).2;omega
 have hu2:∀b,u'.ownBlock=some b→b < W2.heap.size:=fun b e=>(j2.lt b e).2
 refine ⟨(j2.below h3).kept g3 (fun b e e2=>(hu b e).1 e2.symm),fun b e=>⟨fun e2=> ?_,(hu b e).2⟩,fun b e=> ?_,mX.kept (g3.block g mX.lt fun e=>hd2 g e.symm rfl),⟨?_, ?_⟩, ?_⟩
 ·rcases l4 with l|l
  ·exact (hu b e).1 (l ▸ e2)
  ·rw [l] at e2;cases e2
   have:=hu2 _ e;omega
 ·rcases l4 with l|l
  ·exact hd2 b (l ▸ e)
  ·rw [l] at e;cases e
   omega
 ·exact Rep.grown mR.1 g3 (fun b e=>mF.nou b e)
 ·exact Rep.grown mR.2 g3 (fun b e=>mF.nou b e)
 ·have b1:=ja0 hB h1;have b2:Below w.heap.size w W2:=b1.trans (jab g1 b1.size (fun k e=>(hJ.lt k e).1));have b3:=ja0 b2 h3;exact b3.trans (jab g3 b3.size (fun k e=>(hF.lt k e).1))
section
variable {w:World} {A:Option Addr} {n c:Nat} {a:List UInt8} {ls:List (List UInt8)} {mass:Int}
theorem je6 (h:stB mass a n=0):jbr mass=0∧mst a=0∧n≤256:=by
 unfold stB at h;by_cases h0:jbr mass=0
 ·rw [if_pos h0] at h;by_cases h1:mst a=0
  ·rw [if_pos h1] at h;by_cases h2:256 < n
   ·rw [if_pos h2] at h;cases h
   ·exact ⟨h0,h1,by omega⟩
  ·rw [if_neg h1] at h;exact absurd h h1
 ·rw [if_neg h0] at h;exact absurd h h0
theorem jg9 (h:jbr mass=0):1≤mass∧mass≤999999999:=by
 unfold jbr at h;split at h
 ·cases h
 ·omega
set_option maxHeartbeats 16000000 in
theorem jlk {k:Nat} {F kr:Int} {Ms:List Int} {Ts:List (List UInt8)} (hE:Env w) (h:Sv w A n ls) (hk:0 < k) (hk2:k≤100) (hla:a.length≤k) (hll:∀l∈ls,l.length≤k) (hn:n≤6) (hB:stB mass a n=0) (hF:jar (stE mass (numQ a) ls) (List.range n)=F) (hR:stR mass a ls n=(Ms,Ts,kr)):
  Calls Tryz.prog 9 #[.int .i64 mass,bs a, .slice A n c] w fun e w'=>∃A1 n1 c1 A2 n2 c2,e= .returned (.tuple #[.slice A1 n1 c1, .slice A2 n2 c2, .int .i64 kr])∧Iv6 w' A1 n1 Ms∧Sv w' A2 n2 Ts∧Below w.heap.size w w':=by
 unfold stR at hR;rw [if_pos hB,hF] at hR;obtain ⟨hm0,ha0,_⟩:=je6 hB;obtain ⟨m1,m2⟩:=jg9 hm0;have hx:=jeF ha0;have hst:=StI.zero (ls:=ls) m1 m2 hx.high (hx.num.dzl hla hk);obtain ⟨x,hxx⟩:∃x,numQ a=x:=⟨_,rfl⟩;rw [hxx] at hx hst hF hR;have HR:=qh hR;have HE:=qh hE;have H:=qh h;have HL:=qh hll;have HN:=qh (And.intro hn (And.intro hk hk2));have HM:=qh (fun W=>jh7 (w:=W) hm0);have HMO:=qh (fun W (hb:Below w.heap.size w W)=>jbI (hE.below hb) (by omega) ha0);have HX:=qh hx.num;have HST:=qh hst;have HF0:=qh hF;have q1:decide ((256:Int) < (n:Int))=false:=by rw [decide_eq_false_iff_not];omega
 clear hE h hk hk2 hla hll hn hB hF hR hm0 ha0 m1 m2 hx hst hxx;go_enter Tryz.func9,Tryz.ntmps9;go_wp2_with (first|(go_at_call 44;(with_reducible refine mo0 (HM.out _) fun w1 hb1 hc1 hf1 _=> ?_))|(go_at_call 45;(with_reducible refine mo0 (HMO.out _ bi) fun w2 hb2 hc2 hf2 _=> ?_))|(go_at_call 47;(with_reducible refine mo0 (jap (b:=false) (k:=5) (r:=0) rfl) fun w3 hb3 hc3 hf3 _=> ?_))|(go_at_call 46;(with_reducible refine mo0 (jbl (r:=0) iv2 (by omega) rfl) fun w4 hb4 hc4 hf4 _=> ?_))|(go_at_call 35;(with_reducible refine mf0 (jaz HX.out (HE.out.below bi)) fun w5 s5 A5 n5 c5 t5 B5 m5 d5 hr5 hq5 hb5 hc5 hf5 _=> ?_)))
 have bU:Below w.heap.size w (w5.alloc (.cells #[.int .i64 s5, .slice A5 n5 c5, .int .i64 t5, .slice B5 m5 d5] 82)):=bi;have hfb:=FBox.made w5 82 s5 t5 A5 B5 n5 c5 m5 d5;have hrq:jlE (w5.alloc (.cells #[.int .i64 s5, .slice A5 n5 c5, .int .i64 t5, .slice B5 m5 d5] 82)) ((s5,A5,n5,c5),(t5,B5,m5,d5)) x:=⟨(by with_reducible repeat first|assumption|apply rZ|refine rP ?_ rfl (by simp [go_sem,hc5])),(by with_reducible repeat first|assumption|apply rZ|refine rP ?_ rfl (by simp [go_sem,hc5]))⟩;obtain ⟨U,hU⟩:∃U,w5.alloc (.cells #[.int .i64 s5, .slice A5 n5 c5, .int .i64 t5, .slice B5 m5 d5] 82)=U:=⟨_,rfl⟩;rw [hU] at bU hfb hrq ⊢
 have zg:w.heap.size≤w5.heap.size:=by
  have h1:=hb1.size;have h2:=hb2.size;have h3:=hb3.size;have h4:=hb4.size;have h5:=hb5.size;simp at h1 h2 h3 h4 h5;omega
 obtain ⟨g,hg⟩:∃g,w5.heap.size=g:=⟨_,rfl⟩;rw [hg] at hfb zg ⊢;have HG:=qh zg;clear hU hg hc1 hc2 hc3 hc4 hc5 hf1 hf2 hf3 hf4 hf5 hb1 hb2 hb3 hb4 hb5 hr5 hq5 zg q1 HM HMO HX
 go_loopw [0,11,12,39] (fun m v1 v2 u wr=>∃(i:Nat) (q:FT) (V:List FT),m= .int .i64 (stp mass x ls i).1∧u= .int .i64 (i:Int)∧i≤n∧Below w.heap.size w wr∧OwnJ wr w.heap.size v1 i (stM mass x ls i)∧OwnF wr w.heap.size v2 i V (stX mass x ls i)∧(∀b,v1.ownBlock=some b→v2.ownBlock≠some b∧b≠g)∧(∀b,v2.ownBlock=some b→b≠g)∧FBox wr g q∧jlE wr q (stp mass x ls i).2∧jar (stE mass x ls) ((List.range n).drop i)=F∧StI mass x ls k i) (fun _ _ _ u _=>n - (intOf u).toNat)
 case atStart=>exact ⟨0,_,[],rfl,rfl,Nat.zero_le _,bU,OwnJ.nil _ _,OwnF.nil _ _,fun b e=>(by cases e),fun b e=>(by cases e),hfb,hrq,HF0.out,HST.out⟩
 case round=>
  obtain ⟨i,⟨⟨s,A',n',c'⟩,⟨t,B',m',d'⟩⟩,V,rfl,rfl,hin,hb,hJ,hV,hd1,hd2,hfx,hrep,hF,hI⟩:=hrel;have _:=bm hb;have hnn:=HN.out;obtain ⟨mi,hmi⟩:∃m,(stp mass x ls i).1=m:=⟨_,rfl⟩;obtain ⟨xi,hxi⟩:∃m,(stp mass x ls i).2=m:=⟨_,rfl⟩;rw [hmi];obtain ⟨⟨z0,z1,z2,z3⟩,f0,f1,f2,f3⟩:=hfx.cells;dsimp only at z0 z1 z2 z3;have hgl:=hfx.lt;by_cases hi:i < n
  ·have q0:decide ((i:Int) < (n:Int))=true:=by simp;exact hi
   have q9:decide (i < n)=true:=by simpa using hi
   obtain ⟨b,o,rfl,hbl,hcell⟩:=(H.out.below hb).at_ (by omega);have hl:=hcell i hi;have hil:i < ls.length:=by rw [H.out.len];exact hi
   have hmem:ls.getD i []∈ls:=by rw [List.getD_eq_getElem?_getD,List.getElem?_eq_getElem hil];exact List.getElem_mem hil
   have hlen:=HL.out _ hmem;rw [jfU hi] at hF;obtain ⟨l,hll⟩:∃l,ls.getD i []=l:=⟨_,rfl⟩;rw [hll] at hl hlen;have hEr:=HE.out.below hb;have HER:=qh hEr;have HLEN:=qh hlen;by_cases e0:stE mass x ls i=0
   ·rw [if_pos e0] at hF;obtain ⟨hm,hc,hI2⟩:=hI.step hnn.2.1 (by rw [hll];exact hlen) e0;have hdz:=hI.dz;rw [hll] at hm hc;rw [hmi,hxi] at hc;rw [hxi] at hdz hrep;obtain ⟨y,hy⟩:∃y,numQ l=y:=⟨_,rfl⟩;rw [hy] at hm hc;obtain ⟨j,hj⟩:∃j,Rq.cmpQ y xi=j:=⟨_,rfl⟩;have q5:decide (0 < j)=false:=by rw [decide_eq_false_iff_not,←hj];exact fun e=>Rat.not_lt.2 hc.hyx (Rq.cmp_pos.1 e)
    have HJ:=qh hj;obtain ⟨mo,hmo⟩:∃m,(stp mass x ls (i+1)).1=m:=⟨_,rfl⟩;obtain ⟨xo,hxo⟩:∃m,(stp mass x ls (i+1)).2=m:=⟨_,rfl⟩;have hzo:100 - (mi:Rat)*(100 - xi) / (mo:Rat)=xo:=by rw [←hxo,←hmo,←hmi,←hxi];rfl
    rw [hmo] at hc;have HC:=qh hc;have HZ:=qh hzo;have HMS:=qh (hm.mst);have HY:=qh hm.num;have HYS:=qh hm.num.sz;have HXS:=qh (jta hdz);have HI:=qh (And.intro hi (And.intro hF hI2));have HOJ:=qh hJ;have HOV:=qh hV;have HD:=qh (And.intro hd1 hd2);have HFX:=qh hfx;have HRP:=qh hrep;have HOO:=qh (And.intro hmo hxo);have HKK:Hid (k+30*i+600 < 80000):=qh (by omega);clear hcell hil hmem hlen hF hll hEr e0 hm hc hI hI2 hdz hy hj hmi hxi hmo hxo hzo hJ hV hd1 hd2 hfx hin hnn;go_upto_region 17 with (first|(go_at_call 45;(with_reducible refine mo0 (jbI (HER.out.below bi) (by have:=HLEN.out;have:=HN.out;omega) HMS.out) fun w1 hb1 hc1 hf1 _=> ?_))|(go_at_call 35;(with_reducible refine mf0 (jaz HY.out (HER.out.below bi)) fun w2 s2 A2 n2 c2 t2 B2 m2 d2 hr2 hq2 hb2 hc2 hf2 _=> ?_)))
    have bW:Below wr.heap.size wr (w2.alloc (.cells #[.int .i64 s2, .slice A2 n2 c2, .int .i64 t2, .slice B2 m2 d2] 82)):=bi;have y0:(w2.alloc (.cells #[.int .i64 s2, .slice A2 n2 c2, .int .i64 t2, .slice B2 m2 d2] 82)).cell? ⟨w2.heap.size,0,none⟩=some (.int .i64 s2):=by simp
    have y1:(w2.alloc (.cells #[.int .i64 s2, .slice A2 n2 c2, .int .i64 t2, .slice B2 m2 d2] 82)).cell? ⟨w2.heap.size,1,none⟩=some (.slice A2 n2 c2):=by simp
    have y2:(w2.alloc (.cells #[.int .i64 s2, .slice A2 n2 c2, .int .i64 t2, .slice B2 m2 d2] 82)).cell? ⟨w2.heap.size,2,none⟩=some (.int .i64 t2):=by simp
    have y3:(w2.alloc (.cells #[.int .i64 s2, .slice A2 n2 c2, .int .i64 t2, .slice B2 m2 d2] 82)).cell? ⟨w2.heap.size,3,none⟩=some (.slice B2 m2 d2):=by simp
    have hyr:RepF (w2.alloc (.cells #[.int .i64 s2, .slice A2 n2 c2, .int .i64 t2, .slice B2 m2 d2] 82)) s2 A2 n2 c2 t2 B2 m2 d2 y:=⟨(by with_reducible repeat first|assumption|apply rZ|refine rP ?_ rfl (by simp [go_sem,hc2])),(by with_reducible repeat first|assumption|apply rZ|refine rP ?_ rfl (by simp [go_sem,hc2]))⟩;have zp:w2.heap.size < (w2.alloc (.cells #[.int .i64 s2, .slice A2 n2 c2, .int .i64 t2, .slice B2 m2 d2] 82)).heap.size:=by simp
    obtain ⟨W,hW⟩:∃W,w2.alloc (.cells #[.int .i64 s2, .slice A2 n2 c2, .int .i64 t2, .slice B2 m2 d2] 82)=W:=⟨_,rfl⟩;rw [hW] at bW y0 y1 y2 y3 hyr zp ⊢;obtain ⟨p,hp⟩:∃p,w2.heap.size=p:=⟨_,rfl⟩;rw [hp] at y0 y1 y2 y3 zp ⊢;replace z0:=ja9 bW z0;replace z1:=ja9 bW z1;replace z2:=ja9 bW z2;replace z3:=ja9 bW z3;replace f0:=(bW.frozen (p:=⟨g,0,none⟩) hgl).trans f0;replace f1:=(bW.frozen (p:=⟨g,1,none⟩) hgl).trans f1;replace f2:=(bW.frozen (p:=⟨g,2,none⟩) hgl).trans f2;replace f3:=(bW.frozen (p:=⟨g,3,none⟩) hgl).trans f3;replace hgl:=Nat.lt_of_lt_of_le hgl bW.size;have hxr:RepF W s A' n' c' t B' m' d' xi:=RepF.below HRP.out bW;have HYR:=qh hyr;have HXR:=qh hxr;have HBW:=qh (And.intro hb bW);clear hW hp hc1 hc2 hf1 hf2 hb1 hb2 hr2 hq2 hyr hxr bW hb hl;go_upto_region 19 with (go_at_call 48;(with_reducible refine mo0 (jd7 600 (k+30*i) HJ.out HYR.out HXR.out HYS.out HXS.out (by have:=HKK.out;omega)) fun w3 hb3 hc3 hf3 _=> ?_))
    replace z0:=ja9 hb3 z0;replace z1:=ja9 hb3 z1;replace z2:=ja9 hb3 z2;replace z3:=ja9 hb3 z3;replace f0:=(hb3.frozen (p:=⟨g,0,none⟩) hgl).trans f0;replace f1:=(hb3.frozen (p:=⟨g,1,none⟩) hgl).trans f1;replace f2:=(hb3.frozen (p:=⟨g,2,none⟩) hgl).trans f2;replace f3:=(hb3.frozen (p:=⟨g,3,none⟩) hgl).trans f3;replace hgl:=Nat.lt_of_lt_of_le hgl hb3.size;replace y0:=ja9 hb3 y0;replace y1:=ja9 hb3 y1;replace y2:=ja9 hb3 y2;replace y3:=ja9 hb3 y3;replace zp:=Nat.lt_of_lt_of_le zp hb3.size;go_upto_region 20 with (go_at_call 34;(with_reducible refine (jgm (p:=k+30*i) (q:=600) (HXR.out.below bi) (HYR.out.below bi) HXS.out HYS.out (by have:=HKK.out;omega) HC.out HZ.out).mono ?_);rintro e4 w4 ⟨s4,A4,n4,c4,t4,B4,m4,d4,rfl,⟨hr4,hq4⟩,hb4⟩;obtain ⟨hc4,hf4,_⟩:=bc0 hb4)
    obtain ⟨S,hS⟩:∃S,(((w4.setCell ⟨g,0,none⟩ (.int .i64 s4)).setCell ⟨g,1,none⟩ (.slice A4 n4 c4)).setCell ⟨g,2,none⟩ (.int .i64 t4)).setCell ⟨g,3,none⟩ (.slice B4 m4 d4)=S:=⟨_,rfl⟩;rw [hS];have hS':jt4 w4 g ((s4,A4,n4,c4),(t4,B4,m4,d4))=S:=hS;have b4:RowKit.Below wr.heap.size wr w4:=ja0 (ja0 HBW.out.2 hb3) hb4;have bw4:=ja0 HBW.out.1 b4;have hgr:w4.grownBy S (some g):=hS' ▸ jkH _ _ _;have hfx4:=HFX.out.below b4;have hJS:OwnJ S w.heap.size u11 i (stM mass x ls i):=(HOJ.out.below b4).kept hgr (fun b e e2=>by cases e2;exact (HD.out.1 _ e).2 rfl);have hVS:OwnF S w.heap.size u12 i V (stX mass x ls i):=(HOV.out.below b4).kept hgr (fun b e=>by cases e;exact hfx4.nou) (fun b e e2=>by cases e2;exact HD.out.2 _ e rfl);have hfS:FBox S g ((s4,A4,n4,c4),(t4,B4,m4,d4)):=hS' ▸ hfx4.set _;have hrS:jlE S ((s4,A4,n4,c4),(t4,B4,m4,d4)) xo:=⟨Rep.grown hr4 hgr (fun b e=>by cases e;exact hfx4.nou),Rep.grown hq4 hgr (fun b e=>by cases e;exact hfx4.nou)⟩;have bS:RowKit.Below w.heap.size w S:=bw4.trans (jab hgr bw4.size (fun k e=>by cases e;exact HG.out));have hsz:=bS.size;obtain ⟨⟨x0,x1,x2,x3⟩,_⟩:=hfS.cells;dsimp only at x0 x1 x2 x3;have hgS:=hfS.lt;have HJS:=qh hJS;have HVS:=qh hVS;have HFS:=qh hfS;have HRS:=qh hrS;have HBS:=qh bS;clear hS hS' b4 bw4 hgr hfx4 hJS hVS hfS hrS bS z0 z1 z2 z3 f0 f1 f2 f3 hgl y0 y1 y2 y3 zp hc3 hf3 hb3 hc4 hf4 hb4 hr4 hq4;have hi6:i≤100000:=by have:=HN.out;omega
    refine ja1 (fun w'=>FBox w' g ((s4,A4,n4,c4),(t4,B4,m4,d4))) [] (by kernel_rfl) ?_;have hF0:FBox S.drew g ((s4,A4,n4,c4),(t4,B4,m4,d4)):=HFS.out.below (bD bR);refine tk 0 (u11) [] rfl (by kernel_rfl) pk (by rfl) ?_ hF0 ?_
    ·intro w' hS';obtain _:=hS';go_simp
    simp only [ppq];refine tk 1 (.int .i64 mo) [] rfl (by kernel_rfl) pk (by rfl) ?_ hF0 ?_
    ·intro w' hS';obtain _:=hS';go_simp
    simp only [ppq];refine tk 4 (u12) [] rfl (by kernel_rfl) pk (by rfl) ?_ hF0 ?_
    ·intro w' hS';obtain _:=hS';go_simp
    simp only [ppq];refine tk 5 (fv s4 A4 n4 c4 t4 B4 m4 d4) [] rfl (by kernel_rfl) pk (by rfl) ?_ hF0 ?_
    ·intro w' hS';obtain ⟨⟨x0,x1,x2,x3⟩,_⟩:=FBox.cells hS';dsimp only at x0 x1 x2 x3;have hgl:=FBox.lt hS';go_simp
    simp only [ppq];refine ja4 (rs:=[2,6]) (by kernel_rfl) (by simp) (AllT.cons rfl (fun K hK=> ?o1) (AllT.cons rfl (fun K hK=> ?o2) AllT.nil))
    case' o1=>
     go_simp;refine hK.out _ _ (fun _=>FBox.below HFS.out bi) ?_;clear hK K;refine ja4 (rs:=[3,6]) (by kernel_rfl) (by simp) (AllT.cons rfl (fun K hK=> ?o3) (AllT.cons rfl (fun K hK=> ?o4) AllT.nil))
     case' o3=>
      rw [if_pos (by rfl)];refine jdN (base:=w.heap.size) (v:=u11) (zs:=stM mass x ls i) (q:=mo) _ _ rfl rfl rfl rfl (OwnJ.below HJS.out bi) hi6 (by simp;omega) (by simp) ?_;intro v6 w6 hj6 hg6 hl6;refine hK.out _ _ (fun _=>(jb9 HJS.out HVS.out HD.out.1 HFS.out HRS.out hg6 bi bR).2.2) ?_;clear hK K;refine ja4 (rs:=[6]) (by kernel_rfl) (by simp) (AllT.cons rfl (fun K hK=> ?_) AllT.nil);go_simp;refine hK.out _ _ (fun _=>(by first|exact FBox.below HFS.out bi|exact (jb9 HJS.out HVS.out HD.out.1 HFS.out HRS.out hg6 bi bi).2.2)) ?_;clear hK K
     case' o4=>
      go_simp;refine hK.out _ _ (fun _=>(by first|exact FBox.below HFS.out bi|exact (jb9 HJS.out HVS.out HD.out.1 HFS.out HRS.out hg6 bi bi).2.2)) ?_;clear hK K;refine ja4 (rs:=[3]) (by kernel_rfl) (by simp) (AllT.cons rfl (fun K hK=> ?_) AllT.nil);rw [if_pos (by rfl)];refine jdN (base:=w.heap.size) (v:=u11) (zs:=stM mass x ls i) (q:=mo) _ _ rfl rfl rfl rfl (OwnJ.below HJS.out bi) hi6 (by simp;omega) (by simp) ?_;intro v6 w6 hj6 hg6 hl6;refine hK.out _ _ (fun _=>(jb9 HJS.out HVS.out HD.out.1 HFS.out HRS.out hg6 bi bR).2.2) ?_;clear hK K
    case' o2=>
     go_simp;refine hK.out _ _ (fun _=>(by first|exact FBox.below HFS.out bi|exact (jb9 HJS.out HVS.out HD.out.1 HFS.out HRS.out hg6 bi bi).2.2)) ?_;clear hK K;refine ja4 (rs:=[2]) (by kernel_rfl) (by simp) (AllT.cons rfl (fun K hK=> ?_) AllT.nil);go_simp;refine hK.out _ _ (fun _=>FBox.below HFS.out bi) ?_;clear hK K;refine ja4 (rs:=[3]) (by kernel_rfl) (by simp) (AllT.cons rfl (fun K hK=> ?_) AllT.nil);rw [if_pos (by rfl)];refine jdN (base:=w.heap.size) (v:=u11) (zs:=stM mass x ls i) (q:=mo) _ _ rfl rfl rfl rfl (OwnJ.below HJS.out bi) hi6 (by simp;omega) (by simp) ?_;intro v6 w6 hj6 hg6 hl6;refine hK.out _ _ (fun _=>(jb9 HJS.out HVS.out HD.out.1 HFS.out HRS.out hg6 bi bR).2.2) ?_;clear hK K
    all_goals
     refine rd1 7 (by kernel_rfl) rfl (fun K hK=> ?_);rw [if_pos (by rfl)];refine jkT (base:=w.heap.size) (v:=u12) (q:=((s4,A4,n4,c4),(t4,B4,m4,d4))) (x:=xo) _ _ rfl rfl rfl rfl (jb9 HJS.out HVS.out HD.out.1 HFS.out HRS.out hg6 bi bi).1 hi6 (by have:=hg6.size;simp at this;(try simp);omega) (jb9 HJS.out HVS.out HD.out.1 HFS.out HRS.out hg6 bi bi).2.1 ?_ ?_ ?_ ?_ ?_
     ·first|(simp;done)|exact hg6.cell (by simp) (fun e=>by have hq:=(HJS.out.lt _ e.symm).2;first|omega|(simp at hq;done)|(simp at hq;omega))
     ·first|(simp;done)|exact hg6.cell (by simp) (fun e=>by have hq:=(HJS.out.lt _ e.symm).2;first|omega|(simp at hq;done)|(simp at hq;omega))
     ·first|(simp;done)|exact hg6.cell (by simp) (fun e=>by have hq:=(HJS.out.lt _ e.symm).2;first|omega|(simp at hq;done)|(simp at hq;omega))
     ·first|(simp;done)|exact hg6.cell (by simp) (fun e=>by have hq:=(HJS.out.lt _ e.symm).2;first|omega|(simp at hq;done)|(simp at hq;omega))
     intro v7 w7 hf7 hg7 hl7;have hps:=jmT HBS.out HJS.out HVS.out HD.out.1 HD.out.2 HFS.out HRS.out hg6 hj6 hl6 hg7 hf7 hl7 bi bi;have HPS:=qh hps;have HV7:=qh hf7;clear hps hf7 hg7 hl7 hj6 hg6 hl6;refine hK.out _ _ (fun _=>HPS.out.2.2.2.1) ?_;clear hK K;refine rd1 8 (by kernel_rfl) rfl (fun K hK=> ?_);go_simp;refine hK.out _ _ (fun _=>HPS.out.2.2.2.1) ?_;clear hK K;refine rd1 9 (by kernel_rfl) rfl (fun K hK=> ?_);go_simp;refine hK.out _ _ (fun _=>HPS.out.2.2.2.1) ?_;clear hK K;refine ja2 (by kernel_rfl) ?_ _;go_wp2;obtain ⟨p1,p2,p3,p4,p5,p6⟩:=HPS.out;have hI2:=HI.out;exact ⟨⟨i+1,_,_,by rw [HOO.out.1],by simp,hI2.1,p6,by rw [jk4,HOO.out.1];exact p1,by rw [jke,HOO.out.2];exact HV7.out,p2,p3,p4,by rw [HOO.out.2];exact p5,hI2.2.1,hI2.2.2⟩,by simp [intOf];omega⟩
   ·rw [if_neg e0] at hF;have hR:=HR.out;rw [if_neg (by rw [←hF];exact e0)] at hR;obtain rfl: []=Ms:=(Prod.mk.inj hR).1;obtain rfl: []=Ts:=(Prod.mk.inj (Prod.mk.inj hR).2).1;obtain rfl:F=kr:=(Prod.mk.inj (Prod.mk.inj hR).2).2;have hs:=hF;unfold stE at hs;rw [hll] at hs;by_cases e1:mst l=0
    ·rw [if_pos e1,hxi] at hs;have hm:=jeF e1;have hdz:=hI.dz;rw [hxi] at hdz hrep;obtain ⟨y,hy⟩:∃y,numQ l=y:=⟨_,rfl⟩;rw [hy] at hm hs;by_cases e2:xi < y
     ·rw [if_pos e2] at hs;obtain rfl:(11:Int)=F:=hs;obtain ⟨j,hj⟩:∃j,Rq.cmpQ y xi=j:=⟨_,rfl⟩;have q5:decide (0 < j)=true:=by rw [decide_eq_true_iff,←hj];exact Rq.cmp_pos.2 e2
      have HJ:=qh hj;have HMS:=qh (hm.mst);have HY:=qh hm.num;have HYS:=qh hm.num.sz;have HXS:=qh (jta hdz);have HRP:=qh hrep;have HKK:Hid (k+30*i+600 < 80000):=qh (by omega);clear hcell hil hmem hlen hF hR hll hEr e0 e1 e2 hm hI hdz hy hj hmi hxi hJ hV hd1 hd2 hfx hin hnn;go_wp2_with (first|((go_at_call 45;(with_reducible refine mo0 (jbI (HER.out.below bi) (by have:=HLEN.out;have:=HN.out;omega) HMS.out) fun w1 hb1 hc1 hf1 _=> ?_));(first|have y1_0:=szl (k:=g) hb1 (by first|go_size|fail)|have y1_0:=Nat.one_pos))|((go_at_call 35;(with_reducible refine mf0 (jaz HY.out (HER.out.below bi)) fun w2 s2 A2 n2 c2 t2 B2 m2 d2 hr2 hq2 hb2 hc2 hf2 _=> ?_));(first|have y2_0:=szl (k:=g) hb2 (by first|go_size|fail)|have y2_0:=Nat.one_pos))|(go_at_call 48;(with_reducible refine mo0 (jd7 600 (k+30*i) HJ.out ⟨(by with_reducible repeat first|assumption|apply rZ|refine rP ?_ rfl (by simp [go_sem,hc2])),(by with_reducible repeat first|assumption|apply rZ|refine rP ?_ rfl (by simp [go_sem,hc2]))⟩ (RepF.below HRP.out bi) HYS.out HXS.out (by have:=HKK.out;omega)) fun w3 hb3 hc3 hf3 _=> ?_)))
      go_ret3;exact ⟨none,0,0,none,0,0,rfl,⟨rfl,fun h=>by omega⟩,⟨rfl,fun h=>by omega⟩,ja0 hb bi⟩
     ·rw [if_neg e2] at hs;exact absurd (hF.trans hs.symm) e0
    ·rw [if_neg e1] at hs;obtain ⟨z,hz⟩:∃z,mst l=z:=⟨_,rfl⟩;rw [hz] at hs e1;subst hs;have q1:(z != 0)=true:=by rw [bne_iff_ne];exact e1
     have HMS:=qh hz;clear hcell hil hmem hlen hF hR hll hEr e0 e1 hI hmi hxi hJ hV hd1 hd2 hfx hin hnn hrep hz;go_wp2_with (go_at_call 45;(with_reducible refine mo0 (jbI (HER.out.below bi) (by have:=HLEN.out;have:=HN.out;omega) HMS.out) fun w1 hb1 hc1 hf1 _=> ?_))
     go_ret3;exact ⟨none,0,0,none,0,0,rfl,⟨rfl,fun h=>by omega⟩,⟨rfl,fun h=>by omega⟩,ja0 hb bi⟩
  ·have q0:decide (i < n)=false:=by simp;omega
   obtain rfl:n=i:=by omega
   rw [List.drop_eq_nil_of_le (by rw [List.length_range];exact Nat.le_refl _)] at hF;obtain rfl:(0:Int)=F:=hF;have hall:=StI.all HST.out hnn.2.1 HL.out (n:=n) (fun j hj=>jdI HF0.out j (List.mem_range.2 hj));obtain ⟨A1,c1,rfl,hJ1⟩:=hJ.form;obtain ⟨A2,c2,rfl,hV1⟩:=hV.form;have hR:=HR.out;rw [if_pos rfl] at hR;obtain ⟨qs,hqs⟩:∃qs,stX mass x ls n=qs:=⟨_,rfl⟩
   have hS:∀j,j < n→StrQ (qs.getD j 0):=fun j hj=>by
    rw [←hqs,jtg hj];exact (hall (j+1) hj).dz.strQ (by omega)
   rw [hqs] at hV1 hR;obtain ⟨Z,hZ⟩:∃Z,stM mass x ls n=Z:=⟨_,rfl⟩;rw [hZ] at hJ1 hR;obtain ⟨G,hG⟩:∃G,qs.any je3=G:=⟨_,rfl⟩;have HGA:=qh hG;have hlq:qs.length=n:=hV1.len;rw [hG] at hR;have HRR:=qh hR;have HSS:=qh hS;have HLQ:=qh hlq;have HJ1:=qh hJ1;have HV1:=qh hV1;have HBB:=qh hb;have HEB:=qh (HE.out.below hb);clear hb hJ hV hd1 hd2 hfx hrep hI hall hJ1 hV1 hR hqs hS hZ hG hlq hmi hxi z0 z1 z2 z3 f0 f1 f2 f3 hgl hi hin HR
   rename World=>wz
   go_wp2
   go_loopw [72] (fun u wr=>∃(j:Nat),u= .int .i64 (j:Int)∧j≤n∧RowKit.Below wz.heap.size wz wr∧(qs.drop j).any je3=G) (fun u _=>n - (intOf u).toNat)
   case atStart=>exact ⟨0,rfl,Nat.zero_le _,Below.refl _ _,HGA.out⟩
   case round=>
    obtain ⟨j,rfl,hjn,hb,hany⟩:=hrel;have _:=bm hb;by_cases hj:j < n
    ·have q1:decide ((j:Int) < (n:Int))=true:=by simp;exact hj
     have q2:decide (j < n)=true:=by simpa using hj
     obtain ⟨b,o,rfl,hbl,hat⟩:=(HV1.out.below hb).at_ (by omega);obtain ⟨s,A',n',c',t,B',m',d',k0,k1,k2,k3,hr⟩:=(hat j hj).at_;have hs:=HSS.out j hj;rw [jd5 (d:=(0:Rat)) (by rw [HLQ.out];exact hj),List.any_cons] at hany;obtain ⟨y,hy⟩:∃y,qs.getD j 0=y:=⟨_,rfl⟩;rw [hy] at hr hs hany;obtain ⟨f,hf⟩:∃f,je3 y=f:=⟨_,rfl⟩;have HF:=qh hf;have HS:=qh hs;have HRP:=qh hr;have HEJ:=qh (HEB.out.below hb);have HJN:=qh hj;rw [hf] at hany;have HAN:=qh hany;clear hat hr hs hy hf hany hjn;cases f with
     | true=>
       obtain rfl:true=G:=HAN.out;have hR:=HRR.out;rw [if_pos rfl] at hR;obtain rfl: []=Ms:=(Prod.mk.inj hR).1;obtain rfl: []=Ts:=(Prod.mk.inj (Prod.mk.inj hR).2).1;obtain rfl:(4:Int)=kr:=(Prod.mk.inj (Prod.mk.inj hR).2).2;clear hR;go_wp2_with (go_at_call 36;(with_reducible refine mo0 (jbf HF.out (RepF.below HRP.out bi) (HEJ.out.below bi) HS.out) fun w1 hb1 hc1 hf1 _=> ?_))
       go_ret3;exact ⟨none,0,0,none,0,0,rfl,⟨rfl,fun h=>by omega⟩,⟨rfl,fun h=>by omega⟩,ja0 HBB.out (ja0 hb bi)⟩
     | false=>
       go_wp2_with (go_at_call 36;(with_reducible refine mo0 (jbf HF.out (RepF.below HRP.out bi) (HEJ.out.below bi) HS.out) fun w1 hb1 hc1 hf1 _=> ?_))
       exact ⟨⟨j+1,by simp,HJN.out,ja0 hb bi,by have:=HAN.out;rwa [Bool.false_or] at this⟩,by have:=HJN.out;simp [intOf];omega⟩
    ·have q1:decide (j < n)=false:=by simp;omega
     obtain rfl:n=j:=by omega
     rw [List.drop_eq_nil_of_le (by rw [HLQ.out];exact Nat.le_refl _)] at hany;obtain rfl:false=G:=hany;have hR:=HRR.out;rw [if_neg (by decide)] at hR;obtain rfl:Z=Ms:=(Prod.mk.inj hR).1;obtain rfl:qs.map tq=Ts:=(Prod.mk.inj (Prod.mk.inj hR).2).1;obtain rfl:(0:Int)=kr:=(Prod.mk.inj (Prod.mk.inj hR).2).2
     have hno:∀i,i < n→StrQ (qs.getD i 0)∧je3 (qs.getD i 0)=false:=fun i hi=>⟨HSS.out i hi,by
      have h1:=List.any_eq_false.1 HGA.out (qs.getD i 0) (by rw [List.getD_eq_getElem?_getD,List.getElem?_eq_getElem (by rw [HLQ.out];exact hi)];exact List.getElem_mem _)
      simpa using h1⟩
     have HT:=qh (joO (HEB.out.below hb) (HV1.out.below hb) (c:=c2) (by omega) hno);have HJ2:=qh (HJ1.out.below hb);clear hR hno hj hjn;go_wp2_with (go_at_call 49;(with_reducible refine HT.out.mono ?_);rintro e1 w1 ⟨B1,rfl,hs1,hb1⟩;obtain ⟨hc1,hf1,_⟩:=bc0 hb1)
     go_ret3;exact ⟨_,_,_,_,_,_,rfl,HJ2.out.below hb1,hs1,ja0 HBB.out (ja0 hb hb1)⟩
end
end Go.Proofs.YtekpigjlnjddbaaGreatDoor
