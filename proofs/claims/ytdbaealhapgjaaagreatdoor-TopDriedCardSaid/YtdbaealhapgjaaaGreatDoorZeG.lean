/- Parts. -/
import Derived.Test.YtdbaealhapgjaaaGreatDoorKpG
import Derived.Test.YtdbaealhapgjaaaGreatDoorZaG
set_option linter.all false
set_option maxRecDepth 100000
set_option maxHeartbeats 8000000
namespace Go.Proofs.YtdbaealhapgjaaaGreatDoor
open Go Go.RowKit Go.Proofs.Tryz

theorem jc9:Dz 3 (100:Rat):=⟨by decide+kernel,by decide+kernel⟩
section
variable {w:World} {l a b:List UInt8} {mass:Int}
theorem jgY {k:Int} (hk:jbr mass=k):Calls prog 32 #[.int .i64 mass] w fun e w'=>e= .returned (.int .i64 k)∧Below w.heap.size w w':=by
 unfold jbr at hk;by_cases h1:mass < 1
 ·rw [if_pos (.inl h1)] at hk;subst hk;have p1:decide (mass < 1)=true:=by rw [decide_eq_true_iff];omega
  go_enter func32,ntmps32;go_wp2;go_ret;exact ⟨rfl,bi⟩
 ·have p1:decide (mass < 1)=false:=by rw [decide_eq_false_iff_not];omega
  by_cases h2:999999999 < mass
  ·rw [if_pos (.inr h2)] at hk;subst hk;have p2:decide (999999999 < mass)=true:=by rw [decide_eq_true_iff];omega
   go_enter func32,ntmps32;go_wp2;go_ret;exact ⟨rfl,bi⟩
  ·rw [if_neg (by omega)] at hk;subst hk;have p2:decide (999999999 < mass)=false:=by rw [decide_eq_false_iff_not];omega
   go_enter func32,ntmps32;go_wp2;go_ret;exact ⟨rfl,bi⟩
theorem joo {x:Rat} {k:Nat} {b:Bool} (hb:decide (0≤x∧x < 100)=b) (hx:Dz k x) (hk:0 < k) (hk2:k≤9000):Calls prog 89 #[bs (tq x)] w fun e w'=>e= .returned (.bool b)∧Below w.heap.size w w':=by
 obtain ⟨s,hs⟩:∃s,sgn x.num=s:=⟨_,rfl⟩;obtain ⟨j,hj⟩:∃j,Rq.cmpQ x 100=j:=⟨_,rfl⟩;have HS:=qh (fun W=>jqN (w:=W) hs hx hk (by omega));have HJ:=qh (fun W=>jko (w:=W) hj hx jc9 hk (by omega) hk2 (by omega));rw [show tq (100:Rat)=[49,48,48] by decide+kernel] at HJ;obtain ⟨X,hX⟩:∃X,tq x=X:=⟨_,rfl⟩;rw [hX] at HS HJ ⊢;by_cases h0:x < 0
 ·obtain rfl:false=b:=by rw [←hb,eq_comm,decide_eq_false_iff_not];exact fun e=>Rat.not_lt.2 e.1 h0
  obtain rfl: -1=s:=by rw [←hs];unfold sgn;rw [if_pos (jgN.2 h0)]
  clear hb hx hk hk2 hs hj hX h0;go_enter func89,ntmps89;go_wp2_with (go_at_call 19;(with_reducible refine mo0 (HS.o _) fun w1 hb1 hc1 hf1 _=> ?_))
  go_ret;exact ⟨rfl,bi⟩
 ·have hk0:0≤s:=by
   rw [←hs];unfold sgn;have:¬x.num < 0:=fun h=>h0 (jgN.1 h)
   rw [if_neg this];split <;> omega
  have q1:decide (0≤s)=true:=by simpa using hk0
  have q2:decide (j < 0)=b:=by
   rw [←hb,decide_eq_decide,←hj];exact ⟨fun e=>⟨Rat.not_lt.1 h0,Rq.cmp_neg.1 e⟩,fun e=>Rq.cmp_neg.2 e.2⟩
  clear hb hx hk hk2 hs hj hX h0 hk0;cases b <;>
  ·go_enter func89,ntmps89;go_wp2_with (first|(go_at_call 19;(with_reducible refine mo0 (HS.o _) fun w1 hb1 hc1 hf1 _=> ?_))|(go_at_call 20;(with_reducible refine mo0 (HJ.o _) fun w2 hb2 hc2 hf2 _=> ?_)))
   go_ret;exact ⟨rfl,bi⟩
theorem jcV {k:Int} (hk:mst l=k) (hl:l.length≤5000):Calls prog 33 #[bs l] w fun e w'=>e= .returned (.int .i64 k)∧Below w.heap.size w w':=by
 obtain ⟨k0,hk0⟩:∃k,chk l=k:=⟨_,rfl⟩;have HC:=qh (fun W=>jpl (w:=W) hk0 (by omega));unfold mst at hk;by_cases h0:k0=0
 ·subst h0;rw [if_pos hk0] at hk;have hx:=jjb hk0;obtain ⟨x,hxx⟩:∃x,numQ l=x:=⟨_,rfl⟩;rw [hxx] at hx hk;obtain ⟨b,hb⟩:∃b,decide (0≤x∧x < 100)=b:=⟨_,rfl⟩;have HB:=qh (fun W=>joo (w:=W) hb (hx.dzl (k:=5000) hl (by omega)) (by omega) (by omega));rw [←hx.eq] at HB
  have hkb:(if b then (0:Int) else 3)=k:=by
   rw [←hk,←hb];by_cases q:x < 0∨100≤x
   ·rw [if_pos q,decide_eq_false (fun e=>q.elim (fun h=>Rat.not_lt.2 e.1 h) (fun h=>Rat.not_lt.2 h e.2))];rfl
   ·rw [if_neg q,decide_eq_true ⟨Rat.not_lt.1 fun h=>q (.inl h),Rat.not_le.1 fun h=>q (.inr h)⟩];rfl
  clear hk hl hk0 hx hxx hb;cases b <;>
  ·subst hkb;go_enter func33,ntmps33;go_wp2_with (first|(go_at_call 12;(with_reducible refine mo0 (HC.o _) fun w1 hb1 hc1 hf1 _=> ?_))|(go_at_call 89;(with_reducible refine mo0 (HB.o _) fun w2 hb2 hc2 hf2 _=> ?_)))
   go_ret;exact ⟨rfl,bi⟩
 ·rw [if_neg (by rw [hk0];exact h0),hk0] at hk;subst hk;have q1:(k0==0)=false:=by rw [beq_eq_false_iff_ne];exact h0
  clear hl hk0 h0;go_enter func33,ntmps33;go_wp2_with (go_at_call 12;(with_reducible refine mo0 (HC.o _) fun w1 hb1 hc1 hf1 _=> ?_))
  go_ret;exact ⟨rfl,bi⟩
theorem jj0 {k:Int} (hk:jhc mass a b=k) (hla:a.length≤5000) (hlb:b.length≤5000):Calls prog 7 #[.int .i64 mass,bs a,bs b] w fun e w'=>e= .returned (.int .i64 k)∧Below w.heap.size w w':=by
 obtain ⟨k0,hk0⟩:∃k,jbr mass=k:=⟨_,rfl⟩;obtain ⟨k1,hk1⟩:∃k,mst a=k:=⟨_,rfl⟩;obtain ⟨k2,hk2⟩:∃k,mst b=k:=⟨_,rfl⟩;have HM:=qh (fun W=>jgY (w:=W) hk0);have HA:=qh (fun W=>jcV (w:=W) hk1 hla);have HB:=qh (fun W=>jcV (w:=W) hk2 hlb);unfold jhc at hk;obtain ⟨z,hz⟩:∃z,jlB mass a b=z:=⟨_,rfl⟩;rw [hz] at hk;by_cases h0:k0=0
 ·subst h0;by_cases h1:k1=0
  ·subst h1;have hz2:z=k2:=by rw [←hz];unfold jlB;rw [if_pos hk0,if_pos hk1,hk2]
   subst hz2;by_cases h2:z=0
   ·subst h2;rw [if_pos rfl] at hk;obtain ⟨_,hx,hy⟩:=jeg hz;obtain ⟨x,hxx⟩:∃x,numQ a=x:=⟨_,rfl⟩;obtain ⟨y,hyy⟩:∃x,numQ b=x:=⟨_,rfl⟩;rw [hxx] at hx hk;rw [hyy] at hy hk;obtain ⟨j,hj⟩:∃j,Rq.cmpQ y x=j:=⟨_,rfl⟩;have HJ:=qh (fun W=>jko (w:=W) hj (hy.num.dzl (k:=5000) hlb (by omega)) (hx.num.dzl (k:=5000) hla (by omega)) (by omega) (by omega) (by omega) (by omega));rw [←hy.num.eq,←hx.num.eq] at HJ;by_cases q:x < y
    ·rw [if_pos q] at hk;subst hk;have q1:decide (0 < j)=true:=by rw [decide_eq_true_iff,←hj];exact Rq.cmp_pos.2 q
     clear hla hlb hk0 hk1 hk2 hz hx hy hxx hyy hj q;go_enter func7,ntmps7;go_wp2_with (first|(go_at_call 32;(with_reducible refine mo0 (HM.o _) fun w1 hb1 hc1 hf1 _=> ?_))|(go_at_call 33;(with_reducible show Calls _ _ #[bs a] _ _);(with_reducible refine mo0 (HA.o _) fun w2 hb2 hc2 hf2 _=> ?_))|(go_at_call 33;(with_reducible show Calls _ _ #[bs b] _ _);(with_reducible refine mo0 (HB.o _) fun w3 hb3 hc3 hf3 _=> ?_))|(go_at_call 20;(with_reducible refine mo0 (HJ.o _) fun w4 hb4 hc4 hf4 _=> ?_)))
     go_ret;exact ⟨rfl,bi⟩
    ·rw [if_neg q] at hk;subst hk;have q1:decide (0 < j)=false:=by rw [decide_eq_false_iff_not,←hj];exact fun e=>q (Rq.cmp_pos.1 e)
     clear hla hlb hk0 hk1 hk2 hz hx hy hxx hyy hj q;go_enter func7,ntmps7;go_wp2_with (first|(go_at_call 32;(with_reducible refine mo0 (HM.o _) fun w1 hb1 hc1 hf1 _=> ?_))|(go_at_call 33;(with_reducible show Calls _ _ #[bs a] _ _);(with_reducible refine mo0 (HA.o _) fun w2 hb2 hc2 hf2 _=> ?_))|(go_at_call 33;(with_reducible show Calls _ _ #[bs b] _ _);(with_reducible refine mo0 (HB.o _) fun w3 hb3 hc3 hf3 _=> ?_))|(go_at_call 20;(with_reducible refine mo0 (HJ.o _) fun w4 hb4 hc4 hf4 _=> ?_)))
     go_ret;exact ⟨rfl,bi⟩
   ·rw [if_neg h2] at hk;subst hk;have q1:(z==0)=false:=by rw [beq_eq_false_iff_ne];exact h2
    clear hla hlb hk0 hk1 hk2 hz h2;go_enter func7,ntmps7;go_wp2_with (first|(go_at_call 32;(with_reducible refine mo0 (HM.o _) fun w1 hb1 hc1 hf1 _=> ?_))|(go_at_call 33;(with_reducible show Calls _ _ #[bs a] _ _);(with_reducible refine mo0 (HA.o _) fun w2 hb2 hc2 hf2 _=> ?_))|(go_at_call 33;(with_reducible show Calls _ _ #[bs b] _ _);(with_reducible refine mo0 (HB.o _) fun w3 hb3 hc3 hf3 _=> ?_)))
    go_ret;exact ⟨rfl,bi⟩
  ·have hz2:z=k1:=by rw [←hz];unfold jlB;rw [if_pos hk0,if_neg (by rw [hk1];exact h1),hk1]
   subst hz2;rw [if_neg h1] at hk;subst hk;have q1:(z==0)=false:=by rw [beq_eq_false_iff_ne];exact h1
   clear hla hlb hk0 hk1 hk2 hz h1;go_enter func7,ntmps7;go_wp2_with (first|(go_at_call 32;(with_reducible refine mo0 (HM.o _) fun w1 hb1 hc1 hf1 _=> ?_))|(go_at_call 33;(with_reducible show Calls _ _ #[bs a] _ _);(with_reducible refine mo0 (HA.o _) fun w2 hb2 hc2 hf2 _=> ?_)))
   go_ret;exact ⟨rfl,bi⟩
 ·have hz2:z=k0:=by rw [←hz];unfold jlB;rw [if_neg (by rw [hk0];exact h0),hk0]
  subst hz2;rw [if_neg h0] at hk;subst hk;have q1:(z==0)=false:=by rw [beq_eq_false_iff_ne];exact h0
  clear hla hlb hk0 hk1 hk2 hz h0;go_enter func7,ntmps7;go_wp2_with (go_at_call 32;(with_reducible refine mo0 (HM.o _) fun w1 hb1 hc1 hf1 _=> ?_))
  go_ret;exact ⟨rfl,bi⟩
end

section
variable {w:World} {l a b:List UInt8} {mass:Int}
theorem dzm {m:Int} (h1:1≤m) (h2:m≤999999999):Dz 9 ((m:Int):Rat):=⟨by rw [Rat.num_intCast];omega,by rw [Rat.den_intCast];omega⟩
variable {x y z:Rat} {k j:Nat}
end

theorem jAe {v:Rat} {N:Int} (h: -((-v).floor)=N):v≤(N:Rat)∧(N:Rat) < v+1:=by
 have e:(-v).floor= -N:=by omega
 have h1:(((-v).floor:Int):Rat)≤ -v:=Rat.floor_le (-v);have h2: -v < (((-v).floor+1:Int):Rat):=Rat.lt_floor_add_one (-v);rw [e,Rat.intCast_neg] at h1;rw [e,Rat.intCast_add,Rat.intCast_neg] at h2;have h3:((1:Int):Rat)=1:=rfl;constructor <;> grind
structure Once (mass N:Int) (x y z:Rat):Prop where
 back:(N:Rat)*(100 - z)=(mass:Rat)*(100 - x)
 low:y≤z
 high:z≤x
 less:((N - 1:Int):Rat)*(100 - y) < (mass:Rat)*(100 - x)
theorem Ceil.once {mass N:Int} {x y z:Rat} (h:Ceil mass N x y) (hz:100 - (mass:Rat)*(100 - x) / (N:Rat)=z):Once mass N x y z:=by
 obtain ⟨c1,c2⟩:=h.le;have hx:0 < 100 - x:=by have:=h.hx;grind
 have hy:0 < 100 - y:=by have:=h.hx;have:=h.hyx;grind
 have hN:(1:Rat)≤(N:Rat):=by exact_mod_cast c1
 have hNm:(N:Rat)≤(mass:Rat):=by exact_mod_cast c2
 obtain ⟨P,hP⟩:∃P,(mass:Rat)*(100 - x) / (100 - y)=P:=⟨_,rfl⟩;obtain ⟨Q,hQ⟩:∃Q,(mass:Rat)*(100 - x) / (N:Rat)=Q:=⟨_,rfl⟩;have eP:P*(100 - y)=(mass:Rat)*(100 - x):=by rw [←hP];grind
 have eQ:Q*(N:Rat)=(mass:Rat)*(100 - x):=by rw [←hQ];grind
 have hn:=h.eq;rw [hP] at hn
 have f1:P≤(N:Rat):=by
  have h1:(((-P).floor:Int):Rat)≤ -P:=Rat.le_floor_iff.1 (Int.le_refl _);have h2:((N:Int):Rat)= -(((-P).floor:Int):Rat):=by rw [←hn,Rat.intCast_neg]
  rw [h2]
  grind
 have f2:((N - 1:Int):Rat) < P:=by
  refine Rat.not_le.1 fun h1=> ?_
  have h2: -(N - 1)≤(-P).floor:=Rat.le_floor_iff.2 (by rw [Rat.intCast_neg];grind);omega
 rw [hQ] at hz;have eD:100 - z=Q:=by rw [←hz];grind
 refine ⟨by rw [eD,←eQ];grind, ?_, ?_, ?_⟩
 ·refine Rat.not_lt.1 fun q=> ?_
  have h1:100 - y < Q:=by rw [←eD];grind
  have h2:=Rat.mul_lt_mul_of_pos_right h1 (show (0:Rat) < (N:Rat) by grind);have h3:=Rat.mul_le_mul_of_nonneg_right f1 (Rat.le_of_lt hy);rw [eQ] at h2;rw [eP] at h3
  grind
 ·refine Rat.not_lt.1 fun q=> ?_
  have h1:Q < 100 - x:=by rw [←eD];grind
  have h2:=Rat.mul_lt_mul_of_pos_right h1 (show (0:Rat) < (N:Rat) by grind);have h3:=Rat.mul_le_mul_of_nonneg_right hNm (Rat.le_of_lt hx);rw [eQ] at h2
  grind
 ·rw [←eP];exact Rat.mul_lt_mul_of_pos_right f2 hy
end Go.Proofs.YtdbaealhapgjaaaGreatDoor
