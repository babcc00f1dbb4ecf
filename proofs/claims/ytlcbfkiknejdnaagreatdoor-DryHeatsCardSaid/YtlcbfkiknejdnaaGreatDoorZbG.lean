/- Parts. -/
import Derived.Test.YtlcbfkiknejdnaaGreatDoorZa
import Derived.Test.YtlcbfkiknejdnaaGreatDoorMnG
set_option linter.all false
set_option maxRecDepth 100000
set_option maxHeartbeats 8000000
namespace Go.Proofs.YtlcbfkiknejdnaaGreatDoor
open Go Go.RowKit

theorem Rep.none {w:World} {s z:Int} {A:Option Addr} {n c:Nat} (h:Rep w s A n c z) (h0: -9223372036854775808 < z) (h1:z < 9223372036854775808):s=z∧A= .none∧n=0∧c=0:=by
 cases h with
 | small _ _ _=>exact ⟨rfl,rfl,rfl,rfl⟩
 | plus _ _ _ ds h=>have:=h.big;omega
 | minus _ _ _ ds h=>have:=h.big;omega
structure Ceil (mass N:Int) (x y:Rat):Prop where
 eq: -((-((mass:Rat)*(100 - x) / (100 - y))).floor)=N
 m1:1≤mass
 m2:mass≤999999999
 hx:x < 100
 hyx:y≤x
theorem Ceil.le {mass N:Int} {x y:Rat} (h:Ceil mass N x y):1≤N∧N≤mass:=by
 obtain ⟨rfl,h1,h2,h3,h4⟩:=h;have hx:0 < 100 - x:=by grind
 have hy:0 < 100 - y:=by grind
 obtain ⟨Q,hQ⟩:∃Q,(mass:Rat)*(100 - x) / (100 - y)=Q:=⟨_,rfl⟩;have hm:(1:Rat)≤(mass:Rat):=by exact_mod_cast h1
 have e:Q*(100 - y)=(mass:Rat)*(100 - x):=by rw [←hQ];grind
 have hpos:0 < (mass:Rat)*(100 - x):=Rat.mul_pos (by grind) hx
 have hQ0:0 < Q:=by
  refine Rat.not_le.1 fun hq=> ?_
  have:=Rat.mul_le_mul_of_nonneg_right hq (Rat.le_of_lt hy);rw [e] at this
  grind
 have hQm:Q≤(mass:Rat):=by
  refine Rat.not_lt.1 fun hq=> ?_
  have h5:=Rat.mul_lt_mul_of_pos_right hq hy;have h6:(mass:Rat)*(100 - x)≤(mass:Rat)*(100 - y):=Rat.mul_le_mul_of_nonneg_left (by grind) (by grind);rw [e] at h5
  grind
 rw [hQ];constructor
 ·have h7:(-Q).floor < 0:=by
   rw [←Int.not_le,Rat.le_floor_iff];intro h8;have:((0:Int):Rat)=0:=rfl;rw [this] at h8
   grind
  omega
 ·have h7: -mass≤(-Q).floor:=by
   rw [Rat.le_floor_iff,Rat.intCast_neg]
   grind
  omega
section
variable {s t u v:Int} {A B C D:Option Addr} {n c m d i k j l:Nat} {w:World} {x y:Rat} {p q:Nat}
end


section
variable {w:World} {a b:List UInt8} {mass:Int} {x y:Rat}
end

theorem jc9:Dz 3 (100:Rat):=⟨by decide+kernel,by decide+kernel⟩
section
variable {w:World} {l a b:List UInt8} {mass:Int}
theorem jgY {k:Int} (hk:jbr mass=k):Calls Tryz.prog 47 #[.int .i64 mass] w fun e w'=>e= .returned (.int .i64 k)∧Below w.heap.size w w':=by
 unfold jbr at hk;by_cases h1:mass < 1
 ·rw [if_pos (.inl h1)] at hk;subst hk;have p1:decide (mass < 1)=true:=by rw [decide_eq_true_iff];omega
  go_enter Tryz.func47,Tryz.ntmps47;go_wp2;go_ret;exact ⟨rfl,bi⟩
 ·have p1:decide (mass < 1)=false:=by rw [decide_eq_false_iff_not];omega
  by_cases h2:999999999 < mass
  ·rw [if_pos (.inr h2)] at hk;subst hk;have p2:decide (999999999 < mass)=true:=by rw [decide_eq_true_iff];omega
   go_enter Tryz.func47,Tryz.ntmps47;go_wp2;go_ret;exact ⟨rfl,bi⟩
  ·rw [if_neg (by omega)] at hk;subst hk;have p2:decide (999999999 < mass)=false:=by rw [decide_eq_false_iff_not];omega
   go_enter Tryz.func47,Tryz.ntmps47;go_wp2;go_ret;exact ⟨rfl,bi⟩
theorem joo {x:Rat} {k:Nat} {b:Bool} (hb:decide (0≤x∧x < 100)=b) (hx:Dz k x) (hk:0 < k) (hk2:k≤9000):Calls Tryz.prog 104 #[bs (tq x)] w fun e w'=>e= .returned (.bool b)∧Below w.heap.size w w':=by
 obtain ⟨s,hs⟩:∃s,sgn x.num=s:=⟨_,rfl⟩;obtain ⟨j,hj⟩:∃j,Rq.cmpQ x 100=j:=⟨_,rfl⟩;have HS:=qh (fun W=>jqN (w:=W) hs hx hk (by omega));have HJ:=qh (fun W=>jko (w:=W) hj hx jc9 hk (by omega) hk2 (by omega));rw [show tq (100:Rat)=[49,48,48] by decide+kernel] at HJ;obtain ⟨X,hX⟩:∃X,tq x=X:=⟨_,rfl⟩;rw [hX] at HS HJ ⊢;by_cases h0:x < 0
 ·obtain rfl:false=b:=by rw [←hb,eq_comm,decide_eq_false_iff_not];exact fun e=>Rat.not_lt.2 e.1 h0
  obtain rfl: -1=s:=by rw [←hs];unfold sgn;rw [if_pos (jgN.2 h0)]
  clear hb hx hk hk2 hs hj hX h0;go_enter Tryz.func104,Tryz.ntmps104;go_wp2_with (go_at_call 40;(with_reducible refine mo0 (HS.out _) fun w1 hb1 hc1 hf1 _=> ?_))
  go_ret;exact ⟨rfl,bi⟩
 ·have hk0:0≤s:=by
   rw [←hs];unfold sgn;have:¬x.num < 0:=fun h=>h0 (jgN.1 h)
   rw [if_neg this];split <;> omega
  have q1:decide (0≤s)=true:=by simpa using hk0
  have q2:decide (j < 0)=b:=by
   rw [←hb,decide_eq_decide,←hj];exact ⟨fun e=>⟨Rat.not_lt.1 h0,Rq.cmp_neg.1 e⟩,fun e=>Rq.cmp_neg.2 e.2⟩
  clear hb hx hk hk2 hs hj hX h0 hk0;cases b <;>
  ·go_enter Tryz.func104,Tryz.ntmps104;go_wp2_with (first|(go_at_call 40;(with_reducible refine mo0 (HS.out _) fun w1 hb1 hc1 hf1 _=> ?_))|(go_at_call 41;(with_reducible refine mo0 (HJ.out _) fun w2 hb2 hc2 hf2 _=> ?_)))
   go_ret;exact ⟨rfl,bi⟩
theorem jcV {k:Int} (hk:mst l=k) (hl:l.length≤5000):Calls Tryz.prog 48 #[bs l] w fun e w'=>e= .returned (.int .i64 k)∧Below w.heap.size w w':=by
 obtain ⟨k0,hk0⟩:∃k,chk l=k:=⟨_,rfl⟩;have HC:=qh (fun W=>jpl (w:=W) hk0 (by omega));unfold mst at hk;by_cases h0:k0=0
 ·subst h0;rw [if_pos hk0] at hk;have hx:=jjb hk0;obtain ⟨x,hxx⟩:∃x,numQ l=x:=⟨_,rfl⟩;rw [hxx] at hx hk;obtain ⟨b,hb⟩:∃b,decide (0≤x∧x < 100)=b:=⟨_,rfl⟩;have HB:=qh (fun W=>joo (w:=W) hb (hx.dzl (k:=5000) hl (by omega)) (by omega) (by omega));rw [←hx.eq] at HB
  have hkb:(if b then (0:Int) else 3)=k:=by
   rw [←hk,←hb];by_cases q:x < 0∨100≤x
   ·rw [if_pos q,decide_eq_false (fun e=>q.elim (fun h=>Rat.not_lt.2 e.1 h) (fun h=>Rat.not_lt.2 h e.2))];rfl
   ·rw [if_neg q,decide_eq_true ⟨Rat.not_lt.1 fun h=>q (.inl h),Rat.not_le.1 fun h=>q (.inr h)⟩];rfl
  clear hk hl hk0 hx hxx hb;cases b <;>
  ·subst hkb;go_enter Tryz.func48,Tryz.ntmps48;go_wp2_with (first|(go_at_call 101;(with_reducible refine mo0 (HC.out _) fun w1 hb1 hc1 hf1 _=> ?_))|(go_at_call 104;(with_reducible refine mo0 (HB.out _) fun w2 hb2 hc2 hf2 _=> ?_)))
   go_ret;exact ⟨rfl,bi⟩
 ·rw [if_neg (by rw [hk0];exact h0),hk0] at hk;subst hk;have q1:(k0==0)=false:=by rw [beq_eq_false_iff_ne];exact h0
  clear hl hk0 h0;go_enter Tryz.func48,Tryz.ntmps48;go_wp2_with (go_at_call 101;(with_reducible refine mo0 (HC.out _) fun w1 hb1 hc1 hf1 _=> ?_))
  go_ret;exact ⟨rfl,bi⟩
theorem jj0 {k:Int} (hk:jhc mass a b=k) (hla:a.length≤5000) (hlb:b.length≤5000):Calls Tryz.prog 10 #[.int .i64 mass,bs a,bs b] w fun e w'=>e= .returned (.int .i64 k)∧Below w.heap.size w w':=by
 obtain ⟨k0,hk0⟩:∃k,jbr mass=k:=⟨_,rfl⟩;obtain ⟨k1,hk1⟩:∃k,mst a=k:=⟨_,rfl⟩;obtain ⟨k2,hk2⟩:∃k,mst b=k:=⟨_,rfl⟩;have HM:=qh (fun W=>jgY (w:=W) hk0);have HA:=qh (fun W=>jcV (w:=W) hk1 hla);have HB:=qh (fun W=>jcV (w:=W) hk2 hlb);unfold jhc at hk;obtain ⟨z,hz⟩:∃z,jlB mass a b=z:=⟨_,rfl⟩;rw [hz] at hk;by_cases h0:k0=0
 ·subst h0;by_cases h1:k1=0
  ·subst h1;have hz2:z=k2:=by rw [←hz];unfold jlB;rw [if_pos hk0,if_pos hk1,hk2]
   subst hz2;by_cases h2:z=0
   ·subst h2;rw [if_pos rfl] at hk;obtain ⟨_,hx,hy⟩:=jeg hz;obtain ⟨x,hxx⟩:∃x,numQ a=x:=⟨_,rfl⟩;obtain ⟨y,hyy⟩:∃x,numQ b=x:=⟨_,rfl⟩;rw [hxx] at hx hk;rw [hyy] at hy hk;obtain ⟨j,hj⟩:∃j,Rq.cmpQ y x=j:=⟨_,rfl⟩;have HJ:=qh (fun W=>jko (w:=W) hj (hy.num.dzl (k:=5000) hlb (by omega)) (hx.num.dzl (k:=5000) hla (by omega)) (by omega) (by omega) (by omega) (by omega));rw [←hy.num.eq,←hx.num.eq] at HJ;by_cases q:x < y
    ·rw [if_pos q] at hk;subst hk;have q1:decide (0 < j)=true:=by rw [decide_eq_true_iff,←hj];exact Rq.cmp_pos.2 q
     clear hla hlb hk0 hk1 hk2 hz hx hy hxx hyy hj q;go_enter Tryz.func10,Tryz.ntmps10;go_wp2_with (first|(go_at_call 47;(with_reducible refine mo0 (HM.out _) fun w1 hb1 hc1 hf1 _=> ?_))|(go_at_call 48;(with_reducible show Calls _ _ #[bs a] _ _);(with_reducible refine mo0 (HA.out _) fun w2 hb2 hc2 hf2 _=> ?_))|(go_at_call 48;(with_reducible show Calls _ _ #[bs b] _ _);(with_reducible refine mo0 (HB.out _) fun w3 hb3 hc3 hf3 _=> ?_))|(go_at_call 41;(with_reducible refine mo0 (HJ.out _) fun w4 hb4 hc4 hf4 _=> ?_)))
     go_ret;exact ⟨rfl,bi⟩
    ·rw [if_neg q] at hk;subst hk;have q1:decide (0 < j)=false:=by rw [decide_eq_false_iff_not,←hj];exact fun e=>q (Rq.cmp_pos.1 e)
     clear hla hlb hk0 hk1 hk2 hz hx hy hxx hyy hj q;go_enter Tryz.func10,Tryz.ntmps10;go_wp2_with (first|(go_at_call 47;(with_reducible refine mo0 (HM.out _) fun w1 hb1 hc1 hf1 _=> ?_))|(go_at_call 48;(with_reducible show Calls _ _ #[bs a] _ _);(with_reducible refine mo0 (HA.out _) fun w2 hb2 hc2 hf2 _=> ?_))|(go_at_call 48;(with_reducible show Calls _ _ #[bs b] _ _);(with_reducible refine mo0 (HB.out _) fun w3 hb3 hc3 hf3 _=> ?_))|(go_at_call 41;(with_reducible refine mo0 (HJ.out _) fun w4 hb4 hc4 hf4 _=> ?_)))
     go_ret;exact ⟨rfl,bi⟩
   ·rw [if_neg h2] at hk;subst hk;have q1:(z==0)=false:=by rw [beq_eq_false_iff_ne];exact h2
    clear hla hlb hk0 hk1 hk2 hz h2;go_enter Tryz.func10,Tryz.ntmps10;go_wp2_with (first|(go_at_call 47;(with_reducible refine mo0 (HM.out _) fun w1 hb1 hc1 hf1 _=> ?_))|(go_at_call 48;(with_reducible show Calls _ _ #[bs a] _ _);(with_reducible refine mo0 (HA.out _) fun w2 hb2 hc2 hf2 _=> ?_))|(go_at_call 48;(with_reducible show Calls _ _ #[bs b] _ _);(with_reducible refine mo0 (HB.out _) fun w3 hb3 hc3 hf3 _=> ?_)))
    go_ret;exact ⟨rfl,bi⟩
  ·have hz2:z=k1:=by rw [←hz];unfold jlB;rw [if_pos hk0,if_neg (by rw [hk1];exact h1),hk1]
   subst hz2;rw [if_neg h1] at hk;subst hk;have q1:(z==0)=false:=by rw [beq_eq_false_iff_ne];exact h1
   clear hla hlb hk0 hk1 hk2 hz h1;go_enter Tryz.func10,Tryz.ntmps10;go_wp2_with (first|(go_at_call 47;(with_reducible refine mo0 (HM.out _) fun w1 hb1 hc1 hf1 _=> ?_))|(go_at_call 48;(with_reducible show Calls _ _ #[bs a] _ _);(with_reducible refine mo0 (HA.out _) fun w2 hb2 hc2 hf2 _=> ?_)))
   go_ret;exact ⟨rfl,bi⟩
 ·have hz2:z=k0:=by rw [←hz];unfold jlB;rw [if_neg (by rw [hk0];exact h0),hk0]
  subst hz2;rw [if_neg h0] at hk;subst hk;have q1:(z==0)=false:=by rw [beq_eq_false_iff_ne];exact h0
  clear hla hlb hk0 hk1 hk2 hz h0;go_enter Tryz.func10,Tryz.ntmps10;go_wp2_with (go_at_call 47;(with_reducible refine mo0 (HM.out _) fun w1 hb1 hc1 hf1 _=> ?_))
  go_ret;exact ⟨rfl,bi⟩
end

section
variable {w:World} {l a b:List UInt8} {mass:Int}
theorem dzm {m:Int} (h1:1≤m) (h2:m≤999999999):Dz 9 ((m:Int):Rat):=⟨by rw [Rat.num_intCast];omega,by rw [Rat.den_intCast];omega⟩
theorem jgR {m:Int} (h1:1≤m) (h2:m≤999999999):Calls Tryz.prog 107 #[.int .i64 m] w (QP ((m:Int):Rat) w):=by
 obtain ⟨n,rfl⟩:∃n:Nat,m=(n:Int):=⟨m.toNat,by omega⟩;exact jlI (by omega)
variable {x y z:Rat} {k j:Nat}
theorem jkl (h1:1≤mass) (h2:mass≤999999999) (hx:Dz k x) (hy:Dz j y) (hk:0 < k) (hj:0 < j) (hk2:k≤1000) (hj2:j≤1000) (h0:100 - y≠0):Calls Tryz.prog 52 #[.int .i64 mass,bs (tq x),bs (tq y)] w (QP ((mass:Rat)*(100 - x) / (100 - y)) w):=by
 have HF:=qh (fun W=>jgR (w:=W) h1 h2);have HW:=qh (fun W=>ju2 (w:=W) hx (dzm h1 h2) hy hk (by omega) hj hk2 (by omega) hj2 h0);unfold QP at HF HW ⊢;obtain ⟨X,hX⟩:∃X,tq x=X:=⟨_,rfl⟩;obtain ⟨Y,hY⟩:∃X,tq y=X:=⟨_,rfl⟩;obtain ⟨M,hM⟩:∃X,tq ((mass:Int):Rat)=X:=⟨_,rfl⟩;obtain ⟨R,hR⟩:∃X,tq ((mass:Rat)*(100 - x) / (100 - y))=X:=⟨_,rfl⟩;rw [hM] at HF;rw [hX,hY,hM,hR] at HW;rw [hX,hY,hR];clear h1 h2 hx hy hk hj hk2 hj2 h0 hX hY hM hR;go_enter Tryz.func52,Tryz.ntmps52;go_wp2_with (first|(go_at_call 107;(with_reducible refine mo0 (HF.out _) fun w1 hb1 hc1 hf1 _=> ?_))|(go_at_call 106;(with_reducible refine mo0 (HW.out _) fun w2 hb2 hc2 hf2 _=> ?_)))
 go_ret;exact ⟨rfl,bi⟩
end

section
variable {w:World} {a b x want:List UInt8} {mass:Int}
theorem jgi {k:Int} (h1:k≠0→x=[]) (h2:k=0→x=want):Calls Tryz.prog 13 #[bs x, .int .i64 k, .int .i64 k,bs want] w fun e w'=>e= .returned (.bool true)∧Below w.heap.size w w':=by
 by_cases h0:k=0
 ·obtain rfl:=h2 h0;subst h0;clear h1 h2;go_enter Tryz.func13,Tryz.ntmps13;go_wp2;go_ret;exact ⟨rfl,bi⟩
 ·obtain rfl:=h1 h0;have q1:(k != 0)=true:=by rw [bne_iff_ne];exact h0
  have q2:(k==0)=false:=by rw [beq_eq_false_iff_ne];exact h0
  clear h1 h2 h0;go_enter Tryz.func13,Tryz.ntmps13;go_wp2;go_ret;exact ⟨rfl,bi⟩
variable {A B:Option Addr} {n c d:Nat} {ls:List (List UInt8)}
theorem jgr {r:Bool} (h:Sv w A n ls) (hn:n < 9223372036854775808) (hr:(ls.all fun l=>decide (l.length≤30))=r):Calls Tryz.prog 4 #[.slice A n c] w fun e w'=>e= .returned (.bool r)∧Below w.heap.size w w':=by
 have H:=qh h;have HN:=qh hn;have HR:=qh hr;clear h hn hr;go_enter Tryz.func4,Tryz.ntmps4;go_wp2
 go_loopw [7] (fun u wr=>∃(i:Nat),u= .int .i64 (i:Int)∧i≤n∧Below w.heap.size w wr∧((ls.drop i).all fun l=>decide (l.length≤30))=r) (fun u _=>n - (intOf u).toNat)
 case atStart=>exact ⟨0,rfl,Nat.zero_le _,bi,HR.out⟩
 case round=>
  obtain ⟨i,rfl,hin,hb,hc⟩:=hrel;have _:=bm hb;have hnn:=HN.out;by_cases hi:i < n
  ·have q0:decide ((i:Int) < (n:Int))=true:=by simp;exact hi
   have q9:decide (i < n)=true:=by simpa using hi
   obtain ⟨b,o,rfl,hbl,hcell⟩:=(H.out.below hb).at_ (by omega);have hx:=hcell i hi;have hil:i < ls.length:=by rw [H.out.len];exact hi
   rw [jd5 (d:=[]) hil,List.all_cons] at hc;have hmem:ls.getD i []∈ls:=by rw [List.getD_eq_getElem?_getD,List.getElem?_eq_getElem hil];exact List.getElem_mem hil
   obtain ⟨x,hxx⟩:∃x,ls.getD i []=x:=⟨_,rfl⟩;rw [hxx] at hx hc;have HI:=qh hi;clear hcell hmem hil hxx;by_cases h0:x.length≤30
   ·have q1:decide ((30:Int) < (x.length:Int))=false:=by rw [decide_eq_false_iff_not];omega
    rw [decide_eq_true h0,Bool.true_and] at hc;have HC:=qh hc;clear hc h0;go_wp2;exact ⟨⟨i+1,by simp,HI.out,bi,HC.out⟩,by have:=HI.out;simp [intOf];omega⟩
   ·have q1:decide ((30:Int) < (x.length:Int))=true:=by rw [decide_eq_true_iff];omega
    rw [decide_eq_false h0,Bool.false_and] at hc;subst hc;clear h0;go_wp2;go_ret;exact ⟨rfl,bi⟩
  ·have q0:decide (i < n)=false:=by simp;omega
   rw [List.drop_eq_nil_of_le (by rw [H.out.len];omega)] at hc;obtain rfl:true=r:=hc;clear hi;go_wp2;go_ret;exact ⟨rfl,bi⟩
end
end Go.Proofs.YtlcbfkiknejdnaaGreatDoor
