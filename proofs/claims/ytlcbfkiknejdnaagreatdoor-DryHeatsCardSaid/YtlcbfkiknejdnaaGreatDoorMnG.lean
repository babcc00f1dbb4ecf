/- Parts. -/
import Derived.Test.YtlcbfkiknejdnaaGreatDoorNeG
import Derived.Test.YtlcbfkiknejdnaaGreatDoorKpG
import Derived.Test.YtlcbfkiknejdnaaGreatDoorUcG
set_option linter.all false
set_option maxRecDepth 100000
set_option maxHeartbeats 8000000
namespace Go.Proofs.YtlcbfkiknejdnaaGreatDoor
open Go Go.RowKit
section
variable {w:World} {x s:Rat} {kind step a:List UInt8}
end

theorem mul_div_cancel {x s:Rat} (h:0 < s):x / s*s=x:=by
 rw [Rat.div_def,Rat.mul_assoc,Rat.inv_mul_cancel _ (by grind),Rat.mul_one]

theorem Dz.of {x:Rat} {k:Nat} (h1:(Lib.decDigits x.num.natAbs).length≤k) (h2:(Lib.decDigits x.den).length≤k):Dz k x:=
 ⟨Nat.lt_of_lt_of_le (jeT _) (jbM h1),Nat.lt_of_lt_of_le (jeT _) (jbM h2)⟩
section
variable {w:World} {kind step:List UInt8}
end

theorem Dz.lt {k:Nat} {x:Rat} (h:Dz k x):x < (((10^k:Nat):Int):Rat):=by
 rw [Rat.lt_iff,Rat.num_intCast,Rat.den_intCast];have h1:=h.num;have h2:=x.den_pos;have h3:10^k≤10^k*x.den:=Nat.le_mul_of_pos_right _ h2;have h4:(((10^k:Nat):Int))*(x.den:Int)=((10^k*x.den:Nat):Int):=by rw [Int.natCast_mul]
 rw [h4];omega
theorem Dz.small {x:Rat} (h:Dz 18 x):SmallQ x:=by
 have h1:=h.num;have h2:=h.den;have e:(10:Nat)^18=1000000000000000000:=by decide
 rw [e] at h1 h2;exact ⟨by omega,by omega,by omega⟩
section
variable {w:World} {a b kind step:List UInt8} {x y s:Rat}
end

section
variable {w:World} {x lo hi:Rat} {k:Nat}
end
section
variable {w:World} {A:Option Addr} {n c:Nat} {ls:List (List UInt8×List UInt8)} {d m:Int}
end
section
variable {w:World} {lo hi:Rat} {k:Nat}
end
section
variable {w:World} {A B:Option Addr} {n c d k:Nat} {ls:List (List UInt8)} {qs:List Rat} {ws:List Int}
end

section
variable {w:World} {x:Rat} {k:Nat}
end

theorem IsNum.dzl {l:List UInt8} {x:Rat} {k:Nat} (h:IsNum l x) (hl:l.length≤k) (hk:0 < k):Dz k x:=by
 have h1:=jdX x
 have h2:(uq x).length≤l.length:=by
  rw [h.1,jcP];split
  ·simp
  ·exact Nat.le_refl _
 refine Dz.of (by omega) ?_;by_cases e:x.den=1
 ·rw [e,jnL];exact hk
 ·rw [if_neg e] at h1;omega
section
variable {w:World} {a b:List UInt8} {x y:Rat} {k m:Nat}
theorem jqC:tq (100:Rat)=[49,48,48]:=by decide+kernel
theorem dzh:Dz 3 (100:Rat):=⟨by decide+kernel,by decide+kernel⟩
theorem ju2 {z:Rat} {n:Nat} (hx:Dz k x) (hy:Dz m y) (hz:Dz n z) (hk:0 < k) (hm:0 < m) (hn:0 < n) (hk2:k≤1000) (hm2:m≤1000) (hn2:n≤1000) (h0:100 - z≠0):Calls Tryz.prog 106 #[bs (tq y),bs (tq x),bs (tq z)] w (QP (y*(100 - x) / (100 - z)) w):=by
 have d1:=dzh.sub hx;have d2:=hy.mul d1;have d3:=dzh.sub hz;have HS:=qh (fun W=>jg3 (w:=W) dzh hx (by omega) hk (by omega) (by omega));have HS2:=qh (fun W=>jg3 (w:=W) dzh hz (by omega) hn (by omega) (by omega));have HM:=qh (fun W=>jka (w:=W) hy d1 hm (by omega) (by omega) (by omega));have HD:=qh (fun W=>jnh (w:=W) d2 d3 (by omega) (by omega) (by omega) (by omega) h0);unfold QP at HS HS2 HM HD ⊢;rw [jqC] at HS HS2;obtain ⟨T1,e1⟩:∃T,tq x=T:=⟨_,rfl⟩;obtain ⟨T2,e2⟩:∃T,tq y=T:=⟨_,rfl⟩;obtain ⟨T3,e3⟩:∃T,tq (100 - x)=T:=⟨_,rfl⟩;obtain ⟨T4,e4⟩:∃T,tq (y*(100 - x))=T:=⟨_,rfl⟩;obtain ⟨T5,e5⟩:∃T,tq (y*(100 - x) / (100 - z))=T:=⟨_,rfl⟩;obtain ⟨T6,e6⟩:∃T,tq z=T:=⟨_,rfl⟩;obtain ⟨T7,e7⟩:∃T,tq (100 - z)=T:=⟨_,rfl⟩;rw [e1,e3] at HS;rw [e6,e7] at HS2;rw [e2,e3,e4] at HM;rw [e4,e5,e7] at HD;rw [e1,e2,e5,e6];clear hx hy hz hk hm hn hk2 hm2 hn2 h0 d1 d2 d3 e1 e2 e3 e4 e5 e6 e7;go_enter Tryz.func106,Tryz.ntmps106;go_wp2_with (first|(go_at_call 51;(with_reducible show Calls _ _ #[.string ⟨#[49,48,48]⟩,bs T1] _ _);(with_reducible refine mo0 (HS.out _) fun w1 hb1 hc1 hf1 _=> ?_))|(go_at_call 54;(with_reducible refine mo0 (HM.out _) fun w2 hb2 hc2 hf2 _=> ?_))|(go_at_call 51;(with_reducible show Calls _ _ #[.string ⟨#[49,48,48]⟩,bs T6] _ _);(with_reducible refine mo0 (HS2.out _) fun w4 hb4 hc4 hf4 _=> ?_))|(go_at_call 161;(with_reducible refine mo0 (HD.out _) fun w3 hb3 hc3 hf3 _=> ?_)))
 go_ret;exact ⟨rfl,bi⟩
end

section
variable {w:World} {a b:List UInt8} {x y:Rat} {k m:Nat}
end

section
variable {w:World} {a1 a2 b1 b2 l h p q r s m1 m2 n1 n2:List UInt8}
end

section
variable {w:World} {A:Option Addr} {n c:Nat} {ls:List (List UInt8×List UInt8)}
end

section
variable {w:World} {A:Option Addr} {n c k:Nat} {ls:List (List UInt8×List UInt8)} {los his:List Rat}
end

section
variable {w:World} {A:Option Addr} {n c k:Nat} {ls:List (List UInt8×List UInt8)} {los his:List Rat}
end

section
variable {w:World} {A B:Option Addr} {n m c d k:Nat} {ls:List (List UInt8×List UInt8)} {los his:List Rat} {ws:List Int}
end
end Go.Proofs.YtlcbfkiknejdnaaGreatDoor
