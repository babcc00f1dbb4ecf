/- Parts. -/
import Derived.Test.YthciialjockjmaaGreatDoorMi
set_option linter.all false
set_option maxRecDepth 100000
set_option maxHeartbeats 8000000
namespace Go.Proofs.YthciialjockjmaaGreatDoor
open Go Go.RowKit

theorem ja5 {w w':World} {b o:Nat} {v:Value} (hb:Below w.heap.size w w') (h:w.cell? ⟨b,o,none⟩=some v):w'.cell? ⟨b,o,none⟩=some v:=ja6 hb h
theorem jax {w w':World} {b:Nat} (hb:Below w.heap.size w w') (hz:b < w.heap.size) (h:∀o,w.frozen? ⟨b,o,none⟩=false) (o:Nat):w'.frozen? ⟨b,o,none⟩=false:=by rw [(ja0 hb).2 b o hz];exact h o
theorem jhb {a b c:World} (h:Below a.heap.size a b) (k:Below b.heap.size b c):Below a.heap.size a c:=ja3 h k
theorem jab (n:Nat):n < n+1+1:=by omega
def upK (l:List UInt8) (h:Int) (o:Bool):Bool:=
 if l=jcG then false else if l=kUp then true else if l=jaW then decide (h≥0) else decide (h > 0) || (decide (h=0) && o)
section
variable {w:World} {h:Int} {o:Bool}
theorem jpe:Calls Tryz.prog 118 #[.int .i64 h, .bool o] w fun e w'=>e= .returned (.bool false)∧Below w.heap.size w w':=by
 go_enter Tryz.func118,Tryz.ntmps118
 go_wp2
 go_ret
 exact ⟨rfl,(bq (by with_reducible repeat' first|assumption|constructor|go_size))⟩
theorem jqG:Calls Tryz.prog 119 #[.int .i64 h, .bool o] w fun e w'=>e= .returned (.bool true)∧Below w.heap.size w w':=by
 go_enter Tryz.func119,Tryz.ntmps119
 go_wp2
 go_ret
 exact ⟨rfl,(bq (by with_reducible repeat' first|assumption|constructor|go_size))⟩
theorem jp2:Calls Tryz.prog 120 #[.int .i64 h, .bool o] w fun e w'=>e= .returned (.bool (decide (h≥0)))∧Below w.heap.size w w':=by
 go_enter Tryz.func120,Tryz.ntmps120
 go_wp2
 go_ret
 exact ⟨rfl,(bq (by with_reducible repeat' first|assumption|constructor|go_size))⟩
theorem jp1:Calls Tryz.prog 121 #[.int .i64 h, .bool o] w fun e w'=>e= .returned (.bool (decide (h > 0) || (decide (h=0) && o)))∧Below w.heap.size w w':=by
 by_cases h1:h > 0
 ·have q1:decide (h > 0)=true:=by simpa using h1
  rw [q1]
  clear h1
  go_enter Tryz.func121,Tryz.ntmps121
  go_wp2
  go_ret
  exact ⟨rfl,(bq (by with_reducible repeat' first|assumption|constructor|go_size))⟩
 ·have q1:decide (h > 0)=false:=by simpa using h1
  rw [q1]
  by_cases h2:h=0
  ·subst h2
   clear h1 q1
   go_enter Tryz.func121,Tryz.ntmps121
   go_wp2
   go_ret
   exact ⟨by simp,(bq (by with_reducible repeat' first|assumption|constructor|go_size))⟩
  ·have q2:(h==0)=false:=by rw [beq_eq_false_iff_ne];exact h2
   have e:(false || (decide (h=0) && o))=false:=by simp [h2]
   rw [e]
   clear h1 e
   go_enter Tryz.func121,Tryz.ntmps121
   go_wp2
   go_ret
   exact ⟨rfl,(bq (by with_reducible repeat' first|assumption|constructor|go_size))⟩
theorem jnQ {l:List UInt8} {g:Nat} {b:Bool} (hk:jaw l=some g) (hb:upK l h o=b):Calls Tryz.prog g #[.int .i64 h, .bool o] w fun e w'=>e= .returned (.bool b)∧Below w.heap.size w w':=by
 subst hb
 unfold jaw at hk
 unfold upK
 by_cases h1:l=jcG
 ·rw [if_pos h1] at hk ⊢;cases hk;exact jpe
 ·rw [if_neg h1] at hk ⊢
  by_cases h2:l=kUp
  ·rw [if_pos h2] at hk ⊢;cases hk;exact jqG
  ·rw [if_neg h2] at hk ⊢
   by_cases h3:l=jaW
   ·rw [if_pos h3] at hk ⊢;cases hk;exact jp2
   ·rw [if_neg h3] at hk ⊢
    by_cases h4:l=jaC
    ·rw [if_pos h4] at hk;cases hk;exact jp1
    ·rw [if_neg h4] at hk;cases hk
end
theorem jff {l:List UInt8} {g:Nat} (hk:jaw l=some g) (args:Array Value) (w:World):(callFunc g args).run Tryz.prog w= .ok (.enter g args) w:=by
 unfold jaw at hk
 by_cases h1:l=jcG
 ·rw [if_pos h1] at hk;cases hk;kernel_rfl
 ·rw [if_neg h1] at hk
  by_cases h2:l=kUp
  ·rw [if_pos h2] at hk;cases hk;kernel_rfl
  ·rw [if_neg h2] at hk
   by_cases h3:l=jaW
   ·rw [if_pos h3] at hk;cases hk;kernel_rfl
   ·rw [if_neg h3] at hk
    by_cases h4:l=jaC
    ·rw [if_pos h4] at hk;cases hk;kernel_rfl
    ·rw [if_neg h4] at hk;cases hk
@[go_sem] theorem jpk (v : Value) (w : World) : (Instr.field 120 (.agg #[v]) 0).run Tryz.prog w = .ok v w := by kernel_rfl
def rnd (l:List UInt8) (x s:Rat):Rat:=
 if x / s - ((x / s).floor:Rat)=0 then x
 else (((x / s).floor+(if upK l (Rq.cmpQ (x / s - ((x / s).floor:Rat)) (1/2)) (decide ((x / s).floor % 2≠0)) then 1 else 0):Int):Rat)*s
theorem je3 (y:Rat):y.floor.natAbs≤y.num.natAbs:=by
 rw [Rat.floor_def]
 have hd:=y.den_pos
 have h:=Int.natAbs_ediv_le_natAbs y.num (y.den:Int)
 exact h
theorem Sz.floor {p:Nat} {y:Rat} (h:Sz p y):Sz p (y.floor:Rat):=
 Sz.int (Nat.le_trans (je3 y) h.num)
theorem Sz.floor1 {p:Nat} {y:Rat} (h:Sz p y):Sz (p+1) ((y.floor+1:Int):Rat):=by
 apply Sz.int
 have h1:=je3 y
 have h2:=h.num
 have h3:=ja9
 have h4:2≤B64:=by rw [ja8];decide
 have h5:1≤B64^p:=Nat.one_le_pow _ _ ja9
 have h6:B64^(p+1)=B64^p*B64:=Nat.pow_succ ..
 have h7:B64^p*2≤B64^p*B64:=Nat.mul_le_mul_left _ h4
 rw [h6]
 generalize B64^p*B64=K at h7
 omega
end Go.Proofs.YthciialjockjmaaGreatDoor
