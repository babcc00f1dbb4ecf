/- Parts. -/
import Derived.Test.YthciialjockjmaaGreatDoorMl
set_option linter.all false
set_option maxRecDepth 100000
set_option maxHeartbeats 8000000
namespace Go.Proofs.YthciialjockjmaaGreatDoor
open Go Go.RowKit
section
variable {w:World} {x s:Rat} {kind step a:List UInt8}
theorem jj3 {kind step:List UInt8} (h:jba kind step=0):(jaw kind).isSome=true∧IsNum step (numQ step)∧0 < numQ step:=by
 unfold jba at h
 cases hk:(jaw kind).isSome with
 | false=>rw [hk,if_pos rfl] at h;cases h
 | true=>
   rw [hk,if_neg (by decide)] at h
   by_cases h1:chk step=0
   ·rw [if_neg (by simpa using h1)] at h
    by_cases h2:numQ step≤0
    ·rw [if_pos h2] at h;cases h
    ·exact ⟨rfl,jbw h1,Rat.not_le.1 h2⟩
   ·rw [if_pos h1] at h;exact absurd h h1
end
end Go.Proofs.YthciialjockjmaaGreatDoor
