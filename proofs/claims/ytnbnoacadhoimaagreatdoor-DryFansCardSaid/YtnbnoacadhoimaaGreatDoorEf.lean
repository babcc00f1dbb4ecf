/- The examples of chapter 6, evaluated: energy. -/
import Derived.Test.YtnbnoacadhoimaaGreatDoorEa
set_option linter.unusedSimpArgs false
set_option linter.unusedVariables false
set_option maxRecDepth 100000
set_option maxHeartbeats 8000000
namespace Go.Proofs.YtnbnoacadhoimaaGreatDoor.E6
open Go Ax
set_option maxRecDepth 100000
theorem energy_seen : Ax.seen s5 v5 [] 5828 (R0 39 a5 s5) = true := by decide +kernel
end Go.Proofs.YtnbnoacadhoimaaGreatDoor.E6
