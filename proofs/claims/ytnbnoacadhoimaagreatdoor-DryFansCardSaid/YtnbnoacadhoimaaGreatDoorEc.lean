/- The examples of chapter 6, evaluated: time. -/
import Derived.Test.YtnbnoacadhoimaaGreatDoorEa
set_option linter.unusedSimpArgs false
set_option linter.unusedVariables false
set_option maxRecDepth 100000
set_option maxHeartbeats 8000000
namespace Go.Proofs.YtnbnoacadhoimaaGreatDoor.E6
open Go Ax
set_option maxRecDepth 100000
theorem time_seen : Ax.seen s2 v2 [] 2246 (R0 36 a2 s2) = true := by decide +kernel
end Go.Proofs.YtnbnoacadhoimaaGreatDoor.E6
