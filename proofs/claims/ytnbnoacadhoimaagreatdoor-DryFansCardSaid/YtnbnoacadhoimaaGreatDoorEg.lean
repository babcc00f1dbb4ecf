/- The examples of chapter 6, evaluated: zones. -/
import Derived.Test.YtnbnoacadhoimaaGreatDoorEa
set_option linter.unusedSimpArgs false
set_option linter.unusedVariables false
set_option maxRecDepth 100000
set_option maxHeartbeats 8000000
namespace Go.Proofs.YtnbnoacadhoimaaGreatDoor.E6
open Go Ax
set_option maxRecDepth 100000
theorem zones_seen : Ax.seen s7 v7 news7 6581 (R0 42 a7 s7) = true := by decide +kernel
end Go.Proofs.YtnbnoacadhoimaaGreatDoor.E6
