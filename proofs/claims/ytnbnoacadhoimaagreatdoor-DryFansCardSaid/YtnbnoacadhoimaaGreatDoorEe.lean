/- The examples of chapter 6, evaluated: steps. -/
import Derived.Test.YtnbnoacadhoimaaGreatDoorEa
set_option linter.unusedSimpArgs false
set_option linter.unusedVariables false
set_option maxRecDepth 100000
set_option maxHeartbeats 8000000
namespace Go.Proofs.YtnbnoacadhoimaaGreatDoor.E6
open Go Ax
set_option maxRecDepth 100000
theorem steps_seen : Ax.seen s4 v4 news4 4175 (R0 38 a4 s4) = true := by decide +kernel
end Go.Proofs.YtnbnoacadhoimaaGreatDoor.E6
