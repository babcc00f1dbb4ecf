/- The examples of chapter 6, evaluated: area. -/
import Derived.Test.YtnbnoacadhoimaaGreatDoorEa
set_option linter.unusedSimpArgs false
set_option linter.unusedVariables false
set_option maxRecDepth 100000
set_option maxHeartbeats 8000000
namespace Go.Proofs.YtnbnoacadhoimaaGreatDoor.E6
open Go Ax
set_option maxRecDepth 100000
theorem area_seen : Ax.seen s1 v1 [] 1126 (R0 34 a1 s1) = true := by decide +kernel
end Go.Proofs.YtnbnoacadhoimaaGreatDoor.E6
