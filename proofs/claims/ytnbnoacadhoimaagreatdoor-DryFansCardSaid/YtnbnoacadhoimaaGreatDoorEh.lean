/- The examples of chapter 6, evaluated: awake. -/
import Derived.Test.YtnbnoacadhoimaaGreatDoorEa
set_option linter.unusedSimpArgs false
set_option linter.unusedVariables false
set_option maxRecDepth 100000
set_option maxHeartbeats 8000000
namespace Go.Proofs.YtnbnoacadhoimaaGreatDoor.E6
open Go Ax
set_option maxRecDepth 100000
noncomputable def nxO : Ro → Nat := fun r => match r with | .val _ h => h.nx | _ => 0
theorem awake_seen : Ax.seen h0 (.bool true) [] (nxO (call Tryz.prog hkA (ev Tryz.prog hkA 3000) 8 [] h0)) (call Tryz.prog hkA (ev Tryz.prog hkA 3000) 8 [] h0) = true := by decide +kernel
end Go.Proofs.YtnbnoacadhoimaaGreatDoor.E6
