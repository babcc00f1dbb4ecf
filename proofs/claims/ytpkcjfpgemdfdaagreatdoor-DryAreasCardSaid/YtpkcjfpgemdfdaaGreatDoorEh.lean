/- Parts. -/
import Derived.Test.YtpkcjfpgemdfdaaGreatDoorAxLG
set_option linter.all false
set_option maxRecDepth 100000
set_option maxHeartbeats 8000000
namespace Go.Proofs.YtpkcjfpgemdfdaaGreatDoor.E6
open Go Ax
set_option maxRecDepth 100000
noncomputable def nxO:Ro→Nat:=fun r=>match r with | .val _ h=>h.nx | _=>0
theorem jla:Ax.seen h0 (.bool true) [] (nxO (call Tryz.prog hkA (ev Tryz.prog hkA 3000) 9 [] h0)) (call Tryz.prog hkA (ev Tryz.prog hkA 3000) 9 [] h0)=true:=by decide+kernel
end Go.Proofs.YtpkcjfpgemdfdaaGreatDoor.E6
