/- Parts. -/
import Derived.Test.YtonifflnjjcanaaGreatDoorAxLG
set_option linter.all false
set_option maxRecDepth 100000
set_option maxHeartbeats 8000000
namespace Go.Proofs.YtonifflnjjcanaaGreatDoor.E6
open Go Ax
set_option maxRecDepth 100000
theorem jiB:Ax.seen s5 v5 [] 5828 (R0 20 a5 s5)=true:=by decide+kernel
end Go.Proofs.YtonifflnjjcanaaGreatDoor.E6
