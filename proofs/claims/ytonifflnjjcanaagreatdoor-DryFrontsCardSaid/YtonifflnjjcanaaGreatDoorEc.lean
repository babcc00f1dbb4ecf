/- Parts. -/
import Derived.Test.YtonifflnjjcanaaGreatDoorAxLG
set_option linter.all false
set_option maxRecDepth 100000
set_option maxHeartbeats 8000000
namespace Go.Proofs.YtonifflnjjcanaaGreatDoor.E6
open Go Ax
set_option maxRecDepth 100000
theorem jlJ:Ax.seen s2 v2 [] 2246 (R0 17 a2 s2)=true:=by decide+kernel
end Go.Proofs.YtonifflnjjcanaaGreatDoor.E6
