/- Parts. -/
import Derived.Test.YtonifflnjjcanaaGreatDoorAxLG
set_option linter.all false
set_option maxRecDepth 100000
set_option maxHeartbeats 8000000
namespace Go.Proofs.YtonifflnjjcanaaGreatDoor.E6
open Go Ax
set_option maxRecDepth 100000
theorem joD:Ax.seen s2' v3 [] 2914 (R0 18 a3 s2')=true:=by decide+kernel
end Go.Proofs.YtonifflnjjcanaaGreatDoor.E6
