/- Parts. -/
import Derived.Test.YtpkcjfpgemdfdaaGreatDoorAxLG
set_option linter.all false
set_option maxRecDepth 100000
set_option maxHeartbeats 8000000
namespace Go.Proofs.YtpkcjfpgemdfdaaGreatDoor.E6
open Go Ax
set_option maxRecDepth 100000
theorem jlJ:Ax.seen s2 v2 [] 2246 (R0 22 a2 s2)=true:=by decide+kernel
end Go.Proofs.YtpkcjfpgemdfdaaGreatDoor.E6
