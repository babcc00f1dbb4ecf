/- Parts. -/
import Derived.Test.YtpkcjfpgemdfdaaGreatDoorAxLG
set_option linter.all false
set_option maxRecDepth 100000
set_option maxHeartbeats 8000000
namespace Go.Proofs.YtpkcjfpgemdfdaaGreatDoor.E6
open Go Ax
set_option maxRecDepth 100000
theorem jiB:Ax.seen s5 v5 [] 5828 (R0 25 a5 s5)=true:=by decide+kernel
end Go.Proofs.YtpkcjfpgemdfdaaGreatDoor.E6
