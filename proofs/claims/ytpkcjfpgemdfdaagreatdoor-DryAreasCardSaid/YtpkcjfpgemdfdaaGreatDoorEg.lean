/- Parts. -/
import Derived.Test.YtpkcjfpgemdfdaaGreatDoorAxLG
set_option linter.all false
set_option maxRecDepth 100000
set_option maxHeartbeats 8000000
namespace Go.Proofs.YtpkcjfpgemdfdaaGreatDoor.E6
open Go Ax
set_option maxRecDepth 100000
theorem jkC:Ax.seen s7 v7 jul 6581 (R0 29 a7 s7)=true:=by decide+kernel
end Go.Proofs.YtpkcjfpgemdfdaaGreatDoor.E6
