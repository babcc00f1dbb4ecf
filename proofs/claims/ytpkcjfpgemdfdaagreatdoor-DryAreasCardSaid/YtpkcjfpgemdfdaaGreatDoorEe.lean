/- Parts. -/
import Derived.Test.YtpkcjfpgemdfdaaGreatDoorAxLG
set_option linter.all false
set_option maxRecDepth 100000
set_option maxHeartbeats 8000000
namespace Go.Proofs.YtpkcjfpgemdfdaaGreatDoor.E6
open Go Ax
set_option maxRecDepth 100000
theorem jkS:Ax.seen s4 v4 jtD 4175 (R0 24 a4 s4)=true:=by decide+kernel
end Go.Proofs.YtpkcjfpgemdfdaaGreatDoor.E6
