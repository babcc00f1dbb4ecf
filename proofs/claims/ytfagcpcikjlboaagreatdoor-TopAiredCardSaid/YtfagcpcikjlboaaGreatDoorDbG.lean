/- Parts. -/
import Derived.Test.YtfagcpcikjlboaaGreatDoorDeG
import Derived.RangeFuncBox
import Derived.RangeFuncLeaves
import Derived.RangeFuncWrites
import Derived.Shelf.Abstract
import Derived.OwnWalkIn
import Derived.TacticsInMore
import Derived.LoopNIn
import Derived.LoopIn
import Derived.Maps.AppendAt
set_option linter.all false
set_option maxRecDepth 100000
set_option maxHeartbeats 8000000
namespace Go.Proofs.YtfagcpcikjlboaaGreatDoor
open Go Go.RowKit Go.Shelf Go.Proofs.Tryz

attribute [local go_sem] Oper.semAt_some


section
variable {w:World}
end

attribute [local go_sem] Oper.semAt_some
section
variable {w:World} {A:Option Addr} {n cap:Nat} {hs:List Hr} {c:Clim} {need:Int}

theorem jhj {c:Clim} {r:Int} (hr:jlz c=r):Calls prog 23 #[clv c] w fun e w'=>e= .returned (.int .i64 r)∧Below w.heap.size w w':=hr ▸ jlx c
end
end Go.Proofs.YtfagcpcikjlboaaGreatDoor
