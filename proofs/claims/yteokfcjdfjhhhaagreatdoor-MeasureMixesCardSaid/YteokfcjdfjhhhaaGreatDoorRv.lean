/- Parts. -/
import Derived.Test.YteokfcjdfjhhhaaGreatDoorMbG
import Derived.ChangeMaps5
import Derived.ChangeSame
set_option linter.all false
set_option maxRecDepth 100000
set_option maxHeartbeats 8000000
namespace Go.Proofs.YteokfcjdfjhhhaaGreatDoor
open Go Go.ChangeShapes Go.WideShapes Go.ChangeAt Go.RowKit Go.ChangeMaps

end Go.Proofs.YteokfcjdfjhhhaaGreatDoor
