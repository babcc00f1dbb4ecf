/- Parts. -/
import Derived.Test.YtcophhhpgmilfaaGreatDoorKpG
set_option linter.all false
set_option maxRecDepth 100000
set_option maxHeartbeats 8000000
namespace Go.Proofs.YtcophhhpgmilfaaGreatDoor
open Go Go.RowKit

section
variable {w:World} {A:Option Addr} {n c:Nat} {ps:List (List UInt8×List UInt8)} {ls:List Lay}
end

section
variable {w:World} {l:List UInt8}
end
section
variable {w:World} {A:Option Addr} {n c:Nat} {ls:List (List UInt8×List UInt8)} {d:Nat}
end

section
variable {w:World} {A B:Option Addr} {n m c c':Nat} {ps qs:List (List UInt8×List UInt8)} {g g':List UInt8} {z z':Int} {d:Nat}
end

noncomputable def lots (ks:List (List UInt8)) (cs:List (List UInt8×Rat)):List (List UInt8×List UInt8):=ks.map (fun x=>(x,tq (tot cs x)))
section
variable {ks:List (List UInt8)} {cs:List (List UInt8×Rat)} {y:List UInt8} {r:Rat} {i:Nat}
end

end Go.Proofs.YtcophhhpgmilfaaGreatDoor
