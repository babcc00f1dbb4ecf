/- Parts. -/
import Derived.Test.YteokfcjdfjhhhaaGreatDoorKpG
set_option linter.all false
set_option maxRecDepth 100000
set_option maxHeartbeats 8000000
namespace Go.Proofs.YteokfcjdfjhhhaaGreatDoor
open Go Go.RowKit

section
variable {w:World} {x:Rat} {k:Nat}
end

theorem IsNum.dzl {l:List UInt8} {x:Rat} {k:Nat} (h:IsNum l x) (hl:l.length≤k) (hk:0 < k):Dz k x:=by
 have h1:=jey x
 have h2:(uq x).length≤l.length:=by
  rw [h.1,jet];split
  ·simp
  ·exact Nat.le_refl _
 refine Dz.of (by omega) ?_;by_cases e:x.den=1
 ·rw [e,jls];exact hk
 ·rw [if_neg e] at h1;omega
section
variable {w:World} {a b:List UInt8} {x y:Rat} {k m:Nat}
end
end Go.Proofs.YteokfcjdfjhhhaaGreatDoor
