/- Parts. -/
import Derived.Test.YtomkgioebbefnaaGreatDoorKpG
set_option linter.all false
set_option maxRecDepth 100000
set_option maxHeartbeats 8000000
namespace Go.Proofs.YtomkgioebbefnaaGreatDoor
open Go Go.RowKit

section
variable {w:World} {x:Rat} {k:Nat}
end

section
variable {w:World} {a b:List UInt8} {x y:Rat} {k m:Nat}
end

section
variable {w:World} {a b:List UInt8} {x y:Rat} {k m:Nat}
end

section
variable {w:World} {a1 a2 b1 b2 l h p q r s m1 m2 n1 n2:List UInt8}
end
theorem jgH (p q r s:Rat):jpY (jpY p q) (jpY r s)=jeV p [q,r,s]:=by
 simp only [jeV,jpY,Rq.cmp_neg]
 grind
theorem jhs (p q r s:Rat):jpW (jpW p q) (jpW r s)=jeW p [q,r,s]:=by
 simp only [jeW,jpW,gt_iff_lt,Rq.cmp_pos]
 grind
theorem jph {k:Nat} {p q r s:Rat} (hp:Dz k p) (hq:Dz k q) (hr:Dz k r) (hs:Dz k s):Dz k (jeV p [q,r,s]):=by
 simp only [jeV]
 split <;> split <;> split <;> assumption
theorem jpQ {k:Nat} {p q r s:Rat} (hp:Dz k p) (hq:Dz k q) (hr:Dz k r) (hs:Dz k s):Dz k (jeW p [q,r,s]):=by
 simp only [jeW]
 split <;> split <;> split <;> assumption
end Go.Proofs.YtomkgioebbefnaaGreatDoor
