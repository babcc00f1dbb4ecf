/- Parts. -/
import Derived.Test.YtfagcpcikjlboaaGreatDoorKpG
import Derived.Test.YtfagcpcikjlboaaGreatDoorUcG
set_option linter.all false
set_option maxRecDepth 100000
set_option maxHeartbeats 8000000
namespace Go.Proofs.YtfagcpcikjlboaaGreatDoor
open Go Go.RowKit



section
variable {w:World} {a1 a2 b1 b2:List UInt8} {x1 x2 y1 y2:Rat}
end

section
variable {w:World} {a1 a2 b1 b2 c1 c2:List UInt8}
theorem jCw {x y:Rat} {k:Nat} (hx:Dz k x) (hy:Dz k y) (hk:0 < k) (hk2:k≤600):jC9 x y=tq x∧jCa x y=tq y∧jCb x y=0:=by
 have h1:=(jp0 hx hk hk2).2.1;have h2:=(jp0 hy hk hk2).2.1;unfold jbq at h1 h2;have e1:je3 x=false:=by cases h:je3 x <;> simp_all
 have e2:je3 y=false:=by cases h:je3 y <;> simp_all
 unfold jC9 jCa jCb;rw [e1,e2];exact ⟨rfl,rfl,rfl⟩
theorem jzG {x y:Rat} {k:Nat} (hx:Dz k x) (hy:Dz k y) (hk:0 < k) (hk2:k≤600) (h:x≤y):jwt (tq x,tq y)=0:=by
 have h1:=(jp0 hx hk hk2).2.2;have h2:=(jp0 hy hk hk2).2.2;unfold jwt;have e:jar chk [tq x,tq y]=0:=by simp [jar,jjL.2 ⟨_,h1⟩,jjL.2 ⟨_,h2⟩]
 rw [if_neg (by rw [e];simp),if_neg (by rw [h1.numQ,h2.numQ];exact Rat.not_lt.2 h)]
end
end Go.Proofs.YtfagcpcikjlboaaGreatDoor
