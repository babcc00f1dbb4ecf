/- Parts. -/
import Derived.Test.YtfagcpcikjlboaaGreatDoorOg
set_option linter.all false
set_option maxRecDepth 100000
set_option maxHeartbeats 8000000
namespace Go.Proofs.YtfagcpcikjlboaaGreatDoor
open Go Go.RowKit

theorem jud {x:Rat} (h1: -9223372036854775808 < x.num) (h2:x.num < 9223372036854775808) (h3:x.den < 9223372036854775808):StrQ x:=StrQ.small h1 h2 h3
theorem jv3 {x:Rat} (h: -9223372036854775808 < x.num∧x.num < 9223372036854775808∧x.den < 9223372036854775808):StrQ x:=jud h.1 h.2.1 h.2.2
theorem t12:jcF (1/2)=[49,47,50]∧jbq (1/2)=0:=by decide+kernel
theorem s12:StrQ (1/2):=jv3 (by decide+kernel)
theorem s6:StrQ 6:=jv3 (by decide+kernel)
theorem s11:StrQ 11:=jv3 (by decide+kernel)

section
variable {w:World}
end

section
variable {w:World}
end
end Go.Proofs.YtfagcpcikjlboaaGreatDoor
