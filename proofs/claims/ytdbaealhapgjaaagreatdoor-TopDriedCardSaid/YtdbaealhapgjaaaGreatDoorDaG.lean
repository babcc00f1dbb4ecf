/- Parts. -/
import Derived.Test.YtdbaealhapgjaaaGreatDoorPosG
set_option linter.all false
set_option maxRecDepth 100000
set_option maxHeartbeats 8000000
namespace Go.Proofs.YtdbaealhapgjaaaGreatDoor
open Go Go.RowKit Go.Proofs.Tryz

section
variable {w:World}
end
section
variable {w:World}
end

section
variable {w:World}
theorem jpn (b:Bool) (k:Int):Calls prog 76 #[.bool b, .int .i64 k] w fun e w'=>e= .returned (.int .i64 (if b then k else 0))∧Below w.heap.size w w':=by
 cases b
 all_goals go_enter func76,ntmps76
 all_goals go_wp2
 all_goals go_ret
 all_goals exact ⟨rfl,bi⟩
theorem jap {b:Bool} {k r:Int} (hr:(if b then k else 0)=r):Calls prog 76 #[.bool b, .int .i64 k] w fun e w'=>e= .returned (.int .i64 r)∧Below w.heap.size w w':=hr ▸ jpn b k
variable {A:Option Addr} {n c:Nat} {zs:List Int}
end
end Go.Proofs.YtdbaealhapgjaaaGreatDoor
