/- Parts. -/
import Derived.Test.YtekpigjlnjddbaaGreatDoorZl
import Derived.Test.YtekpigjlnjddbaaGreatDoorDbG
import Derived.Test.YtekpigjlnjddbaaGreatDoorRows
import Derived.ProofKit
import Derived.OpenShut
import Derived.Carry
import Derived.Deep.DeepHandedRow
import Derived.Lib.LaidTab
import Derived.Stop.LaidErr
import Derived.Lay
import Derived.MakeChecks
import Derived.Shelf.Vars
set_option linter.all false
set_option maxRecDepth 100000
set_option maxHeartbeats 8000000
namespace Go.Proofs.YtekpigjlnjddbaaGreatDoor
open Go Go.RowKit

theorem Env.awake6 {w W:World} (h:Env w) (hb:Below w.heap.size w W):Calls Tryz.prog 5 #[] W fun e w'=>e= .returned (.bool true)∧Below W.heap.size W w':=by
 obtain ⟨m,hm⟩:=(h.below hb).max;exact E6.awake6 (h.tab W hb) ⟨_,hm⟩
def jqE (w:World) (R:List Int×List (List UInt8)×Int) (e:Ending) (w':World):Prop:=∃A1 n1 c1 A2 n2 c2,e= .returned (.tuple #[.slice A1 n1 c1, .slice A2 n2 c2, .int .i64 R.2.2])∧(Iv6 w' A1 n1 R.1∧Sv w' A2 n2 R.2.1)∧Below w.heap.size w w'
section
variable {w:World} {A:Option Addr} {n c:Nat} {a:List UInt8} {ls:List (List UInt8)} {mass:Int}
theorem jmP {R:List Int×List (List UInt8)×Int} (hE:Env w) (h:Sv w A n ls) (hla:a.length≤30) (hll:∀l∈ls,l.length≤30) (hn:n≤6∨(256 < n∧n≤300)) (hR:stR mass a ls n=R):
  Calls Tryz.prog 9 #[.int .i64 mass,bs a, .slice A n c] w (jqE w R):=by
 by_cases h0:stB mass a n=0
 ·have h6:n≤6:=by have:=(je6 h0).2.2;omega
  refine (jlk (c:=c) (k:=30) hE h (by omega) (by omega) hla hll h6 h0 rfl hR).mono ?_
  rintro e w' ⟨A1,n1,c1,A2,n2,c2,rfl,h1,h2,hb⟩
  exact ⟨A1,n1,c1,A2,n2,c2,rfl,⟨h1,h2⟩,hb⟩
 ·refine (jmQ (c:=c) (A:=A) hE (by omega) (by omega) rfl h0).mono ?_
  rintro e w' ⟨rfl,hb⟩
  rw [←hR];unfold stR;rw [if_neg h0];exact ⟨none,0,0,none,0,0,rfl,⟨⟨rfl,fun h=>by omega⟩,⟨rfl,fun h=>by omega⟩⟩,hb⟩
theorem jkN {R:List Int×List (List UInt8)×Int} (h:Sv w A n ls) (hla:a.length≤30) (hll:∀l∈ls,l.length≤30) (hn:n≤6∨(256 < n∧n≤300)) (hR:stR mass a ls n=R):
  Calls Tryz.prog 6 #[.int .i64 mass,bs a, .slice A n c] w (jqE w R):=by
 by_cases h0:stB mass a n=0
 ·have h6:n≤6:=by have:=(je6 h0).2.2;omega
  refine (jj5 (c:=c) (k:=30) h (by omega) (by omega) hla hll h6 h0 rfl hR).mono ?_
  rintro e w' ⟨A1,n1,c1,A2,n2,c2,rfl,h1,h2,hb⟩
  exact ⟨A1,n1,c1,A2,n2,c2,rfl,⟨h1,h2⟩,hb⟩
 ·refine (jlu (c:=c) (A:=A) (by omega) (by omega) rfl h0).mono ?_
  rintro e w' ⟨rfl,hb⟩
  rw [←hR];unfold stR;rw [if_neg h0];exact ⟨none,0,0,none,0,0,rfl,⟨⟨rfl,fun h=>by omega⟩,⟨rfl,fun h=>by omega⟩⟩,hb⟩
def jtT (a:List UInt8) (ls:List (List UInt8)):Bool:=decide (a.length≤30) && ls.all fun l=>decide (l.length≤30)
end
end Go.Proofs.YtekpigjlnjddbaaGreatDoor
namespace Go.Proofs.YtekpigjlnjddbaaGreatDoor
open Go Go.ChangeShapes Go.WideShapes Go.ChangeAt Go.RowKit

theorem own:ownKnob Tryz.prog.godebug=none:=by kernel_rfl
theorem jix:laidOutB Tryz.prog=true:=by kernel_rfl
theorem jw6 : Tryz.prog.globalNamed "internal/strconv.uint64pow10" = some 5 := by kernel_rfl
theorem jpM:(Tryz.prog.globals[5]?).map (·.type)=some 303:=by kernel_rfl
theorem jq2:Tryz.prog.cellsOf 303=20:=by kernel_rfl
theorem joE:Tryz.prog.cellsOf 215=1:=by kernel_rfl
theorem laidMetH.plain {l:List (String×DataW Unit)} {W:World} (h:laidMetH Tryz.prog l W) (hp:(l.all fun x=>x.2.handleName?.isNone)=true):laidMet Tryz.prog l W:=by
 rw [MakeChecks.laidMetH_plain _ _ _ hp] at h;exact h
theorem jtM {W : World} {l : List (String × DataW Unit)} (h : laidMet Tryz.prog (("internal/strconv.uint64pow10", Rows.laid_internal_strconv_uint64pow10) :: l) W) (hs : W.ShapedOpen Tryz.prog) : Env W := by
 obtain ⟨m,hm⟩:=Go.Proofs.cell_of_shapedOpen_int (g:=0) (zero:= #[.int .i64 0]) (t:=3) hs (of_decide_eq_true (by kernel_rfl)) (by kernel_rfl) rfl (by kernel_rfl) (by kernel_rfl) Tryz.underlying3;exact ⟨Lib.tabBelow_of_tabIs (Lib.tabIs_of_head (zs:=Lib.pow10Tab) jw6 jpM Tryz.underlying303 Tryz.underlying215 joE jq2 h),⟨m,hm⟩,World.block_lt_of_cell? W ⟨0,0,none⟩ hm⟩
end Go.Proofs.YtekpigjlnjddbaaGreatDoor
