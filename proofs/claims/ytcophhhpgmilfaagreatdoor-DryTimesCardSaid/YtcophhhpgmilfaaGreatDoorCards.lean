/-
  DERIVED. GIVEN WITH THE SEED: THE CARDS: each row of YtcophhhpgmilfaaGreatDoorRows.lean that lists a variable, with what it lists TIED to the program's text (the seventh form; the later family's looks); each row that meets fmt, with fmt's text TOLD by the authors' own Lean function (tested against real Go, not proved from fmt's source: count such statements apart). THE CARD IS WHAT COUNTS. Prove the row's statement (the work); the ties are given (YtcophhhpgmilfaaGreatDoorTie.lean); close each card by the builder's one call (the guide's Derived/Test/ToyasCard.lean, 'card_holds'). Laid BY PROGRAM, IN A SANDBOX (cutbox-door.mjs). By AI agents, Wed Nov 11 2026. No macro, syntax, notation, axiom, sorry.
-/
import Derived.Test.YtcophhhpgmilfaaGreatDoorRows
import GoSem.ClaimSeven
namespace Go.Proofs.YtcophhhpgmilfaaGreatDoor
namespace Rows

/-- THE TIED CARD OF 'bushellaw06.DryTimes'. -/
def dryTimesCard : Claim7 := { stood := { row := dryTimesRow, standIns := [], harness := (true, "ae12105a308862756f7306f1be06c154b7e6f2eb6942b5f924045760e75f8b09"), looks := true }, kinds := [], alts := [], laidByText := true, laidKinds := [.data, .data, .data, .data, .sentinel, .sentinel, .pinned], laidTests := true, laidLooks := .later }
def DryTimesCardSaid : Prop := Claim7.holds Tryz.pinned (.plain (OpenSpec.ofChange dryTimesSpec)) dryTimesCard

/-- THE SECOND FORM's CARD OF 'bushellaw06.DryTimes'. -/
def dryTimesUptoCard : Claim7 := { stood := { row := dryTimesUptoRow, standIns := [], harness := (true, "ae12105a308862756f7306f1be06c154b7e6f2eb6942b5f924045760e75f8b09"), looks := true }, kinds := [], alts := [], laidByText := true, laidKinds := [.data, .data, .data, .data, .sentinel, .sentinel, .pinned], laidTests := true, laidLooks := .later }
def DryTimesUptoCardSaid : Prop := Claim7.holds Tryz.pinned (.plain (OpenSpec.upto dryTimesSpec)) dryTimesUptoCard
end Rows
end Go.Proofs.YtcophhhpgmilfaaGreatDoor
