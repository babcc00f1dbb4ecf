/-
  DERIVED. GIVEN WITH THE SEED: THE CARDS: each row of YtmaldbpmnneaaaaGreatDoorRows.lean that lists a variable, with what it lists TIED to the program's text (the seventh form; the later family's looks); each row that meets fmt, with fmt's text TOLD by the authors' own Lean function (tested against real Go, not proved from fmt's source: count such statements apart). THE CARD IS WHAT COUNTS. Prove the row's statement (the work); the ties are given (YtmaldbpmnneaaaaGreatDoorTie.lean); close each card by the builder's one call (the guide's Derived/Test/ToyasCard.lean, 'card_holds'). Laid BY PROGRAM, IN A SANDBOX (cutbox-door.mjs). By AI agents, Wed Nov 11 2026. No macro, syntax, notation, axiom, sorry.
-/
import Derived.Test.YtmaldbpmnneaaaaGreatDoorRows
import GoSem.ClaimSeven
namespace Go.Proofs.YtmaldbpmnneaaaaGreatDoor
namespace Rows

/-- THE TIED CARD OF 'bushellaw01.MeasureLists'. -/
def measureListsCard : Claim7 := { stood := { row := measureListsRow, standIns := [], harness := (true, "16be906f35b9d990432fbc11fddc3767ef42ebebdae32f3dae2af68fc7e89eb9"), looks := true }, kinds := [], alts := [], laidByText := true, laidKinds := [.data, .data, .data, .data, .sentinel, .sentinel, .pinned], laidTests := true, laidLooks := .later }
def MeasureListsCardSaid : Prop := Claim7.holds Tryz.pinned (.plain (OpenSpec.ofChange measureListsSpec)) measureListsCard

/-- THE SECOND FORM's CARD OF 'bushellaw01.MeasureLists'. -/
def measureListsUptoCard : Claim7 := { stood := { row := measureListsUptoRow, standIns := [], harness := (true, "16be906f35b9d990432fbc11fddc3767ef42ebebdae32f3dae2af68fc7e89eb9"), looks := true }, kinds := [], alts := [], laidByText := true, laidKinds := [.data, .data, .data, .data, .sentinel, .sentinel, .pinned], laidTests := true, laidLooks := .later }
def MeasureListsUptoCardSaid : Prop := Claim7.holds Tryz.pinned (.plain (OpenSpec.upto measureListsSpec)) measureListsUptoCard
end Rows
end Go.Proofs.YtmaldbpmnneaaaaGreatDoor
