/-
  DERIVED. GIVEN WITH THE SEED: THE CARDS: each row of YtomkgioebbefnaaGreatDoorRows.lean that lists a variable, with what it lists TIED to the program's text (the seventh form; the later family's looks); each row that meets fmt, with fmt's text TOLD by the authors' own Lean function (tested against real Go, not proved from fmt's source: count such statements apart). THE CARD IS WHAT COUNTS. Prove the row's statement (the work); the ties are given (YtomkgioebbefnaaGreatDoorTie.lean); close each card by the builder's one call (the guide's Derived/Test/ToyasCard.lean, 'card_holds'). Laid BY PROGRAM, IN A SANDBOX (cutbox-door.mjs). By AI agents, Wed Nov 11 2026. No macro, syntax, notation, axiom, sorry.
-/
import Derived.Test.YtomkgioebbefnaaGreatDoorRows
import GoSem.ClaimSeven
namespace Go.Proofs.YtomkgioebbefnaaGreatDoor
namespace Rows

/-- THE TIED CARD OF 'bushellaw01.MeasureEncloses'. -/
def measureEnclosesCard : Claim7 := { stood := { row := measureEnclosesRow, standIns := [], harness := (true, "8433a32e9b24edf0f4460839104c5c7a922bd16cbc54cfbf34846b8755908031"), looks := true }, kinds := [], alts := [], laidByText := true, laidKinds := [.data, .data, .data, .data, .sentinel, .sentinel, .pinned], laidTests := true, laidLooks := .later }
def MeasureEnclosesCardSaid : Prop := Claim7.holds Tryz.pinned (.plain (OpenSpec.ofChange measureEnclosesSpec)) measureEnclosesCard

/-- THE SECOND FORM's CARD OF 'bushellaw01.MeasureEncloses'. -/
def measureEnclosesUptoCard : Claim7 := { stood := { row := measureEnclosesUptoRow, standIns := [], harness := (true, "8433a32e9b24edf0f4460839104c5c7a922bd16cbc54cfbf34846b8755908031"), looks := true }, kinds := [], alts := [], laidByText := true, laidKinds := [.data, .data, .data, .data, .sentinel, .sentinel, .pinned], laidTests := true, laidLooks := .later }
def MeasureEnclosesUptoCardSaid : Prop := Claim7.holds Tryz.pinned (.plain (OpenSpec.upto measureEnclosesSpec)) measureEnclosesUptoCard
end Rows
end Go.Proofs.YtomkgioebbefnaaGreatDoor
