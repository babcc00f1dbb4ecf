/-
  DERIVED. GIVEN WITH THE SEED: THE CARDS: each row of YthciialjockjmaaGreatDoorRows.lean that lists a variable, with what it lists TIED to the program's text (the seventh form; the later family's looks); each row that meets fmt, with fmt's text TOLD by the authors' own Lean function (tested against real Go, not proved from fmt's source: count such statements apart). THE CARD IS WHAT COUNTS. Prove the row's statement (the work); the ties are given (YthciialjockjmaaGreatDoorTie.lean); close each card by the builder's one call (the guide's Derived/Test/ToyasCard.lean, 'card_holds'). Laid BY PROGRAM, IN A SANDBOX (cutbox-door.mjs). By AI agents, Wed Nov 11 2026. No macro, syntax, notation, axiom, sorry.
-/
import Derived.Test.YthciialjockjmaaGreatDoorRows
import GoSem.ClaimSeven
namespace Go.Proofs.YthciialjockjmaaGreatDoor
namespace Rows

/-- THE TIED CARD OF 'bushellaw01.MeasureRounded'. -/
def measureRoundedCard : Claim7 := { stood := { row := measureRoundedRow, standIns := [], harness := (true, "c12cdb4e0c93793bdaa561730cb77108ee5306c24e52d3e22b553b79d01ea3fc"), looks := true }, kinds := [], alts := [], laidByText := true, laidKinds := [.data, .data, .data, .data, .sentinel, .sentinel, .pinned], laidTests := true, laidLooks := .later }
def MeasureRoundedCardSaid : Prop := Claim7.holds Tryz.pinned (.plain (OpenSpec.ofChange measureRoundedSpec)) measureRoundedCard

/-- THE SECOND FORM's CARD OF 'bushellaw01.MeasureRounded'. -/
def measureRoundedUptoCard : Claim7 := { stood := { row := measureRoundedUptoRow, standIns := [], harness := (true, "c12cdb4e0c93793bdaa561730cb77108ee5306c24e52d3e22b553b79d01ea3fc"), looks := true }, kinds := [], alts := [], laidByText := true, laidKinds := [.data, .data, .data, .data, .sentinel, .sentinel, .pinned], laidTests := true, laidLooks := .later }
def MeasureRoundedUptoCardSaid : Prop := Claim7.holds Tryz.pinned (.plain (OpenSpec.upto measureRoundedSpec)) measureRoundedUptoCard
end Rows
end Go.Proofs.YthciialjockjmaaGreatDoor
