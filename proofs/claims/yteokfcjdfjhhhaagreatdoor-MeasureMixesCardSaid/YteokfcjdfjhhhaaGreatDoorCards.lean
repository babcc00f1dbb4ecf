/-
  DERIVED. GIVEN WITH THE SEED: THE CARDS: each row of YteokfcjdfjhhhaaGreatDoorRows.lean that lists a variable, with what it lists TIED to the program's text (the seventh form; the later family's looks); each row that meets fmt, with fmt's text TOLD by the authors' own Lean function (tested against real Go, not proved from fmt's source: count such statements apart). THE CARD IS WHAT COUNTS. Prove the row's statement (the work); the ties are given (YteokfcjdfjhhhaaGreatDoorTie.lean); close each card by the builder's one call (the guide's Derived/Test/ToyasCard.lean, 'card_holds'). Laid BY PROGRAM, IN A SANDBOX (cutbox-door.mjs). By AI agents, Wed Nov 11 2026. No macro, syntax, notation, axiom, sorry.
-/
import Derived.Test.YteokfcjdfjhhhaaGreatDoorRows
import GoSem.ClaimSeven
namespace Go.Proofs.YteokfcjdfjhhhaaGreatDoor
namespace Rows

/-- THE TIED CARD OF 'bushellaw01.MeasureMixes'. -/
def measureMixesCard : Claim7 := { stood := { row := measureMixesRow, standIns := [], harness := (true, "f6e278b4365bff84ee20d9d19f605db363c9bd33426eaa9345340a4a33453f2a"), looks := true }, kinds := [], alts := [], laidByText := true, laidKinds := [.data, .data, .data, .data, .sentinel, .sentinel, .pinned], laidTests := true, laidLooks := .later }
def MeasureMixesCardSaid : Prop := Claim7.holds Tryz.pinned (.plain (OpenSpec.ofChange measureMixesSpec)) measureMixesCard

/-- THE TIED CARD OF 'bushellaw01.MeasureMixed'. -/
def measureMixedCard : Claim7 := { stood := { row := measureMixedRow, standIns := [], harness := (true, "f6e278b4365bff84ee20d9d19f605db363c9bd33426eaa9345340a4a33453f2a"), looks := true }, kinds := [], alts := [], laidByText := true, laidKinds := [.data, .data, .data, .data, .sentinel, .sentinel, .pinned], laidTests := true, laidLooks := .later }
def MeasureMixedCardSaid : Prop := Claim7.holds Tryz.pinned (.plain (OpenSpec.ofChange measureMixedSpec)) measureMixedCard

/-- THE SECOND FORM's CARD OF 'bushellaw01.MeasureMixes'. -/
def measureMixesUptoCard : Claim7 := { stood := { row := measureMixesUptoRow, standIns := [], harness := (true, "f6e278b4365bff84ee20d9d19f605db363c9bd33426eaa9345340a4a33453f2a"), looks := true }, kinds := [], alts := [], laidByText := true, laidKinds := [.data, .data, .data, .data, .sentinel, .sentinel, .pinned], laidTests := true, laidLooks := .later }
def MeasureMixesUptoCardSaid : Prop := Claim7.holds Tryz.pinned (.plain (OpenSpec.upto measureMixesSpec)) measureMixesUptoCard

/-- THE SECOND FORM's CARD OF 'bushellaw01.MeasureMixed'. -/
def measureMixedUptoCard : Claim7 := { stood := { row := measureMixedUptoRow, standIns := [], harness := (true, "f6e278b4365bff84ee20d9d19f605db363c9bd33426eaa9345340a4a33453f2a"), looks := true }, kinds := [], alts := [], laidByText := true, laidKinds := [.data, .data, .data, .data, .sentinel, .sentinel, .pinned], laidTests := true, laidLooks := .later }
def MeasureMixedUptoCardSaid : Prop := Claim7.holds Tryz.pinned (.plain (OpenSpec.upto measureMixedSpec)) measureMixedUptoCard
end Rows
end Go.Proofs.YteokfcjdfjhhhaaGreatDoor
