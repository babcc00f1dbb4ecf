/-
  DERIVED. GIVEN WITH THE SEED: THE CARDS: each row of YtgbadcjhiljiiaaGreatDoorRows.lean that lists a variable, with what it lists TIED to the program's text (the seventh form; the later family's looks); each row that meets fmt, with fmt's text TOLD by the authors' own Lean function (tested against real Go, not proved from fmt's source: count such statements apart). THE CARD IS WHAT COUNTS. Prove the row's statement (the work); the ties are given (YtgbadcjhiljiiaaGreatDoorTie.lean); close each card by the builder's one call (the guide's Derived/Test/ToyasCard.lean, 'card_holds'). Laid BY PROGRAM, IN A SANDBOX (cutbox-door.mjs). By AI agents, Wed Nov 11 2026. No macro, syntax, notation, axiom, sorry.
-/
import Derived.Test.YtgbadcjhiljiiaaGreatDoorRows
import GoSem.ClaimSeven
namespace Go.Proofs.YtgbadcjhiljiiaaGreatDoor
namespace Rows

/-- THE TIED CARD OF 'bushellaw06.DryMasses'. -/
def dryMassesCard : Claim7 := { stood := { row := dryMassesRow, standIns := [], harness := (true, "0541c700d11f13350d60d8a4a119b045f82a05c89d7ba07fb72880b938b30ced"), looks := true }, kinds := [], alts := [], laidByText := true, laidKinds := [.data, .data, .data, .data, .sentinel, .sentinel, .pinned], laidTests := true, laidLooks := .later }
def DryMassesCardSaid : Prop := Claim7.holds Tryz.pinned (.plain (OpenSpec.ofChange dryMassesSpec)) dryMassesCard

/-- THE SECOND FORM's CARD OF 'bushellaw06.DryMasses'. -/
def dryMassesUptoCard : Claim7 := { stood := { row := dryMassesUptoRow, standIns := [], harness := (true, "0541c700d11f13350d60d8a4a119b045f82a05c89d7ba07fb72880b938b30ced"), looks := true }, kinds := [], alts := [], laidByText := true, laidKinds := [.data, .data, .data, .data, .sentinel, .sentinel, .pinned], laidTests := true, laidLooks := .later }
def DryMassesUptoCardSaid : Prop := Claim7.holds Tryz.pinned (.plain (OpenSpec.upto dryMassesSpec)) dryMassesUptoCard
end Rows
end Go.Proofs.YtgbadcjhiljiiaaGreatDoor
