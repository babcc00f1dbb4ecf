/-
  DERIVED. GIVEN WITH THE SEED: THE CARDS: each row of YtonifflnjjcanaaGreatDoorRows.lean that lists a variable, with what it lists TIED to the program's text (the seventh form; the later family's looks); each row that meets fmt, with fmt's text TOLD by the authors' own Lean function (tested against real Go, not proved from fmt's source: count such statements apart). THE CARD IS WHAT COUNTS. Prove the row's statement (the work); the ties are given (YtonifflnjjcanaaGreatDoorTie.lean); close each card by the builder's one call (the guide's Derived/Test/ToyasCard.lean, 'card_holds'). Laid BY PROGRAM, IN A SANDBOX (cutbox-door.mjs). By AI agents, Wed Nov 11 2026. No macro, syntax, notation, axiom, sorry.
-/
import Derived.Test.YtonifflnjjcanaaGreatDoorRows
import GoSem.ClaimSeven
namespace Go.Proofs.YtonifflnjjcanaaGreatDoor
namespace Rows

/-- THE TIED CARD OF 'bushellaw06.DryFronts'. -/
def dryFrontsCard : Claim7 := { stood := { row := dryFrontsRow, standIns := [], harness := (true, "cf704c1f7756d5739c56e1809f2880a2406575e0411fe989ebd7cd67af4b029f"), looks := true }, kinds := [], alts := [], laidByText := true, laidKinds := [.data, .data, .data, .data, .sentinel, .sentinel, .pinned], laidTests := true, laidLooks := .later }
def DryFrontsCardSaid : Prop := Claim7.holds Tryz.pinned (.plain (OpenSpec.ofChange dryFrontsSpec)) dryFrontsCard

/-- THE SECOND FORM's CARD OF 'bushellaw06.DryFronts'. -/
def dryFrontsUptoCard : Claim7 := { stood := { row := dryFrontsUptoRow, standIns := [], harness := (true, "cf704c1f7756d5739c56e1809f2880a2406575e0411fe989ebd7cd67af4b029f"), looks := true }, kinds := [], alts := [], laidByText := true, laidKinds := [.data, .data, .data, .data, .sentinel, .sentinel, .pinned], laidTests := true, laidLooks := .later }
def DryFrontsUptoCardSaid : Prop := Claim7.holds Tryz.pinned (.plain (OpenSpec.upto dryFrontsSpec)) dryFrontsUptoCard
end Rows
end Go.Proofs.YtonifflnjjcanaaGreatDoor
