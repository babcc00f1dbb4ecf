/-
  DERIVED. GIVEN WITH THE SEED: THE CARDS: each row of YtpkcjfpgemdfdaaGreatDoorRows.lean that lists a variable, with what it lists TIED to the program's text (the seventh form; the later family's looks); each row that meets fmt, with fmt's text TOLD by the authors' own Lean function (tested against real Go, not proved from fmt's source: count such statements apart). THE CARD IS WHAT COUNTS. Prove the row's statement (the work); the ties are given (YtpkcjfpgemdfdaaGreatDoorTie.lean); close each card by the builder's one call (the guide's Derived/Test/ToyasCard.lean, 'card_holds'). Laid BY PROGRAM, IN A SANDBOX (cutbox-door.mjs). By AI agents, Wed Nov 11 2026. No macro, syntax, notation, axiom, sorry.
-/
import Derived.Test.YtpkcjfpgemdfdaaGreatDoorRows
import GoSem.ClaimSeven
namespace Go.Proofs.YtpkcjfpgemdfdaaGreatDoor
namespace Rows

/-- THE TIED CARD OF 'bushellaw06.DryAreas'. -/
def dryAreasCard : Claim7 := { stood := { row := dryAreasRow, standIns := [], harness := (true, "8eeda910f5b52b7ca225a98e5b5fd450752096ed4fe34c49c309a23cb692dea2"), looks := true }, kinds := [], alts := [], laidByText := true, laidKinds := [.data, .data, .data, .data, .sentinel, .sentinel, .pinned], laidTests := true, laidLooks := .later }
def DryAreasCardSaid : Prop := Claim7.holds Tryz.pinned (.plain (OpenSpec.ofChange dryAreasSpec)) dryAreasCard

/-- THE SECOND FORM's CARD OF 'bushellaw06.DryAreas'. -/
def dryAreasUptoCard : Claim7 := { stood := { row := dryAreasUptoRow, standIns := [], harness := (true, "8eeda910f5b52b7ca225a98e5b5fd450752096ed4fe34c49c309a23cb692dea2"), looks := true }, kinds := [], alts := [], laidByText := true, laidKinds := [.data, .data, .data, .data, .sentinel, .sentinel, .pinned], laidTests := true, laidLooks := .later }
def DryAreasUptoCardSaid : Prop := Claim7.holds Tryz.pinned (.plain (OpenSpec.upto dryAreasSpec)) dryAreasUptoCard
end Rows
end Go.Proofs.YtpkcjfpgemdfdaaGreatDoor
