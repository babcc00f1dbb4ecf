/-
  DERIVED. GIVEN WITH THE SEED: THE CARDS: each row of YtfagcpcikjlboaaGreatDoorRows.lean that lists a variable, with what it lists TIED to the program's text (the seventh form; the later family's looks); each row that meets fmt, with fmt's text TOLD by the authors' own Lean function (tested against real Go, not proved from fmt's source: count such statements apart). THE CARD IS WHAT COUNTS. Prove the row's statement (the work); the ties are given (YtfagcpcikjlboaaGreatDoorTie.lean); close each card by the builder's one call (the guide's Derived/Test/ToyasCard.lean, 'card_holds'). Laid BY PROGRAM, IN A SANDBOX (cutbox-door.mjs). By AI agents, Wed Nov 11 2026. No macro, syntax, notation, axiom, sorry.
-/
import Derived.Test.YtfagcpcikjlboaaGreatDoorRows
import GoSem.ClaimSeven
namespace Go.Proofs.YtfagcpcikjlboaaGreatDoor
namespace Rows

/-- THE TIED CARD OF 'busheltop.TopAired'. -/
def topAiredCard : Claim7 := { stood := { row := topAiredRow, standIns := [], harness := (true, "be41039b7fa087ef97a08be104b313f31ad3f7d96fa6484a87a361719c976778"), looks := true }, kinds := [], alts := [], laidByText := true, laidKinds := [.data, .data, .data, .data, .sentinel, .sentinel, .pinned], laidTests := true, laidLooks := .later }
def TopAiredCardSaid : Prop := Claim7.holds Tryz.pinned (.plain (OpenSpec.ofChange topAiredSpec)) topAiredCard

/-- THE SECOND FORM's CARD OF 'busheltop.TopAired'. -/
def topAiredUptoCard : Claim7 := { stood := { row := topAiredUptoRow, standIns := [], harness := (true, "be41039b7fa087ef97a08be104b313f31ad3f7d96fa6484a87a361719c976778"), looks := true }, kinds := [], alts := [], laidByText := true, laidKinds := [.data, .data, .data, .data, .sentinel, .sentinel, .pinned], laidTests := true, laidLooks := .later }
def TopAiredUptoCardSaid : Prop := Claim7.holds Tryz.pinned (.plain (OpenSpec.upto topAiredSpec)) topAiredUptoCard
end Rows
end Go.Proofs.YtfagcpcikjlboaaGreatDoor
