/-
  DERIVED. GIVEN WITH THE SEED: THE CARDS: each row of YtekpigjlnjddbaaGreatDoorRows.lean that lists a variable, with what it lists TIED to the program's text (the seventh form; the later family's looks); each row that meets fmt, with fmt's text TOLD by the authors' own Lean function (tested against real Go, not proved from fmt's source: count such statements apart). THE CARD IS WHAT COUNTS. Prove the row's statement (the work); the ties are given (YtekpigjlnjddbaaGreatDoorTie.lean); close each card by the builder's one call (the guide's Derived/Test/ToyasCard.lean, 'card_holds'). Laid BY PROGRAM, IN A SANDBOX (cutbox-door.mjs). By AI agents, Wed Nov 11 2026. No macro, syntax, notation, axiom, sorry.
-/
import Derived.Test.YtekpigjlnjddbaaGreatDoorRows
import GoSem.ClaimSeven
namespace Go.Proofs.YtekpigjlnjddbaaGreatDoor
namespace Rows

/-- THE TIED CARD OF 'bushellaw06.DryMatters'. -/
def dryMattersCard : Claim7 := { stood := { row := dryMattersRow, standIns := [], harness := (true, "a556f670b636567074b35059bdfca921c8a6b6f2ced974479efb5e78046d3a04"), looks := true }, kinds := [], alts := [], laidByText := true, laidKinds := [.data, .data, .data, .data, .sentinel, .sentinel, .pinned], laidTests := true, laidLooks := .later }
def DryMattersCardSaid : Prop := Claim7.holds Tryz.pinned (.plain (OpenSpec.ofChange dryMattersSpec)) dryMattersCard

/-- THE SECOND FORM's CARD OF 'bushellaw06.DryMatters'. -/
def dryMattersUptoCard : Claim7 := { stood := { row := dryMattersUptoRow, standIns := [], harness := (true, "a556f670b636567074b35059bdfca921c8a6b6f2ced974479efb5e78046d3a04"), looks := true }, kinds := [], alts := [], laidByText := true, laidKinds := [.data, .data, .data, .data, .sentinel, .sentinel, .pinned], laidTests := true, laidLooks := .later }
def DryMattersUptoCardSaid : Prop := Claim7.holds Tryz.pinned (.plain (OpenSpec.upto dryMattersSpec)) dryMattersUptoCard
end Rows
end Go.Proofs.YtekpigjlnjddbaaGreatDoor
