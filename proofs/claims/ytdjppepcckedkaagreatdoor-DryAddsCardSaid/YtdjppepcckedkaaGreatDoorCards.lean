/-
  DERIVED. GIVEN WITH THE SEED: THE CARDS: each row of YtdjppepcckedkaaGreatDoorRows.lean that lists a variable, with what it lists TIED to the program's text (the seventh form; the later family's looks); each row that meets fmt, with fmt's text TOLD by the authors' own Lean function (tested against real Go, not proved from fmt's source: count such statements apart). THE CARD IS WHAT COUNTS. Prove the row's statement (the work); the ties are given (YtdjppepcckedkaaGreatDoorTie.lean); close each card by the builder's one call (the guide's Derived/Test/ToyasCard.lean, 'card_holds'). Laid BY PROGRAM, IN A SANDBOX (cutbox-door.mjs). By AI agents, Wed Nov 11 2026. No macro, syntax, notation, axiom, sorry.
-/
import Derived.Test.YtdjppepcckedkaaGreatDoorRows
import GoSem.ClaimSeven
namespace Go.Proofs.YtdjppepcckedkaaGreatDoor
namespace Rows

/-- THE TIED CARD OF 'bushellaw06.DryAdds'. -/
def dryAddsCard : Claim7 := { stood := { row := dryAddsRow, standIns := [], harness := (true, "874095b305c6497075f28aed21d7fb48db29706eb72339951a3d4389570f0816"), looks := true }, kinds := [], alts := [], laidByText := true, laidKinds := [.data, .data, .data, .data, .sentinel, .sentinel, .pinned], laidTests := true, laidLooks := .later }
def DryAddsCardSaid : Prop := Claim7.holds Tryz.pinned (.plain (OpenSpec.ofChange dryAddsSpec)) dryAddsCard

/-- THE SECOND FORM's CARD OF 'bushellaw06.DryAdds'. -/
def dryAddsUptoCard : Claim7 := { stood := { row := dryAddsUptoRow, standIns := [], harness := (true, "874095b305c6497075f28aed21d7fb48db29706eb72339951a3d4389570f0816"), looks := true }, kinds := [], alts := [], laidByText := true, laidKinds := [.data, .data, .data, .data, .sentinel, .sentinel, .pinned], laidTests := true, laidLooks := .later }
def DryAddsUptoCardSaid : Prop := Claim7.holds Tryz.pinned (.plain (OpenSpec.upto dryAddsSpec)) dryAddsUptoCard
end Rows
end Go.Proofs.YtdjppepcckedkaaGreatDoor
