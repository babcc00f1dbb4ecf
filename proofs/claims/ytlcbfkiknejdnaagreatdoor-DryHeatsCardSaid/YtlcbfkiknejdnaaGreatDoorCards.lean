/-
  DERIVED. GIVEN WITH THE SEED: THE CARDS: each row of YtlcbfkiknejdnaaGreatDoorRows.lean that lists a variable, with what it lists TIED to the program's text (the seventh form; the later family's looks); each row that meets fmt, with fmt's text TOLD by the authors' own Lean function (tested against real Go, not proved from fmt's source: count such statements apart). THE CARD IS WHAT COUNTS. Prove the row's statement (the work); the ties are given (YtlcbfkiknejdnaaGreatDoorTie.lean); close each card by the builder's one call (the guide's Derived/Test/ToyasCard.lean, 'card_holds'). Laid BY PROGRAM, IN A SANDBOX (cutbox-door.mjs). By AI agents, Wed Nov 11 2026. No macro, syntax, notation, axiom, sorry.
-/
import Derived.Test.YtlcbfkiknejdnaaGreatDoorRows
import GoSem.ClaimSeven
namespace Go.Proofs.YtlcbfkiknejdnaaGreatDoor
namespace Rows

/-- THE TIED CARD OF 'bushellaw06.DryHeats'. -/
def dryHeatsCard : Claim7 := { stood := { row := dryHeatsRow, standIns := [], harness := (true, "a92291ca9f9dbca3bc633f3889e69a25ca7b7875481260d9fa9184a063cebd8e"), looks := true }, kinds := [], alts := [], laidByText := true, laidKinds := [.data, .data, .data, .data, .sentinel, .sentinel, .pinned], laidTests := true, laidLooks := .later }
def DryHeatsCardSaid : Prop := Claim7.holds Tryz.pinned (.plain (OpenSpec.ofChange dryHeatsSpec)) dryHeatsCard

/-- THE SECOND FORM's CARD OF 'bushellaw06.DryHeats'. -/
def dryHeatsUptoCard : Claim7 := { stood := { row := dryHeatsUptoRow, standIns := [], harness := (true, "a92291ca9f9dbca3bc633f3889e69a25ca7b7875481260d9fa9184a063cebd8e"), looks := true }, kinds := [], alts := [], laidByText := true, laidKinds := [.data, .data, .data, .data, .sentinel, .sentinel, .pinned], laidTests := true, laidLooks := .later }
def DryHeatsUptoCardSaid : Prop := Claim7.holds Tryz.pinned (.plain (OpenSpec.upto dryHeatsSpec)) dryHeatsUptoCard
end Rows
end Go.Proofs.YtlcbfkiknejdnaaGreatDoor
