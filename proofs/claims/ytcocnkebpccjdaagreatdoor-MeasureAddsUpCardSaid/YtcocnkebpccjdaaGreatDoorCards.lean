/-
  DERIVED. GIVEN WITH THE SEED: THE CARDS: each row of YtcocnkebpccjdaaGreatDoorRows.lean that lists a variable, with what it lists TIED to the program's text (the seventh form; the later family's looks); each row that meets fmt, with fmt's text TOLD by the authors' own Lean function (tested against real Go, not proved from fmt's source: count such statements apart). THE CARD IS WHAT COUNTS. Prove the row's statement (the work); the ties are given (YtcocnkebpccjdaaGreatDoorTie.lean); close each card by the builder's one call (the guide's Derived/Test/ToyasCard.lean, 'card_holds'). Laid BY PROGRAM, IN A SANDBOX (cutbox-door.mjs). By AI agents, Wed Nov 11 2026. No macro, syntax, notation, axiom, sorry.
-/
import Derived.Test.YtcocnkebpccjdaaGreatDoorRows
import GoSem.ClaimSeven
namespace Go.Proofs.YtcocnkebpccjdaaGreatDoor
namespace Rows

/-- THE TIED CARD OF 'bushellaw01.MeasureParts'. -/
def measurePartsCard : Claim7 := { stood := { row := measurePartsRow, standIns := [], harness := (true, "8fda262216ef50fefc361c5e797f2f9bc9e5f69e94ba4cac0a28ba15df9748a0"), looks := true }, kinds := [], alts := [], laidByText := true, laidKinds := [.data, .data, .data, .data, .sentinel, .sentinel, .pinned], laidTests := true, laidLooks := .later }
def MeasurePartsCardSaid : Prop := Claim7.holds Tryz.pinned (.plain (OpenSpec.ofChange measurePartsSpec)) measurePartsCard

/-- THE TIED CARD OF 'bushellaw01.MeasureAddsUp'. -/
def measureAddsUpCard : Claim7 := { stood := { row := measureAddsUpRow, standIns := [], harness := (true, "8fda262216ef50fefc361c5e797f2f9bc9e5f69e94ba4cac0a28ba15df9748a0"), looks := true }, kinds := [], alts := [], laidByText := true, laidKinds := [.data, .data, .data, .data, .sentinel, .sentinel, .pinned], laidTests := true, laidLooks := .later }
def MeasureAddsUpCardSaid : Prop := Claim7.holds Tryz.pinned (.plain (OpenSpec.ofChange measureAddsUpSpec)) measureAddsUpCard

/-- THE SECOND FORM's CARD OF 'bushellaw01.MeasureParts'. -/
def measurePartsUptoCard : Claim7 := { stood := { row := measurePartsUptoRow, standIns := [], harness := (true, "8fda262216ef50fefc361c5e797f2f9bc9e5f69e94ba4cac0a28ba15df9748a0"), looks := true }, kinds := [], alts := [], laidByText := true, laidKinds := [.data, .data, .data, .data, .sentinel, .sentinel, .pinned], laidTests := true, laidLooks := .later }
def MeasurePartsUptoCardSaid : Prop := Claim7.holds Tryz.pinned (.plain (OpenSpec.upto measurePartsSpec)) measurePartsUptoCard

/-- THE SECOND FORM's CARD OF 'bushellaw01.MeasureAddsUp'. -/
def measureAddsUpUptoCard : Claim7 := { stood := { row := measureAddsUpUptoRow, standIns := [], harness := (true, "8fda262216ef50fefc361c5e797f2f9bc9e5f69e94ba4cac0a28ba15df9748a0"), looks := true }, kinds := [], alts := [], laidByText := true, laidKinds := [.data, .data, .data, .data, .sentinel, .sentinel, .pinned], laidTests := true, laidLooks := .later }
def MeasureAddsUpUptoCardSaid : Prop := Claim7.holds Tryz.pinned (.plain (OpenSpec.upto measureAddsUpSpec)) measureAddsUpUptoCard
end Rows
end Go.Proofs.YtcocnkebpccjdaaGreatDoor
