/-
  DERIVED. GIVEN WITH THE SEED: THE CARDS: each row of YtdbaealhapgjaaaGreatDoorRows.lean that lists a variable, with what it lists TIED to the program's text (the seventh form; the later family's looks); each row that meets fmt, with fmt's text TOLD by the authors' own Lean function (tested against real Go, not proved from fmt's source: count such statements apart). THE CARD IS WHAT COUNTS. Prove the row's statement (the work); the ties are given (YtdbaealhapgjaaaGreatDoorTie.lean); close each card by the builder's one call (the guide's Derived/Test/ToyasCard.lean, 'card_holds'). Laid BY PROGRAM, IN A SANDBOX (cutbox-door.mjs). By AI agents, Wed Nov 11 2026. No macro, syntax, notation, axiom, sorry.
-/
import Derived.Test.YtdbaealhapgjaaaGreatDoorRows
import GoSem.ClaimSeven
namespace Go.Proofs.YtdbaealhapgjaaaGreatDoor
namespace Rows

/-- THE TIED CARD OF 'busheltop.TopDried'. -/
def topDriedCard : Claim7 := { stood := { row := topDriedRow, standIns := [], harness := (true, "cf6db335c8bc98500d21503d17b18164641d29ff10071e10e5afc3c1bfb83d36"), looks := true }, kinds := [], alts := [], laidByText := true, laidKinds := [.data, .data, .data, .data, .sentinel, .sentinel, .pinned], laidTests := true, laidLooks := .later }
def TopDriedCardSaid : Prop := Claim7.holds Tryz.pinned (.plain (OpenSpec.ofChange topDriedSpec)) topDriedCard

/-- THE TIED CARD OF 'busheltop.TopMixing'. -/
def topMixingCard : Claim7 := { stood := { row := topMixingRow, standIns := [], harness := (true, "cf6db335c8bc98500d21503d17b18164641d29ff10071e10e5afc3c1bfb83d36"), looks := true }, kinds := [], alts := [], laidByText := true, laidKinds := [.data, .data, .data, .data, .sentinel, .sentinel, .pinned], laidTests := true, laidLooks := .later }
def TopMixingCardSaid : Prop := Claim7.holds Tryz.pinned (.plain (OpenSpec.ofChange topMixingSpec)) topMixingCard

/-- THE TIED CARD OF 'busheltop.TopAired'. -/
def topAiredCard : Claim7 := { stood := { row := topAiredRow, standIns := [], harness := (true, "cf6db335c8bc98500d21503d17b18164641d29ff10071e10e5afc3c1bfb83d36"), looks := true }, kinds := [], alts := [], laidByText := true, laidKinds := [.data, .data, .data, .data, .sentinel, .sentinel, .pinned], laidTests := true, laidLooks := .later }
def TopAiredCardSaid : Prop := Claim7.holds Tryz.pinned (.plain (OpenSpec.ofChange topAiredSpec)) topAiredCard

/-- THE SECOND FORM's CARD OF 'busheltop.TopDried'. -/
def topDriedUptoCard : Claim7 := { stood := { row := topDriedUptoRow, standIns := [], harness := (true, "cf6db335c8bc98500d21503d17b18164641d29ff10071e10e5afc3c1bfb83d36"), looks := true }, kinds := [], alts := [], laidByText := true, laidKinds := [.data, .data, .data, .data, .sentinel, .sentinel, .pinned], laidTests := true, laidLooks := .later }
def TopDriedUptoCardSaid : Prop := Claim7.holds Tryz.pinned (.plain (OpenSpec.upto topDriedSpec)) topDriedUptoCard

/-- THE SECOND FORM's CARD OF 'busheltop.TopMixing'. -/
def topMixingUptoCard : Claim7 := { stood := { row := topMixingUptoRow, standIns := [], harness := (true, "cf6db335c8bc98500d21503d17b18164641d29ff10071e10e5afc3c1bfb83d36"), looks := true }, kinds := [], alts := [], laidByText := true, laidKinds := [.data, .data, .data, .data, .sentinel, .sentinel, .pinned], laidTests := true, laidLooks := .later }
def TopMixingUptoCardSaid : Prop := Claim7.holds Tryz.pinned (.plain (OpenSpec.upto topMixingSpec)) topMixingUptoCard

/-- THE SECOND FORM's CARD OF 'busheltop.TopAired'. -/
def topAiredUptoCard : Claim7 := { stood := { row := topAiredUptoRow, standIns := [], harness := (true, "cf6db335c8bc98500d21503d17b18164641d29ff10071e10e5afc3c1bfb83d36"), looks := true }, kinds := [], alts := [], laidByText := true, laidKinds := [.data, .data, .data, .data, .sentinel, .sentinel, .pinned], laidTests := true, laidLooks := .later }
def TopAiredUptoCardSaid : Prop := Claim7.holds Tryz.pinned (.plain (OpenSpec.upto topAiredSpec)) topAiredUptoCard
end Rows
end Go.Proofs.YtdbaealhapgjaaaGreatDoor
