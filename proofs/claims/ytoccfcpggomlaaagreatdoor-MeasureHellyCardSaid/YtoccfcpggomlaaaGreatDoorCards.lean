/-
  DERIVED. GIVEN WITH THE SEED: THE CARDS: each row of YtoccfcpggomlaaaGreatDoorRows.lean that lists a variable, with what it lists TIED to the program's text (the seventh form; the later family's looks); each row that meets fmt, with fmt's text TOLD by the authors' own Lean function (tested against real Go, not proved from fmt's source: count such statements apart). THE CARD IS WHAT COUNTS. Prove the row's statement (the work); the ties are given (YtoccfcpggomlaaaGreatDoorTie.lean); close each card by the builder's one call (the guide's Derived/Test/ToyasCard.lean, 'card_holds'). Laid BY PROGRAM, IN A SANDBOX (cutbox-door.mjs). By AI agents, Wed Nov 11 2026. No macro, syntax, notation, axiom, sorry.
-/
import Derived.Test.YtoccfcpggomlaaaGreatDoorRows
import GoSem.ClaimSeven
namespace Go.Proofs.YtoccfcpggomlaaaGreatDoor
namespace Rows

/-- THE TIED CARD OF 'bushellaw01.MeasureParts'. -/
def measurePartsCard : Claim7 := { stood := { row := measurePartsRow, standIns := [], harness := (true, "2eca54dc298872529f1c6e4fa9f812e2c4745c54bf4d1643be3abc2195afa965"), looks := true }, kinds := [], alts := [], laidByText := true, laidKinds := [.data, .data, .data, .data, .sentinel, .sentinel, .pinned], laidTests := true, laidLooks := .later }
def MeasurePartsCardSaid : Prop := Claim7.holds Tryz.pinned (.plain (OpenSpec.ofChange measurePartsSpec)) measurePartsCard

/-- THE TIED CARD OF 'bushellaw01.MeasureHelly'. -/
def measureHellyCard : Claim7 := { stood := { row := measureHellyRow, standIns := [], harness := (true, "2eca54dc298872529f1c6e4fa9f812e2c4745c54bf4d1643be3abc2195afa965"), looks := true }, kinds := [], alts := [], laidByText := true, laidKinds := [.data, .data, .data, .data, .sentinel, .sentinel, .pinned], laidTests := true, laidLooks := .later }
def MeasureHellyCardSaid : Prop := Claim7.holds Tryz.pinned (.plain (OpenSpec.ofChange measureHellySpec)) measureHellyCard

/-- THE SECOND FORM's CARD OF 'bushellaw01.MeasureParts'. -/
def measurePartsUptoCard : Claim7 := { stood := { row := measurePartsUptoRow, standIns := [], harness := (true, "2eca54dc298872529f1c6e4fa9f812e2c4745c54bf4d1643be3abc2195afa965"), looks := true }, kinds := [], alts := [], laidByText := true, laidKinds := [.data, .data, .data, .data, .sentinel, .sentinel, .pinned], laidTests := true, laidLooks := .later }
def MeasurePartsUptoCardSaid : Prop := Claim7.holds Tryz.pinned (.plain (OpenSpec.upto measurePartsSpec)) measurePartsUptoCard

/-- THE SECOND FORM's CARD OF 'bushellaw01.MeasureHelly'. -/
def measureHellyUptoCard : Claim7 := { stood := { row := measureHellyUptoRow, standIns := [], harness := (true, "2eca54dc298872529f1c6e4fa9f812e2c4745c54bf4d1643be3abc2195afa965"), looks := true }, kinds := [], alts := [], laidByText := true, laidKinds := [.data, .data, .data, .data, .sentinel, .sentinel, .pinned], laidTests := true, laidLooks := .later }
def MeasureHellyUptoCardSaid : Prop := Claim7.holds Tryz.pinned (.plain (OpenSpec.upto measureHellySpec)) measureHellyUptoCard
end Rows
end Go.Proofs.YtoccfcpggomlaaaGreatDoor
