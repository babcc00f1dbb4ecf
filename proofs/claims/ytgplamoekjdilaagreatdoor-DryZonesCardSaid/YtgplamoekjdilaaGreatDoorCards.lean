/-
  DERIVED. GIVEN WITH THE SEED: THE CARDS: each row of YtgplamoekjdilaaGreatDoorRows.lean that lists a variable, with what it lists TIED to the program's text (the seventh form; the later family's looks); each row that meets fmt, with fmt's text TOLD by the authors' own Lean function (tested against real Go, not proved from fmt's source: count such statements apart). THE CARD IS WHAT COUNTS. Prove the row's statement (the work); the ties are given (YtgplamoekjdilaaGreatDoorTie.lean); close each card by the builder's one call (the guide's Derived/Test/ToyasCard.lean, 'card_holds'). Laid BY PROGRAM, IN A SANDBOX (cutbox-door.mjs). By AI agents, Wed Nov 11 2026. No macro, syntax, notation, axiom, sorry.
-/
import Derived.Test.YtgplamoekjdilaaGreatDoorRows
import GoSem.ClaimSeven
namespace Go.Proofs.YtgplamoekjdilaaGreatDoor
namespace Rows

/-- THE TIED CARD OF 'bushellaw06.DryAreas'. -/
def dryAreasCard : Claim7 := { stood := { row := dryAreasRow, standIns := [], harness := (true, "756e2e33e222859b458babae918788b950f665787e4d303358739d2031991346"), looks := true }, kinds := [], alts := [], laidByText := true, laidKinds := [.data, .data, .data, .data, .sentinel, .sentinel, .pinned], laidTests := true, laidLooks := .later }
def DryAreasCardSaid : Prop := Claim7.holds Tryz.pinned (.plain (OpenSpec.ofChange dryAreasSpec)) dryAreasCard

/-- THE TIED CARD OF 'bushellaw06.DryZones'. -/
def dryZonesCard : Claim7 := { stood := { row := dryZonesRow, standIns := [], harness := (true, "756e2e33e222859b458babae918788b950f665787e4d303358739d2031991346"), looks := true }, kinds := [], alts := [], laidByText := true, laidKinds := [.data, .data, .data, .data, .sentinel, .sentinel, .pinned], laidTests := true, laidLooks := .later }
def DryZonesCardSaid : Prop := Claim7.holds Tryz.pinned (.plain (OpenSpec.ofChange dryZonesSpec)) dryZonesCard

/-- THE TIED CARD OF 'bushellaw06.DryFronts'. -/
def dryFrontsCard : Claim7 := { stood := { row := dryFrontsRow, standIns := [], harness := (true, "756e2e33e222859b458babae918788b950f665787e4d303358739d2031991346"), looks := true }, kinds := [], alts := [], laidByText := true, laidKinds := [.data, .data, .data, .data, .sentinel, .sentinel, .pinned], laidTests := true, laidLooks := .later }
def DryFrontsCardSaid : Prop := Claim7.holds Tryz.pinned (.plain (OpenSpec.ofChange dryFrontsSpec)) dryFrontsCard

/-- THE TIED CARD OF 'bushellaw06.DrySpeeds'. -/
def drySpeedsCard : Claim7 := { stood := { row := drySpeedsRow, standIns := [], harness := (true, "756e2e33e222859b458babae918788b950f665787e4d303358739d2031991346"), looks := true }, kinds := [], alts := [], laidByText := true, laidKinds := [.data, .data, .data, .data, .sentinel, .sentinel, .pinned], laidTests := true, laidLooks := .later }
def DrySpeedsCardSaid : Prop := Claim7.holds Tryz.pinned (.plain (OpenSpec.ofChange drySpeedsSpec)) drySpeedsCard

/-- THE SECOND FORM's CARD OF 'bushellaw06.DryAreas'. -/
def dryAreasUptoCard : Claim7 := { stood := { row := dryAreasUptoRow, standIns := [], harness := (true, "756e2e33e222859b458babae918788b950f665787e4d303358739d2031991346"), looks := true }, kinds := [], alts := [], laidByText := true, laidKinds := [.data, .data, .data, .data, .sentinel, .sentinel, .pinned], laidTests := true, laidLooks := .later }
def DryAreasUptoCardSaid : Prop := Claim7.holds Tryz.pinned (.plain (OpenSpec.upto dryAreasSpec)) dryAreasUptoCard

/-- THE SECOND FORM's CARD OF 'bushellaw06.DryZones'. -/
def dryZonesUptoCard : Claim7 := { stood := { row := dryZonesUptoRow, standIns := [], harness := (true, "756e2e33e222859b458babae918788b950f665787e4d303358739d2031991346"), looks := true }, kinds := [], alts := [], laidByText := true, laidKinds := [.data, .data, .data, .data, .sentinel, .sentinel, .pinned], laidTests := true, laidLooks := .later }
def DryZonesUptoCardSaid : Prop := Claim7.holds Tryz.pinned (.plain (OpenSpec.upto dryZonesSpec)) dryZonesUptoCard

/-- THE SECOND FORM's CARD OF 'bushellaw06.DryFronts'. -/
def dryFrontsUptoCard : Claim7 := { stood := { row := dryFrontsUptoRow, standIns := [], harness := (true, "756e2e33e222859b458babae918788b950f665787e4d303358739d2031991346"), looks := true }, kinds := [], alts := [], laidByText := true, laidKinds := [.data, .data, .data, .data, .sentinel, .sentinel, .pinned], laidTests := true, laidLooks := .later }
def DryFrontsUptoCardSaid : Prop := Claim7.holds Tryz.pinned (.plain (OpenSpec.upto dryFrontsSpec)) dryFrontsUptoCard

/-- THE SECOND FORM's CARD OF 'bushellaw06.DrySpeeds'. -/
def drySpeedsUptoCard : Claim7 := { stood := { row := drySpeedsUptoRow, standIns := [], harness := (true, "756e2e33e222859b458babae918788b950f665787e4d303358739d2031991346"), looks := true }, kinds := [], alts := [], laidByText := true, laidKinds := [.data, .data, .data, .data, .sentinel, .sentinel, .pinned], laidTests := true, laidLooks := .later }
def DrySpeedsUptoCardSaid : Prop := Claim7.holds Tryz.pinned (.plain (OpenSpec.upto drySpeedsSpec)) drySpeedsUptoCard
end Rows
end Go.Proofs.YtgplamoekjdilaaGreatDoor
