/-
  DERIVED. GIVEN WITH THE SEED: THE CARDS: each row of YtnbnoacadhoimaaGreatDoorRows.lean that lists a variable, with what it lists TIED to the program's text (the seventh form; the later family's looks); each row that meets fmt, with fmt's text TOLD by the authors' own Lean function (tested against real Go, not proved from fmt's source: count such statements apart). THE CARD IS WHAT COUNTS. Prove the row's statement (the work); the ties are given (YtnbnoacadhoimaaGreatDoorTie.lean); close each card by the builder's one call (the guide's Derived/Test/ToyasCard.lean, 'card_holds'). Laid BY PROGRAM, IN A SANDBOX (cutbox-door.mjs). By AI agents, Wed Nov 11 2026. No macro, syntax, notation, axiom, sorry.
-/
import Derived.Test.YtnbnoacadhoimaaGreatDoorRows
import GoSem.ClaimSeven
namespace Go.Proofs.YtnbnoacadhoimaaGreatDoor
namespace Rows

/-- THE TIED CARD OF 'bushellaw06.DryCables'. -/
def dryCablesCard : Claim7 := { stood := { row := dryCablesRow, standIns := [], harness := (true, "f5633599477f8bb2dc11fef34a3572de5d86d668f805176172887b3dfab73b3a"), looks := true }, kinds := [], alts := [], laidByText := true, laidKinds := [.data, .data, .data, .data, .sentinel, .sentinel, .pinned], laidTests := true, laidLooks := .later }
def DryCablesCardSaid : Prop := Claim7.holds Tryz.pinned (.plain (OpenSpec.ofChange dryCablesSpec)) dryCablesCard

/-- THE TIED CARD OF 'bushellaw06.DryWatches'. -/
def dryWatchesCard : Claim7 := { stood := { row := dryWatchesRow, standIns := [], harness := (true, "f5633599477f8bb2dc11fef34a3572de5d86d668f805176172887b3dfab73b3a"), looks := true }, kinds := [], alts := [], laidByText := true, laidKinds := [.data, .data, .data, .data, .sentinel, .sentinel, .pinned], laidTests := true, laidLooks := .later }
def DryWatchesCardSaid : Prop := Claim7.holds Tryz.pinned (.plain (OpenSpec.ofChange dryWatchesSpec)) dryWatchesCard

/-- THE TIED CARD OF 'bushellaw06.DryWeather'. -/
def dryWeatherCard : Claim7 := { stood := { row := dryWeatherRow, standIns := [], harness := (true, "f5633599477f8bb2dc11fef34a3572de5d86d668f805176172887b3dfab73b3a"), looks := true }, kinds := [], alts := [], laidByText := true, laidKinds := [.data, .data, .data, .data, .sentinel, .sentinel, .pinned], laidTests := true, laidLooks := .later }
def DryWeatherCardSaid : Prop := Claim7.holds Tryz.pinned (.plain (OpenSpec.ofChange dryWeatherSpec)) dryWeatherCard

/-- THE TIED CARD OF 'bushellaw06.DryFans'. -/
def dryFansCard : Claim7 := { stood := { row := dryFansRow, standIns := [], harness := (true, "f5633599477f8bb2dc11fef34a3572de5d86d668f805176172887b3dfab73b3a"), looks := true }, kinds := [], alts := [], laidByText := true, laidKinds := [.data, .data, .data, .data, .sentinel, .sentinel, .pinned], laidTests := true, laidLooks := .later }
def DryFansCardSaid : Prop := Claim7.holds Tryz.pinned (.plain (OpenSpec.ofChange dryFansSpec)) dryFansCard

/-- THE SECOND FORM's CARD OF 'bushellaw06.DryCables'. -/
def dryCablesUptoCard : Claim7 := { stood := { row := dryCablesUptoRow, standIns := [], harness := (true, "f5633599477f8bb2dc11fef34a3572de5d86d668f805176172887b3dfab73b3a"), looks := true }, kinds := [], alts := [], laidByText := true, laidKinds := [.data, .data, .data, .data, .sentinel, .sentinel, .pinned], laidTests := true, laidLooks := .later }
def DryCablesUptoCardSaid : Prop := Claim7.holds Tryz.pinned (.plain (OpenSpec.upto dryCablesSpec)) dryCablesUptoCard

/-- THE SECOND FORM's CARD OF 'bushellaw06.DryWatches'. -/
def dryWatchesUptoCard : Claim7 := { stood := { row := dryWatchesUptoRow, standIns := [], harness := (true, "f5633599477f8bb2dc11fef34a3572de5d86d668f805176172887b3dfab73b3a"), looks := true }, kinds := [], alts := [], laidByText := true, laidKinds := [.data, .data, .data, .data, .sentinel, .sentinel, .pinned], laidTests := true, laidLooks := .later }
def DryWatchesUptoCardSaid : Prop := Claim7.holds Tryz.pinned (.plain (OpenSpec.upto dryWatchesSpec)) dryWatchesUptoCard

/-- THE SECOND FORM's CARD OF 'bushellaw06.DryWeather'. -/
def dryWeatherUptoCard : Claim7 := { stood := { row := dryWeatherUptoRow, standIns := [], harness := (true, "f5633599477f8bb2dc11fef34a3572de5d86d668f805176172887b3dfab73b3a"), looks := true }, kinds := [], alts := [], laidByText := true, laidKinds := [.data, .data, .data, .data, .sentinel, .sentinel, .pinned], laidTests := true, laidLooks := .later }
def DryWeatherUptoCardSaid : Prop := Claim7.holds Tryz.pinned (.plain (OpenSpec.upto dryWeatherSpec)) dryWeatherUptoCard

/-- THE SECOND FORM's CARD OF 'bushellaw06.DryFans'. -/
def dryFansUptoCard : Claim7 := { stood := { row := dryFansUptoRow, standIns := [], harness := (true, "f5633599477f8bb2dc11fef34a3572de5d86d668f805176172887b3dfab73b3a"), looks := true }, kinds := [], alts := [], laidByText := true, laidKinds := [.data, .data, .data, .data, .sentinel, .sentinel, .pinned], laidTests := true, laidLooks := .later }
def DryFansUptoCardSaid : Prop := Claim7.holds Tryz.pinned (.plain (OpenSpec.upto dryFansSpec)) dryFansUptoCard
end Rows
end Go.Proofs.YtnbnoacadhoimaaGreatDoor
