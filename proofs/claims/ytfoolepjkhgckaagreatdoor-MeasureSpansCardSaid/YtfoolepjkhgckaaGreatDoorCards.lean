/-
  DERIVED. GIVEN WITH THE SEED: THE CARDS: each row of YtfoolepjkhgckaaGreatDoorRows.lean that lists a variable, with what it lists TIED to the program's text (the seventh form; the later family's looks); each row that meets fmt, with fmt's text TOLD by the authors' own Lean function (tested against real Go, not proved from fmt's source: count such statements apart). THE CARD IS WHAT COUNTS. Prove the row's statement (the work); the ties are given (YtfoolepjkhgckaaGreatDoorTie.lean); close each card by the builder's one call (the guide's Derived/Test/ToyasCard.lean, 'card_holds'). Laid BY PROGRAM, IN A SANDBOX (cutbox-door.mjs). By AI agents, Wed Nov 11 2026. No macro, syntax, notation, axiom, sorry.
-/
import Derived.Test.YtfoolepjkhgckaaGreatDoorRows
import GoSem.ClaimSeven
namespace Go.Proofs.YtfoolepjkhgckaaGreatDoor
namespace Rows

/-- THE TIED CARD OF 'bushellaw01.MeasureWaters'. -/
def measureWatersCard : Claim7 := { stood := { row := measureWatersRow, standIns := [], harness := (true, "38ac3af1485984db662e282a142c91a6782fb21d6648874ba9dab97b890f7ce2"), looks := true }, kinds := [], alts := [], laidByText := true, laidKinds := [.data, .data, .data, .data, .sentinel, .sentinel, .pinned], laidTests := true, laidLooks := .later }
def MeasureWatersCardSaid : Prop := Claim7.holds Tryz.pinned (.plain (OpenSpec.ofChange measureWatersSpec)) measureWatersCard

/-- THE TIED CARD OF 'bushellaw01.MeasureDried'. -/
def measureDriedCard : Claim7 := { stood := { row := measureDriedRow, standIns := [], harness := (true, "38ac3af1485984db662e282a142c91a6782fb21d6648874ba9dab97b890f7ce2"), looks := true }, kinds := [], alts := [], laidByText := true, laidKinds := [.data, .data, .data, .data, .sentinel, .sentinel, .pinned], laidTests := true, laidLooks := .later }
def MeasureDriedCardSaid : Prop := Claim7.holds Tryz.pinned (.plain (OpenSpec.ofChange measureDriedSpec)) measureDriedCard

/-- THE TIED CARD OF 'bushellaw01.MeasureRounds'. -/
def measureRoundsCard : Claim7 := { stood := { row := measureRoundsRow, standIns := [], harness := (true, "38ac3af1485984db662e282a142c91a6782fb21d6648874ba9dab97b890f7ce2"), looks := true }, kinds := [], alts := [], laidByText := true, laidKinds := [.data, .data, .data, .data, .sentinel, .sentinel, .pinned], laidTests := true, laidLooks := .later }
def MeasureRoundsCardSaid : Prop := Claim7.holds Tryz.pinned (.plain (OpenSpec.ofChange measureRoundsSpec)) measureRoundsCard

/-- THE TIED CARD OF 'bushellaw01.MeasureSpans'. -/
def measureSpansCard : Claim7 := { stood := { row := measureSpansRow, standIns := [], harness := (true, "38ac3af1485984db662e282a142c91a6782fb21d6648874ba9dab97b890f7ce2"), looks := true }, kinds := [], alts := [], laidByText := true, laidKinds := [.data, .data, .data, .data, .sentinel, .sentinel, .pinned], laidTests := true, laidLooks := .later }
def MeasureSpansCardSaid : Prop := Claim7.holds Tryz.pinned (.plain (OpenSpec.ofChange measureSpansSpec)) measureSpansCard

/-- THE TIED CARD OF 'bushellaw01.MeasureNumbers'. -/
def measureNumbersCard : Claim7 := { stood := { row := measureNumbersRow, standIns := [], harness := (true, "38ac3af1485984db662e282a142c91a6782fb21d6648874ba9dab97b890f7ce2"), looks := true }, kinds := [], alts := [], laidByText := true, laidKinds := [.data, .data, .data, .data, .sentinel, .sentinel, .pinned], laidTests := true, laidLooks := .later }
def MeasureNumbersCardSaid : Prop := Claim7.holds Tryz.pinned (.plain (OpenSpec.ofChange measureNumbersSpec)) measureNumbersCard

/-- THE SECOND FORM's CARD OF 'bushellaw01.MeasureWaters'. -/
def measureWatersUptoCard : Claim7 := { stood := { row := measureWatersUptoRow, standIns := [], harness := (true, "38ac3af1485984db662e282a142c91a6782fb21d6648874ba9dab97b890f7ce2"), looks := true }, kinds := [], alts := [], laidByText := true, laidKinds := [.data, .data, .data, .data, .sentinel, .sentinel, .pinned], laidTests := true, laidLooks := .later }
def MeasureWatersUptoCardSaid : Prop := Claim7.holds Tryz.pinned (.plain (OpenSpec.upto measureWatersSpec)) measureWatersUptoCard

/-- THE SECOND FORM's CARD OF 'bushellaw01.MeasureDried'. -/
def measureDriedUptoCard : Claim7 := { stood := { row := measureDriedUptoRow, standIns := [], harness := (true, "38ac3af1485984db662e282a142c91a6782fb21d6648874ba9dab97b890f7ce2"), looks := true }, kinds := [], alts := [], laidByText := true, laidKinds := [.data, .data, .data, .data, .sentinel, .sentinel, .pinned], laidTests := true, laidLooks := .later }
def MeasureDriedUptoCardSaid : Prop := Claim7.holds Tryz.pinned (.plain (OpenSpec.upto measureDriedSpec)) measureDriedUptoCard

/-- THE SECOND FORM's CARD OF 'bushellaw01.MeasureRounds'. -/
def measureRoundsUptoCard : Claim7 := { stood := { row := measureRoundsUptoRow, standIns := [], harness := (true, "38ac3af1485984db662e282a142c91a6782fb21d6648874ba9dab97b890f7ce2"), looks := true }, kinds := [], alts := [], laidByText := true, laidKinds := [.data, .data, .data, .data, .sentinel, .sentinel, .pinned], laidTests := true, laidLooks := .later }
def MeasureRoundsUptoCardSaid : Prop := Claim7.holds Tryz.pinned (.plain (OpenSpec.upto measureRoundsSpec)) measureRoundsUptoCard

/-- THE SECOND FORM's CARD OF 'bushellaw01.MeasureSpans'. -/
def measureSpansUptoCard : Claim7 := { stood := { row := measureSpansUptoRow, standIns := [], harness := (true, "38ac3af1485984db662e282a142c91a6782fb21d6648874ba9dab97b890f7ce2"), looks := true }, kinds := [], alts := [], laidByText := true, laidKinds := [.data, .data, .data, .data, .sentinel, .sentinel, .pinned], laidTests := true, laidLooks := .later }
def MeasureSpansUptoCardSaid : Prop := Claim7.holds Tryz.pinned (.plain (OpenSpec.upto measureSpansSpec)) measureSpansUptoCard

/-- THE SECOND FORM's CARD OF 'bushellaw01.MeasureNumbers'. -/
def measureNumbersUptoCard : Claim7 := { stood := { row := measureNumbersUptoRow, standIns := [], harness := (true, "38ac3af1485984db662e282a142c91a6782fb21d6648874ba9dab97b890f7ce2"), looks := true }, kinds := [], alts := [], laidByText := true, laidKinds := [.data, .data, .data, .data, .sentinel, .sentinel, .pinned], laidTests := true, laidLooks := .later }
def MeasureNumbersUptoCardSaid : Prop := Claim7.holds Tryz.pinned (.plain (OpenSpec.upto measureNumbersSpec)) measureNumbersUptoCard
end Rows
end Go.Proofs.YtfoolepjkhgckaaGreatDoor
