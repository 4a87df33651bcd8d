/-
  DERIVED. GIVEN WITH THE SEED: THE CARDS: each row of YtpkgpohjmcoplaaDoorRows.lean that lists a variable, with what it lists TIED to the program's text (the seventh form; the later family's looks); each row that meets fmt, with fmt's text TOLD by the authors' own Lean function (tested against real Go, not proved from fmt's source: count such statements apart). THE CARD IS WHAT COUNTS. Prove the row's statement (the work); the ties are given (YtpkgpohjmcoplaaDoorTie.lean); close each card by the builder's one call (the guide's Derived/Test/ToyasCard.lean, 'card_holds'). Laid BY PROGRAM, IN A SANDBOX (cutbox-door.mjs). By AI agents, Wed Nov 11 2026. No macro, syntax, notation, axiom, sorry.
-/
import Derived.Test.YtpkgpohjmcoplaaDoorRows
import GoSem.ClaimSeven
namespace Go.Proofs.YtpkgpohjmcoplaaDoor
namespace Rows

/-- THE TIED CARD OF 'ephemerislaw1.ForecastChecks'. -/
def forecastChecksCard : Claim7 := { stood := { row := forecastChecksRow, standIns := [], harness := (true, "107b1cd5ca78485aaa7277c7841d5fc0babfdcb0278f5548c187a0ea065f2358"), looks := false }, kinds := [], alts := [], laidByText := true, laidKinds := [.data, .pinned], laidTests := true, laidLooks := .later }
def ForecastChecksCardSaid : Prop := Claim7.holds Tryd.pinned (.plain (OpenSpec.ofChange forecastChecksSpec)) forecastChecksCard

/-- THE TIED CARD OF 'ephemerislaw1.NumeralWrites'. -/
def numeralWritesCard : Claim7 := { stood := { row := numeralWritesRow, standIns := [], harness := (true, "107b1cd5ca78485aaa7277c7841d5fc0babfdcb0278f5548c187a0ea065f2358"), looks := false }, kinds := [], alts := [], laidByText := true, laidKinds := [.data, .data, .data, .data, .data, .data, .data, .data], laidTests := true, laidLooks := .later }
def NumeralWritesCardSaid : Prop := Claim7.holds Tryd.pinned (.plain (OpenSpec.ofChange numeralWritesSpec)) numeralWritesCard

/-- THE TIED CARD OF 'ephemerislaw1.ZoneChecks'. -/
def zoneChecksCard : Claim7 := { stood := { row := zoneChecksRow, standIns := [], harness := (true, "107b1cd5ca78485aaa7277c7841d5fc0babfdcb0278f5548c187a0ea065f2358"), looks := false }, kinds := [], alts := [], laidByText := true, laidKinds := [.data, .pinned], laidTests := true, laidLooks := .later }
def ZoneChecksCardSaid : Prop := Claim7.holds Tryd.pinned (.plain (OpenSpec.ofChange zoneChecksSpec)) zoneChecksCard

/-- THE TIED CARD OF 'ephemerislaw1.ZonetextDiffs'. -/
def zonetextDiffsCard : Claim7 := { stood := { row := zonetextDiffsRow, standIns := [], harness := (true, "107b1cd5ca78485aaa7277c7841d5fc0babfdcb0278f5548c187a0ea065f2358"), looks := false }, kinds := [], alts := [], laidByText := true, laidKinds := [.data, .pinned], laidTests := true, laidLooks := .later }
def ZonetextDiffsCardSaid : Prop := Claim7.holds Tryd.pinned (.plain (OpenSpec.ofChange zonetextDiffsSpec)) zonetextDiffsCard

/-- THE TIED CARD OF 'ephemerislaw1.ZoneLocals'. -/
def zoneLocalsCard : Claim7 := { stood := { row := zoneLocalsRow, standIns := [], harness := (true, "107b1cd5ca78485aaa7277c7841d5fc0babfdcb0278f5548c187a0ea065f2358"), looks := false }, kinds := [], alts := [], laidByText := true, laidKinds := [.data, .pinned], laidTests := true, laidLooks := .later }
def ZoneLocalsCardSaid : Prop := Claim7.holds Tryd.pinned (.plain (OpenSpec.ofChange zoneLocalsSpec)) zoneLocalsCard

/-- THE TIED CARD OF 'ephemerislaw1.ZoneOffsets'. -/
def zoneOffsetsCard : Claim7 := { stood := { row := zoneOffsetsRow, standIns := [], harness := (true, "107b1cd5ca78485aaa7277c7841d5fc0babfdcb0278f5548c187a0ea065f2358"), looks := false }, kinds := [], alts := [], laidByText := true, laidKinds := [.data, .pinned], laidTests := true, laidLooks := .later }
def ZoneOffsetsCardSaid : Prop := Claim7.holds Tryd.pinned (.plain (OpenSpec.ofChange zoneOffsetsSpec)) zoneOffsetsCard

/-- THE TIED CARD OF 'ephemerislaw1.ZoneInstants'. -/
def zoneInstantsCard : Claim7 := { stood := { row := zoneInstantsRow, standIns := [], harness := (true, "107b1cd5ca78485aaa7277c7841d5fc0babfdcb0278f5548c187a0ea065f2358"), looks := false }, kinds := [], alts := [], laidByText := true, laidKinds := [.data, .pinned], laidTests := true, laidLooks := .later }
def ZoneInstantsCardSaid : Prop := Claim7.holds Tryd.pinned (.plain (OpenSpec.ofChange zoneInstantsSpec)) zoneInstantsCard

/-- THE TIED CARD OF 'ephemerislaw1.RulePrints'. -/
def rulePrintsCard : Claim7 := { stood := { row := rulePrintsRow, standIns := [], harness := (true, "107b1cd5ca78485aaa7277c7841d5fc0babfdcb0278f5548c187a0ea065f2358"), looks := false }, kinds := [], alts := [], laidByText := true, laidKinds := [.data, .data, .data, .data, .data, .data], laidTests := true, laidLooks := .later }
def RulePrintsCardSaid : Prop := Claim7.holds Tryd.pinned (.plain (OpenSpec.ofChange rulePrintsSpec)) rulePrintsCard

/-- THE TIED CARD OF 'ephemerislaw1.ForecastYears'. -/
def forecastYearsCard : Claim7 := { stood := { row := forecastYearsRow, standIns := [], harness := (true, "107b1cd5ca78485aaa7277c7841d5fc0babfdcb0278f5548c187a0ea065f2358"), looks := false }, kinds := [], alts := [], laidByText := true, laidKinds := [.data, .pinned], laidTests := true, laidLooks := .later }
def ForecastYearsCardSaid : Prop := Claim7.holds Tryd.pinned (.plain (OpenSpec.ofChange forecastYearsSpec)) forecastYearsCard

/-- THE TIED CARD OF 'ephemerislaw1.PatternChecks'. -/
def patternChecksCard : Claim7 := { stood := { row := patternChecksRow, standIns := [], harness := (true, "107b1cd5ca78485aaa7277c7841d5fc0babfdcb0278f5548c187a0ea065f2358"), looks := false }, kinds := [], alts := [], laidByText := true, laidKinds := [.data], laidTests := true, laidLooks := .later }
def PatternChecksCardSaid : Prop := Claim7.holds Tryd.pinned (.plain (OpenSpec.ofChange patternChecksSpec)) patternChecksCard

/-- THE SECOND FORM's CARD OF 'ephemerislaw1.ForecastChecks'. -/
def forecastChecksUptoCard : Claim7 := { stood := { row := forecastChecksUptoRow, standIns := [], harness := (true, "107b1cd5ca78485aaa7277c7841d5fc0babfdcb0278f5548c187a0ea065f2358"), looks := false }, kinds := [], alts := [], laidByText := true, laidKinds := [.data, .pinned], laidTests := true, laidLooks := .later }
def ForecastChecksUptoCardSaid : Prop := Claim7.holds Tryd.pinned (.plain (OpenSpec.upto forecastChecksSpec)) forecastChecksUptoCard

/-- THE SECOND FORM's CARD OF 'ephemerislaw1.NumeralWrites'. -/
def numeralWritesUptoCard : Claim7 := { stood := { row := numeralWritesUptoRow, standIns := [], harness := (true, "107b1cd5ca78485aaa7277c7841d5fc0babfdcb0278f5548c187a0ea065f2358"), looks := false }, kinds := [], alts := [], laidByText := true, laidKinds := [.data, .data, .data, .data, .data, .data, .data, .data], laidTests := true, laidLooks := .later }
def NumeralWritesUptoCardSaid : Prop := Claim7.holds Tryd.pinned (.plain (OpenSpec.upto numeralWritesSpec)) numeralWritesUptoCard

/-- THE SECOND FORM's CARD OF 'ephemerislaw1.ZoneChecks'. -/
def zoneChecksUptoCard : Claim7 := { stood := { row := zoneChecksUptoRow, standIns := [], harness := (true, "107b1cd5ca78485aaa7277c7841d5fc0babfdcb0278f5548c187a0ea065f2358"), looks := false }, kinds := [], alts := [], laidByText := true, laidKinds := [.data, .pinned], laidTests := true, laidLooks := .later }
def ZoneChecksUptoCardSaid : Prop := Claim7.holds Tryd.pinned (.plain (OpenSpec.upto zoneChecksSpec)) zoneChecksUptoCard

/-- THE SECOND FORM's CARD OF 'ephemerislaw1.ZonetextDiffs'. -/
def zonetextDiffsUptoCard : Claim7 := { stood := { row := zonetextDiffsUptoRow, standIns := [], harness := (true, "107b1cd5ca78485aaa7277c7841d5fc0babfdcb0278f5548c187a0ea065f2358"), looks := false }, kinds := [], alts := [], laidByText := true, laidKinds := [.data, .pinned], laidTests := true, laidLooks := .later }
def ZonetextDiffsUptoCardSaid : Prop := Claim7.holds Tryd.pinned (.plain (OpenSpec.upto zonetextDiffsSpec)) zonetextDiffsUptoCard

/-- THE SECOND FORM's CARD OF 'ephemerislaw1.ZoneLocals'. -/
def zoneLocalsUptoCard : Claim7 := { stood := { row := zoneLocalsUptoRow, standIns := [], harness := (true, "107b1cd5ca78485aaa7277c7841d5fc0babfdcb0278f5548c187a0ea065f2358"), looks := false }, kinds := [], alts := [], laidByText := true, laidKinds := [.data, .pinned], laidTests := true, laidLooks := .later }
def ZoneLocalsUptoCardSaid : Prop := Claim7.holds Tryd.pinned (.plain (OpenSpec.upto zoneLocalsSpec)) zoneLocalsUptoCard

/-- THE SECOND FORM's CARD OF 'ephemerislaw1.ZoneOffsets'. -/
def zoneOffsetsUptoCard : Claim7 := { stood := { row := zoneOffsetsUptoRow, standIns := [], harness := (true, "107b1cd5ca78485aaa7277c7841d5fc0babfdcb0278f5548c187a0ea065f2358"), looks := false }, kinds := [], alts := [], laidByText := true, laidKinds := [.data, .pinned], laidTests := true, laidLooks := .later }
def ZoneOffsetsUptoCardSaid : Prop := Claim7.holds Tryd.pinned (.plain (OpenSpec.upto zoneOffsetsSpec)) zoneOffsetsUptoCard

/-- THE SECOND FORM's CARD OF 'ephemerislaw1.ZoneInstants'. -/
def zoneInstantsUptoCard : Claim7 := { stood := { row := zoneInstantsUptoRow, standIns := [], harness := (true, "107b1cd5ca78485aaa7277c7841d5fc0babfdcb0278f5548c187a0ea065f2358"), looks := false }, kinds := [], alts := [], laidByText := true, laidKinds := [.data, .pinned], laidTests := true, laidLooks := .later }
def ZoneInstantsUptoCardSaid : Prop := Claim7.holds Tryd.pinned (.plain (OpenSpec.upto zoneInstantsSpec)) zoneInstantsUptoCard

/-- THE SECOND FORM's CARD OF 'ephemerislaw1.RulePrints'. -/
def rulePrintsUptoCard : Claim7 := { stood := { row := rulePrintsUptoRow, standIns := [], harness := (true, "107b1cd5ca78485aaa7277c7841d5fc0babfdcb0278f5548c187a0ea065f2358"), looks := false }, kinds := [], alts := [], laidByText := true, laidKinds := [.data, .data, .data, .data, .data, .data], laidTests := true, laidLooks := .later }
def RulePrintsUptoCardSaid : Prop := Claim7.holds Tryd.pinned (.plain (OpenSpec.upto rulePrintsSpec)) rulePrintsUptoCard

/-- THE SECOND FORM's CARD OF 'ephemerislaw1.ForecastYears'. -/
def forecastYearsUptoCard : Claim7 := { stood := { row := forecastYearsUptoRow, standIns := [], harness := (true, "107b1cd5ca78485aaa7277c7841d5fc0babfdcb0278f5548c187a0ea065f2358"), looks := false }, kinds := [], alts := [], laidByText := true, laidKinds := [.data, .pinned], laidTests := true, laidLooks := .later }
def ForecastYearsUptoCardSaid : Prop := Claim7.holds Tryd.pinned (.plain (OpenSpec.upto forecastYearsSpec)) forecastYearsUptoCard

/-- THE SECOND FORM's CARD OF 'ephemerislaw1.PatternChecks'. -/
def patternChecksUptoCard : Claim7 := { stood := { row := patternChecksUptoRow, standIns := [], harness := (true, "107b1cd5ca78485aaa7277c7841d5fc0babfdcb0278f5548c187a0ea065f2358"), looks := false }, kinds := [], alts := [], laidByText := true, laidKinds := [.data], laidTests := true, laidLooks := .later }
def PatternChecksUptoCardSaid : Prop := Claim7.holds Tryd.pinned (.plain (OpenSpec.upto patternChecksSpec)) patternChecksUptoCard
end Rows
end Go.Proofs.YtpkgpohjmcoplaaDoor
