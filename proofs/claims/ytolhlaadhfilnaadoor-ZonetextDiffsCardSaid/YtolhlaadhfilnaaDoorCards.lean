/-
  DERIVED. GIVEN WITH THE SEED: THE CARDS: each row of YtolhlaadhfilnaaDoorRows.lean that lists a variable, with what it lists TIED to the program's text (the seventh form; the later family's looks); each row that meets fmt, with fmt's text TOLD by the authors' own Lean function (tested against real Go, not proved from fmt's source: count such statements apart). THE CARD IS WHAT COUNTS. Prove the row's statement (the work); the ties are given (YtolhlaadhfilnaaDoorTie.lean); close each card by the builder's one call (the guide's Derived/Test/ToyasCard.lean, 'card_holds'). Laid BY PROGRAM, IN A SANDBOX (cutbox-door.mjs). By AI agents, Wed Nov 11 2026. No macro, syntax, notation, axiom, sorry.
-/
import Derived.Test.YtolhlaadhfilnaaDoorRows
import GoSem.ClaimSeven
namespace Go.Proofs.YtolhlaadhfilnaaDoor
namespace Rows

/-- THE TIED CARD OF 'ephemerislaw1.ZoneInstants'. -/
def zoneInstantsCard : Claim7 := { stood := { row := zoneInstantsRow, standIns := [], harness := (true, "5fd0661532a3fe7e4aade94f91e9c8e175056ac86f69ab761ed09e5e5e424509"), looks := false }, kinds := [], alts := [], laidByText := true, laidKinds := [.data, .pinned], laidTests := true, laidLooks := .later }
def ZoneInstantsCardSaid : Prop := Claim7.holds Tryd.pinned (.plain (OpenSpec.ofChange zoneInstantsSpec)) zoneInstantsCard

/-- THE TIED CARD OF 'ephemerislaw1.ForecastExtends'. -/
def forecastExtendsCard : Claim7 := { stood := { row := forecastExtendsRow, standIns := [], harness := (true, "5fd0661532a3fe7e4aade94f91e9c8e175056ac86f69ab761ed09e5e5e424509"), looks := false }, kinds := [], alts := [], laidByText := true, laidKinds := [.data, .pinned], laidTests := true, laidLooks := .later }
def ForecastExtendsCardSaid : Prop := Claim7.holds Tryd.pinned (.plain (OpenSpec.ofChange forecastExtendsSpec)) forecastExtendsCard

/-- THE TIED CARD OF 'ephemerislaw1.BureauTexts'. -/
def bureauTextsCard : Claim7 := { stood := { row := bureauTextsRow, standIns := [], harness := (true, "5fd0661532a3fe7e4aade94f91e9c8e175056ac86f69ab761ed09e5e5e424509"), looks := false }, kinds := [], alts := [], laidByText := true, laidKinds := [.data, .data, .data, .data, .pinned], laidTests := true, laidLooks := .later }
def BureauTextsCardSaid : Prop := Claim7.holds Tryd.pinned (.plain (OpenSpec.ofChange bureauTextsSpec)) bureauTextsCard

/-- THE TIED CARD OF 'ephemerislaw1.ZonetextDiffs'. -/
def zonetextDiffsCard : Claim7 := { stood := { row := zonetextDiffsRow, standIns := [], harness := (true, "5fd0661532a3fe7e4aade94f91e9c8e175056ac86f69ab761ed09e5e5e424509"), looks := false }, kinds := [], alts := [], laidByText := true, laidKinds := [.data, .pinned], laidTests := true, laidLooks := .later }
def ZonetextDiffsCardSaid : Prop := Claim7.holds Tryd.pinned (.plain (OpenSpec.ofChange zonetextDiffsSpec)) zonetextDiffsCard

/-- THE TIED CARD OF 'ephemerislaw1.PatternChecks'. -/
def patternChecksCard : Claim7 := { stood := { row := patternChecksRow, standIns := [], harness := (true, "5fd0661532a3fe7e4aade94f91e9c8e175056ac86f69ab761ed09e5e5e424509"), looks := false }, kinds := [], alts := [], laidByText := true, laidKinds := [.data], laidTests := true, laidLooks := .later }
def PatternChecksCardSaid : Prop := Claim7.holds Tryd.pinned (.plain (OpenSpec.ofChange patternChecksSpec)) patternChecksCard

/-- THE TIED CARD OF 'ephemerislaw1.NumeralWrites'. -/
def numeralWritesCard : Claim7 := { stood := { row := numeralWritesRow, standIns := [], harness := (true, "5fd0661532a3fe7e4aade94f91e9c8e175056ac86f69ab761ed09e5e5e424509"), looks := false }, kinds := [], alts := [], laidByText := true, laidKinds := [.data, .data, .data, .data, .data, .data, .data, .data], laidTests := true, laidLooks := .later }
def NumeralWritesCardSaid : Prop := Claim7.holds Tryd.pinned (.plain (OpenSpec.ofChange numeralWritesSpec)) numeralWritesCard

/-- THE TIED CARD OF 'ephemerislaw1.RulePrints'. -/
def rulePrintsCard : Claim7 := { stood := { row := rulePrintsRow, standIns := [], harness := (true, "5fd0661532a3fe7e4aade94f91e9c8e175056ac86f69ab761ed09e5e5e424509"), looks := false }, kinds := [], alts := [], laidByText := true, laidKinds := [.data, .data, .data, .data, .data, .data], laidTests := true, laidLooks := .later }
def RulePrintsCardSaid : Prop := Claim7.holds Tryd.pinned (.plain (OpenSpec.ofChange rulePrintsSpec)) rulePrintsCard

/-- THE SECOND FORM's CARD OF 'ephemerislaw1.ZoneInstants'. -/
def zoneInstantsUptoCard : Claim7 := { stood := { row := zoneInstantsUptoRow, standIns := [], harness := (true, "5fd0661532a3fe7e4aade94f91e9c8e175056ac86f69ab761ed09e5e5e424509"), looks := false }, kinds := [], alts := [], laidByText := true, laidKinds := [.data, .pinned], laidTests := true, laidLooks := .later }
def ZoneInstantsUptoCardSaid : Prop := Claim7.holds Tryd.pinned (.plain (OpenSpec.upto zoneInstantsSpec)) zoneInstantsUptoCard

/-- THE SECOND FORM's CARD OF 'ephemerislaw1.ForecastExtends'. -/
def forecastExtendsUptoCard : Claim7 := { stood := { row := forecastExtendsUptoRow, standIns := [], harness := (true, "5fd0661532a3fe7e4aade94f91e9c8e175056ac86f69ab761ed09e5e5e424509"), looks := false }, kinds := [], alts := [], laidByText := true, laidKinds := [.data, .pinned], laidTests := true, laidLooks := .later }
def ForecastExtendsUptoCardSaid : Prop := Claim7.holds Tryd.pinned (.plain (OpenSpec.upto forecastExtendsSpec)) forecastExtendsUptoCard

/-- THE SECOND FORM's CARD OF 'ephemerislaw1.BureauTexts'. -/
def bureauTextsUptoCard : Claim7 := { stood := { row := bureauTextsUptoRow, standIns := [], harness := (true, "5fd0661532a3fe7e4aade94f91e9c8e175056ac86f69ab761ed09e5e5e424509"), looks := false }, kinds := [], alts := [], laidByText := true, laidKinds := [.data, .data, .data, .data, .pinned], laidTests := true, laidLooks := .later }
def BureauTextsUptoCardSaid : Prop := Claim7.holds Tryd.pinned (.plain (OpenSpec.upto bureauTextsSpec)) bureauTextsUptoCard

/-- THE SECOND FORM's CARD OF 'ephemerislaw1.ZonetextDiffs'. -/
def zonetextDiffsUptoCard : Claim7 := { stood := { row := zonetextDiffsUptoRow, standIns := [], harness := (true, "5fd0661532a3fe7e4aade94f91e9c8e175056ac86f69ab761ed09e5e5e424509"), looks := false }, kinds := [], alts := [], laidByText := true, laidKinds := [.data, .pinned], laidTests := true, laidLooks := .later }
def ZonetextDiffsUptoCardSaid : Prop := Claim7.holds Tryd.pinned (.plain (OpenSpec.upto zonetextDiffsSpec)) zonetextDiffsUptoCard

/-- THE SECOND FORM's CARD OF 'ephemerislaw1.PatternChecks'. -/
def patternChecksUptoCard : Claim7 := { stood := { row := patternChecksUptoRow, standIns := [], harness := (true, "5fd0661532a3fe7e4aade94f91e9c8e175056ac86f69ab761ed09e5e5e424509"), looks := false }, kinds := [], alts := [], laidByText := true, laidKinds := [.data], laidTests := true, laidLooks := .later }
def PatternChecksUptoCardSaid : Prop := Claim7.holds Tryd.pinned (.plain (OpenSpec.upto patternChecksSpec)) patternChecksUptoCard

/-- THE SECOND FORM's CARD OF 'ephemerislaw1.NumeralWrites'. -/
def numeralWritesUptoCard : Claim7 := { stood := { row := numeralWritesUptoRow, standIns := [], harness := (true, "5fd0661532a3fe7e4aade94f91e9c8e175056ac86f69ab761ed09e5e5e424509"), looks := false }, kinds := [], alts := [], laidByText := true, laidKinds := [.data, .data, .data, .data, .data, .data, .data, .data], laidTests := true, laidLooks := .later }
def NumeralWritesUptoCardSaid : Prop := Claim7.holds Tryd.pinned (.plain (OpenSpec.upto numeralWritesSpec)) numeralWritesUptoCard

/-- THE SECOND FORM's CARD OF 'ephemerislaw1.RulePrints'. -/
def rulePrintsUptoCard : Claim7 := { stood := { row := rulePrintsUptoRow, standIns := [], harness := (true, "5fd0661532a3fe7e4aade94f91e9c8e175056ac86f69ab761ed09e5e5e424509"), looks := false }, kinds := [], alts := [], laidByText := true, laidKinds := [.data, .data, .data, .data, .data, .data], laidTests := true, laidLooks := .later }
def RulePrintsUptoCardSaid : Prop := Claim7.holds Tryd.pinned (.plain (OpenSpec.upto rulePrintsSpec)) rulePrintsUptoCard
end Rows
end Go.Proofs.YtolhlaadhfilnaaDoor
