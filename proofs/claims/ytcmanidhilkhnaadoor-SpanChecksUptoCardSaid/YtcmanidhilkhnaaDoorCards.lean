/-
  DERIVED. GIVEN WITH THE SEED: THE CARDS: each row of YtcmanidhilkhnaaDoorRows.lean that lists a variable, with what it lists TIED to the program's text (the seventh form; the later family's looks); each row that meets fmt, with fmt's text TOLD by the authors' own Lean function (tested against real Go, not proved from fmt's source: count such statements apart). THE CARD IS WHAT COUNTS. Prove the row's statement (the work); the ties are given (YtcmanidhilkhnaaDoorTie.lean); close each card by the builder's one call (the guide's Derived/Test/ToyasCard.lean, 'card_holds'). Laid BY PROGRAM, IN A SANDBOX (cutbox-door.mjs). By AI agents, Wed Nov 11 2026. No macro, syntax, notation, axiom, sorry.
-/
import Derived.Test.YtcmanidhilkhnaaDoorRows
import GoSem.ClaimSeven
namespace Go.Proofs.YtcmanidhilkhnaaDoor
namespace Rows

/-- THE TIED CARD OF 'ephemerislaw1.PatternChecks'. -/
def patternChecksCard : Claim7 := { stood := { row := patternChecksRow, standIns := [], harness := (true, "38314187aaf6b5ec3f515b9a9886a0ef24638fef8079173373d06d77ba7c38b8"), looks := true }, kinds := [], alts := [], laidByText := true, laidKinds := [.data], laidTests := true, laidLooks := .later }
def PatternChecksCardSaid : Prop := Claim7.holds Tryd.pinned (.plain (OpenSpec.ofChange patternChecksSpec)) patternChecksCard

/-- THE TIED CARD OF 'ephemerislaw1.NumeralWrites'. -/
def numeralWritesCard : Claim7 := { stood := { row := numeralWritesRow, standIns := [], harness := (true, "38314187aaf6b5ec3f515b9a9886a0ef24638fef8079173373d06d77ba7c38b8"), looks := true }, kinds := [], alts := [], laidByText := true, laidKinds := [.data, .data, .data, .data, .data, .data, .data, .data], laidTests := true, laidLooks := .later }
def NumeralWritesCardSaid : Prop := Claim7.holds Tryd.pinned (.plain (OpenSpec.ofChange numeralWritesSpec)) numeralWritesCard

/-- THE TIED CARD OF 'ephemerislaw1.NumeralPads'. -/
def numeralPadsCard : Claim7 := { stood := { row := numeralPadsRow, standIns := [], harness := (true, "38314187aaf6b5ec3f515b9a9886a0ef24638fef8079173373d06d77ba7c38b8"), looks := true }, kinds := [], alts := [], laidByText := true, laidKinds := [.data, .data, .data, .data], laidTests := true, laidLooks := .later }
def NumeralPadsCardSaid : Prop := Claim7.holds Tryd.pinned (.plain (OpenSpec.ofChange numeralPadsSpec)) numeralPadsCard

/-- THE TIED CARD OF 'ephemerislaw1.NumeralReads'. -/
def numeralReadsCard : Claim7 := { stood := { row := numeralReadsRow, standIns := [], harness := (true, "38314187aaf6b5ec3f515b9a9886a0ef24638fef8079173373d06d77ba7c38b8"), looks := true }, kinds := [], alts := [], laidByText := true, laidKinds := [.data, .data, .data, .sentinel, .sentinel, .data, .data, .data, .data, .data], laidTests := true, laidLooks := .later }
def NumeralReadsCardSaid : Prop := Claim7.holds Tryd.pinned (.plain (OpenSpec.ofChange numeralReadsSpec)) numeralReadsCard

/-- THE TIED CARD OF 'ephemerislaw1.SpanChecks'. -/
def spanChecksCard : Claim7 := { stood := { row := spanChecksRow, standIns := [], harness := (true, "38314187aaf6b5ec3f515b9a9886a0ef24638fef8079173373d06d77ba7c38b8"), looks := true }, kinds := [], alts := [], laidByText := true, laidKinds := [.data, .data, .data, .data, .sentinel, .sentinel, .pinned], laidTests := true, laidLooks := .later }
def SpanChecksCardSaid : Prop := Claim7.holds Tryd.pinned (.plain (OpenSpec.ofChange spanChecksSpec)) spanChecksCard

/-- THE TIED CARD OF 'ephemerislaw1.RecurTexts'. -/
def recurTextsCard : Claim7 := { stood := { row := recurTextsRow, standIns := [], harness := (true, "38314187aaf6b5ec3f515b9a9886a0ef24638fef8079173373d06d77ba7c38b8"), looks := true }, kinds := [], alts := [], laidByText := true, laidKinds := [.data, .data, .data, .data, .sentinel, .sentinel, .pinned], laidTests := true, laidLooks := .later }
def RecurTextsCardSaid : Prop := Claim7.holds Tryd.pinned (.plain (OpenSpec.ofChange recurTextsSpec)) recurTextsCard

/-- THE TIED CARD OF 'ephemerislaw1.ZonetextApplies'. -/
def zonetextAppliesCard : Claim7 := { stood := { row := zonetextAppliesRow, standIns := [], harness := (true, "38314187aaf6b5ec3f515b9a9886a0ef24638fef8079173373d06d77ba7c38b8"), looks := true }, kinds := [], alts := [], laidByText := true, laidKinds := [.data, .pinned], laidTests := true, laidLooks := .later }
def ZonetextAppliesCardSaid : Prop := Claim7.holds Tryd.pinned (.plain (OpenSpec.ofChange zonetextAppliesSpec)) zonetextAppliesCard

/-- THE TIED CARD OF 'ephemerislaw1.RulePrints'. -/
def rulePrintsCard : Claim7 := { stood := { row := rulePrintsRow, standIns := [], harness := (true, "38314187aaf6b5ec3f515b9a9886a0ef24638fef8079173373d06d77ba7c38b8"), looks := true }, kinds := [], alts := [], laidByText := true, laidKinds := [.data, .data, .data, .data, .data, .data], laidTests := true, laidLooks := .later }
def RulePrintsCardSaid : Prop := Claim7.holds Tryd.pinned (.plain (OpenSpec.ofChange rulePrintsSpec)) rulePrintsCard

/-- THE SECOND FORM's CARD OF 'ephemerislaw1.PatternChecks'. -/
def patternChecksUptoCard : Claim7 := { stood := { row := patternChecksUptoRow, standIns := [], harness := (true, "38314187aaf6b5ec3f515b9a9886a0ef24638fef8079173373d06d77ba7c38b8"), looks := true }, kinds := [], alts := [], laidByText := true, laidKinds := [.data], laidTests := true, laidLooks := .later }
def PatternChecksUptoCardSaid : Prop := Claim7.holds Tryd.pinned (.plain (OpenSpec.upto patternChecksSpec)) patternChecksUptoCard

/-- THE SECOND FORM's CARD OF 'ephemerislaw1.NumeralWrites'. -/
def numeralWritesUptoCard : Claim7 := { stood := { row := numeralWritesUptoRow, standIns := [], harness := (true, "38314187aaf6b5ec3f515b9a9886a0ef24638fef8079173373d06d77ba7c38b8"), looks := true }, kinds := [], alts := [], laidByText := true, laidKinds := [.data, .data, .data, .data, .data, .data, .data, .data], laidTests := true, laidLooks := .later }
def NumeralWritesUptoCardSaid : Prop := Claim7.holds Tryd.pinned (.plain (OpenSpec.upto numeralWritesSpec)) numeralWritesUptoCard

/-- THE SECOND FORM's CARD OF 'ephemerislaw1.NumeralPads'. -/
def numeralPadsUptoCard : Claim7 := { stood := { row := numeralPadsUptoRow, standIns := [], harness := (true, "38314187aaf6b5ec3f515b9a9886a0ef24638fef8079173373d06d77ba7c38b8"), looks := true }, kinds := [], alts := [], laidByText := true, laidKinds := [.data, .data, .data, .data], laidTests := true, laidLooks := .later }
def NumeralPadsUptoCardSaid : Prop := Claim7.holds Tryd.pinned (.plain (OpenSpec.upto numeralPadsSpec)) numeralPadsUptoCard

/-- THE SECOND FORM's CARD OF 'ephemerislaw1.NumeralReads'. -/
def numeralReadsUptoCard : Claim7 := { stood := { row := numeralReadsUptoRow, standIns := [], harness := (true, "38314187aaf6b5ec3f515b9a9886a0ef24638fef8079173373d06d77ba7c38b8"), looks := true }, kinds := [], alts := [], laidByText := true, laidKinds := [.data, .data, .data, .sentinel, .sentinel, .data, .data, .data, .data, .data], laidTests := true, laidLooks := .later }
def NumeralReadsUptoCardSaid : Prop := Claim7.holds Tryd.pinned (.plain (OpenSpec.upto numeralReadsSpec)) numeralReadsUptoCard

/-- THE SECOND FORM's CARD OF 'ephemerislaw1.SpanChecks'. -/
def spanChecksUptoCard : Claim7 := { stood := { row := spanChecksUptoRow, standIns := [], harness := (true, "38314187aaf6b5ec3f515b9a9886a0ef24638fef8079173373d06d77ba7c38b8"), looks := true }, kinds := [], alts := [], laidByText := true, laidKinds := [.data, .data, .data, .data, .sentinel, .sentinel, .pinned], laidTests := true, laidLooks := .later }
def SpanChecksUptoCardSaid : Prop := Claim7.holds Tryd.pinned (.plain (OpenSpec.upto spanChecksSpec)) spanChecksUptoCard

/-- THE SECOND FORM's CARD OF 'ephemerislaw1.RecurTexts'. -/
def recurTextsUptoCard : Claim7 := { stood := { row := recurTextsUptoRow, standIns := [], harness := (true, "38314187aaf6b5ec3f515b9a9886a0ef24638fef8079173373d06d77ba7c38b8"), looks := true }, kinds := [], alts := [], laidByText := true, laidKinds := [.data, .data, .data, .data, .sentinel, .sentinel, .pinned], laidTests := true, laidLooks := .later }
def RecurTextsUptoCardSaid : Prop := Claim7.holds Tryd.pinned (.plain (OpenSpec.upto recurTextsSpec)) recurTextsUptoCard

/-- THE SECOND FORM's CARD OF 'ephemerislaw1.ZonetextApplies'. -/
def zonetextAppliesUptoCard : Claim7 := { stood := { row := zonetextAppliesUptoRow, standIns := [], harness := (true, "38314187aaf6b5ec3f515b9a9886a0ef24638fef8079173373d06d77ba7c38b8"), looks := true }, kinds := [], alts := [], laidByText := true, laidKinds := [.data, .pinned], laidTests := true, laidLooks := .later }
def ZonetextAppliesUptoCardSaid : Prop := Claim7.holds Tryd.pinned (.plain (OpenSpec.upto zonetextAppliesSpec)) zonetextAppliesUptoCard

/-- THE SECOND FORM's CARD OF 'ephemerislaw1.RulePrints'. -/
def rulePrintsUptoCard : Claim7 := { stood := { row := rulePrintsUptoRow, standIns := [], harness := (true, "38314187aaf6b5ec3f515b9a9886a0ef24638fef8079173373d06d77ba7c38b8"), looks := true }, kinds := [], alts := [], laidByText := true, laidKinds := [.data, .data, .data, .data, .data, .data], laidTests := true, laidLooks := .later }
def RulePrintsUptoCardSaid : Prop := Claim7.holds Tryd.pinned (.plain (OpenSpec.upto rulePrintsSpec)) rulePrintsUptoCard
end Rows
end Go.Proofs.YtcmanidhilkhnaaDoor
