/-
  DERIVED. GIVEN WITH THE SEED: THE CARDS: each row of YtiijhabfdjnmaaaDoorRows.lean that lists a variable, with what it lists TIED to the program's text (the seventh form; the later family's looks); each row that meets fmt, with fmt's text TOLD by the authors' own Lean function (tested against real Go, not proved from fmt's source: count such statements apart). THE CARD IS WHAT COUNTS. Prove the row's statement (the work); the ties are given (YtiijhabfdjnmaaaDoorTie.lean); close each card by the builder's one call (the guide's Derived/Test/ToyasCard.lean, 'card_holds'). Laid BY PROGRAM, IN A SANDBOX (cutbox-door.mjs). By AI agents, Wed Nov 11 2026. No macro, syntax, notation, axiom, sorry.
-/
import Derived.Test.YtiijhabfdjnmaaaDoorRows
import GoSem.ClaimSeven
namespace Go.Proofs.YtiijhabfdjnmaaaDoor
namespace Rows

/-- THE TIED CARD OF 'ephemerislaw1.RecurTexts'. -/
def recurTextsCard : Claim7 := { stood := { row := recurTextsRow, standIns := [], harness := (true, "fb3ec01df522bc53a7cf9bb089993aa7b0fa881977e3c9afc1696c8710403537"), looks := true }, kinds := [], alts := [], laidByText := true, laidKinds := [.data, .data, .data, .data, .sentinel, .sentinel, .pinned], laidTests := true, laidLooks := .later }
def RecurTextsCardSaid : Prop := Claim7.holds Tryd.pinned (.plain (OpenSpec.ofChange recurTextsSpec)) recurTextsCard

/-- THE TIED CARD OF 'ephemerislaw1.NumeralReads'. -/
def numeralReadsCard : Claim7 := { stood := { row := numeralReadsRow, standIns := [], harness := (true, "fb3ec01df522bc53a7cf9bb089993aa7b0fa881977e3c9afc1696c8710403537"), looks := true }, kinds := [], alts := [], laidByText := true, laidKinds := [.data, .data, .data, .sentinel, .sentinel, .data, .data, .data, .data, .data], laidTests := true, laidLooks := .later }
def NumeralReadsCardSaid : Prop := Claim7.holds Tryd.pinned (.plain (OpenSpec.ofChange numeralReadsSpec)) numeralReadsCard

/-- THE TIED CARD OF 'ephemerislaw1.RulePrints'. -/
def rulePrintsCard : Claim7 := { stood := { row := rulePrintsRow, standIns := [], harness := (true, "fb3ec01df522bc53a7cf9bb089993aa7b0fa881977e3c9afc1696c8710403537"), looks := true }, kinds := [], alts := [], laidByText := true, laidKinds := [.data, .data, .data, .data, .data, .data], laidTests := true, laidLooks := .later }
def RulePrintsCardSaid : Prop := Claim7.holds Tryd.pinned (.plain (OpenSpec.ofChange rulePrintsSpec)) rulePrintsCard

/-- THE TIED CARD OF 'ephemerislaw1.ZonetextApplies'. -/
def zonetextAppliesCard : Claim7 := { stood := { row := zonetextAppliesRow, standIns := [], harness := (true, "fb3ec01df522bc53a7cf9bb089993aa7b0fa881977e3c9afc1696c8710403537"), looks := true }, kinds := [], alts := [], laidByText := true, laidKinds := [.data, .pinned], laidTests := true, laidLooks := .later }
def ZonetextAppliesCardSaid : Prop := Claim7.holds Tryd.pinned (.plain (OpenSpec.ofChange zonetextAppliesSpec)) zonetextAppliesCard

/-- THE TIED CARD OF 'ephemerislaw1.FeastChecks'. -/
def feastChecksCard : Claim7 := { stood := { row := feastChecksRow, standIns := [], harness := (true, "fb3ec01df522bc53a7cf9bb089993aa7b0fa881977e3c9afc1696c8710403537"), looks := true }, kinds := [], alts := [], laidByText := true, laidKinds := [.data, .listed, .data, .data, .pinned], laidTests := true, laidLooks := .later }
def FeastChecksCardSaid : Prop := Claim7.holds Tryd.pinned (.plain (OpenSpec.ofChange feastChecksSpec)) feastChecksCard

/-- THE TIED CARD OF 'ephemerislaw1.CatalogTexts'. -/
def catalogTextsCard : Claim7 := { stood := { row := catalogTextsRow, standIns := [], harness := (true, "fb3ec01df522bc53a7cf9bb089993aa7b0fa881977e3c9afc1696c8710403537"), looks := true }, kinds := [], alts := [], laidByText := true, laidKinds := [.data, .data, .data, .data, .listed, .data, .pinned], laidTests := true, laidLooks := .later }
def CatalogTextsCardSaid : Prop := Claim7.holds Tryd.pinned (.plain (OpenSpec.ofChange catalogTextsSpec)) catalogTextsCard

/-- THE TIED CARD OF 'ephemerislaw1.FeastPrints'. -/
def feastPrintsCard : Claim7 := { stood := { row := feastPrintsRow, standIns := [], harness := (true, "fb3ec01df522bc53a7cf9bb089993aa7b0fa881977e3c9afc1696c8710403537"), looks := true }, kinds := [], alts := [], laidByText := true, laidKinds := [.data, .data, .data, .data, .listed, .data, .data, .data, .pinned], laidTests := true, laidLooks := .later }
def FeastPrintsCardSaid : Prop := Claim7.holds Tryd.pinned (.plain (OpenSpec.ofChange feastPrintsSpec)) feastPrintsCard

/-- THE SECOND FORM's CARD OF 'ephemerislaw1.RecurTexts'. -/
def recurTextsUptoCard : Claim7 := { stood := { row := recurTextsUptoRow, standIns := [], harness := (true, "fb3ec01df522bc53a7cf9bb089993aa7b0fa881977e3c9afc1696c8710403537"), looks := true }, kinds := [], alts := [], laidByText := true, laidKinds := [.data, .data, .data, .data, .sentinel, .sentinel, .pinned], laidTests := true, laidLooks := .later }
def RecurTextsUptoCardSaid : Prop := Claim7.holds Tryd.pinned (.plain (OpenSpec.upto recurTextsSpec)) recurTextsUptoCard

/-- THE SECOND FORM's CARD OF 'ephemerislaw1.NumeralReads'. -/
def numeralReadsUptoCard : Claim7 := { stood := { row := numeralReadsUptoRow, standIns := [], harness := (true, "fb3ec01df522bc53a7cf9bb089993aa7b0fa881977e3c9afc1696c8710403537"), looks := true }, kinds := [], alts := [], laidByText := true, laidKinds := [.data, .data, .data, .sentinel, .sentinel, .data, .data, .data, .data, .data], laidTests := true, laidLooks := .later }
def NumeralReadsUptoCardSaid : Prop := Claim7.holds Tryd.pinned (.plain (OpenSpec.upto numeralReadsSpec)) numeralReadsUptoCard

/-- THE SECOND FORM's CARD OF 'ephemerislaw1.RulePrints'. -/
def rulePrintsUptoCard : Claim7 := { stood := { row := rulePrintsUptoRow, standIns := [], harness := (true, "fb3ec01df522bc53a7cf9bb089993aa7b0fa881977e3c9afc1696c8710403537"), looks := true }, kinds := [], alts := [], laidByText := true, laidKinds := [.data, .data, .data, .data, .data, .data], laidTests := true, laidLooks := .later }
def RulePrintsUptoCardSaid : Prop := Claim7.holds Tryd.pinned (.plain (OpenSpec.upto rulePrintsSpec)) rulePrintsUptoCard

/-- THE SECOND FORM's CARD OF 'ephemerislaw1.ZonetextApplies'. -/
def zonetextAppliesUptoCard : Claim7 := { stood := { row := zonetextAppliesUptoRow, standIns := [], harness := (true, "fb3ec01df522bc53a7cf9bb089993aa7b0fa881977e3c9afc1696c8710403537"), looks := true }, kinds := [], alts := [], laidByText := true, laidKinds := [.data, .pinned], laidTests := true, laidLooks := .later }
def ZonetextAppliesUptoCardSaid : Prop := Claim7.holds Tryd.pinned (.plain (OpenSpec.upto zonetextAppliesSpec)) zonetextAppliesUptoCard

/-- THE SECOND FORM's CARD OF 'ephemerislaw1.FeastChecks'. -/
def feastChecksUptoCard : Claim7 := { stood := { row := feastChecksUptoRow, standIns := [], harness := (true, "fb3ec01df522bc53a7cf9bb089993aa7b0fa881977e3c9afc1696c8710403537"), looks := true }, kinds := [], alts := [], laidByText := true, laidKinds := [.data, .listed, .data, .data, .pinned], laidTests := true, laidLooks := .later }
def FeastChecksUptoCardSaid : Prop := Claim7.holds Tryd.pinned (.plain (OpenSpec.upto feastChecksSpec)) feastChecksUptoCard

/-- THE SECOND FORM's CARD OF 'ephemerislaw1.CatalogTexts'. -/
def catalogTextsUptoCard : Claim7 := { stood := { row := catalogTextsUptoRow, standIns := [], harness := (true, "fb3ec01df522bc53a7cf9bb089993aa7b0fa881977e3c9afc1696c8710403537"), looks := true }, kinds := [], alts := [], laidByText := true, laidKinds := [.data, .data, .data, .data, .listed, .data, .pinned], laidTests := true, laidLooks := .later }
def CatalogTextsUptoCardSaid : Prop := Claim7.holds Tryd.pinned (.plain (OpenSpec.upto catalogTextsSpec)) catalogTextsUptoCard

/-- THE SECOND FORM's CARD OF 'ephemerislaw1.FeastPrints'. -/
def feastPrintsUptoCard : Claim7 := { stood := { row := feastPrintsUptoRow, standIns := [], harness := (true, "fb3ec01df522bc53a7cf9bb089993aa7b0fa881977e3c9afc1696c8710403537"), looks := true }, kinds := [], alts := [], laidByText := true, laidKinds := [.data, .data, .data, .data, .listed, .data, .data, .data, .pinned], laidTests := true, laidLooks := .later }
def FeastPrintsUptoCardSaid : Prop := Claim7.holds Tryd.pinned (.plain (OpenSpec.upto feastPrintsSpec)) feastPrintsUptoCard
end Rows
end Go.Proofs.YtiijhabfdjnmaaaDoor
