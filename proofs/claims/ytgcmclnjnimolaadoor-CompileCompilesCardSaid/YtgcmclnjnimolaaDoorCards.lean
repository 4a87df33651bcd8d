/-
  DERIVED. GIVEN WITH THE SEED: THE CARDS: each row of YtgcmclnjnimolaaDoorRows.lean that lists a variable, with what it lists TIED to the program's text (the seventh form; the later family's looks); each row that meets fmt, with fmt's text TOLD by the authors' own Lean function (tested against real Go, not proved from fmt's source: count such statements apart). THE CARD IS WHAT COUNTS. Prove the row's statement (the work); the ties are given (YtgcmclnjnimolaaDoorTie.lean); close each card by the builder's one call (the guide's Derived/Test/ToyasCard.lean, 'card_holds'). Laid BY PROGRAM, IN A SANDBOX (cutbox-door.mjs). By AI agents, Wed Nov 11 2026. No macro, syntax, notation, axiom, sorry.
-/
import Derived.Test.YtgcmclnjnimolaaDoorRows
import GoSem.ClaimSeven
namespace Go.Proofs.YtgcmclnjnimolaaDoor
namespace Rows

/-- THE TIED CARD OF 'ephemerislaw1.RuleChecks'. -/
def ruleChecksCard : Claim7 := { stood := { row := ruleChecksRow, standIns := [], harness := (true, "a4eb7e8751c48e72138074469af6cecb74923f58dfa708a65bb0f5397189b90e"), looks := false }, kinds := [], alts := [], laidByText := true, laidKinds := [.data], laidTests := true, laidLooks := .later }
def RuleChecksCardSaid : Prop := Claim7.holds Tryd.pinned (.plain (OpenSpec.ofChange ruleChecksSpec)) ruleChecksCard

/-- THE TIED CARD OF 'ephemerislaw1.RuleEvals'. -/
def ruleEvalsCard : Claim7 := { stood := { row := ruleEvalsRow, standIns := [], harness := (true, "a4eb7e8751c48e72138074469af6cecb74923f58dfa708a65bb0f5397189b90e"), looks := false }, kinds := [], alts := [], laidByText := true, laidKinds := [.data], laidTests := true, laidLooks := .later }
def RuleEvalsCardSaid : Prop := Claim7.holds Tryd.pinned (.plain (OpenSpec.ofChange ruleEvalsSpec)) ruleEvalsCard

/-- THE TIED CARD OF 'ephemerislaw1.CompileCompiles'. -/
def compileCompilesCard : Claim7 := { stood := { row := compileCompilesRow, standIns := [], harness := (true, "a4eb7e8751c48e72138074469af6cecb74923f58dfa708a65bb0f5397189b90e"), looks := false }, kinds := [], alts := [], laidByText := true, laidKinds := [.data], laidTests := true, laidLooks := .later }
def CompileCompilesCardSaid : Prop := Claim7.holds Tryd.pinned (.plain (OpenSpec.ofChange compileCompilesSpec)) compileCompilesCard

/-- THE TIED CARD OF 'ephemerislaw1.PatternChecks'. -/
def patternChecksCard : Claim7 := { stood := { row := patternChecksRow, standIns := [], harness := (true, "a4eb7e8751c48e72138074469af6cecb74923f58dfa708a65bb0f5397189b90e"), looks := false }, kinds := [], alts := [], laidByText := true, laidKinds := [.data], laidTests := true, laidLooks := .later }
def PatternChecksCardSaid : Prop := Claim7.holds Tryd.pinned (.plain (OpenSpec.ofChange patternChecksSpec)) patternChecksCard

/-- THE SECOND FORM's CARD OF 'ephemerislaw1.RuleChecks'. -/
def ruleChecksUptoCard : Claim7 := { stood := { row := ruleChecksUptoRow, standIns := [], harness := (true, "a4eb7e8751c48e72138074469af6cecb74923f58dfa708a65bb0f5397189b90e"), looks := false }, kinds := [], alts := [], laidByText := true, laidKinds := [.data], laidTests := true, laidLooks := .later }
def RuleChecksUptoCardSaid : Prop := Claim7.holds Tryd.pinned (.plain (OpenSpec.upto ruleChecksSpec)) ruleChecksUptoCard

/-- THE SECOND FORM's CARD OF 'ephemerislaw1.RuleEvals'. -/
def ruleEvalsUptoCard : Claim7 := { stood := { row := ruleEvalsUptoRow, standIns := [], harness := (true, "a4eb7e8751c48e72138074469af6cecb74923f58dfa708a65bb0f5397189b90e"), looks := false }, kinds := [], alts := [], laidByText := true, laidKinds := [.data], laidTests := true, laidLooks := .later }
def RuleEvalsUptoCardSaid : Prop := Claim7.holds Tryd.pinned (.plain (OpenSpec.upto ruleEvalsSpec)) ruleEvalsUptoCard

/-- THE SECOND FORM's CARD OF 'ephemerislaw1.CompileCompiles'. -/
def compileCompilesUptoCard : Claim7 := { stood := { row := compileCompilesUptoRow, standIns := [], harness := (true, "a4eb7e8751c48e72138074469af6cecb74923f58dfa708a65bb0f5397189b90e"), looks := false }, kinds := [], alts := [], laidByText := true, laidKinds := [.data], laidTests := true, laidLooks := .later }
def CompileCompilesUptoCardSaid : Prop := Claim7.holds Tryd.pinned (.plain (OpenSpec.upto compileCompilesSpec)) compileCompilesUptoCard

/-- THE SECOND FORM's CARD OF 'ephemerislaw1.PatternChecks'. -/
def patternChecksUptoCard : Claim7 := { stood := { row := patternChecksUptoRow, standIns := [], harness := (true, "a4eb7e8751c48e72138074469af6cecb74923f58dfa708a65bb0f5397189b90e"), looks := false }, kinds := [], alts := [], laidByText := true, laidKinds := [.data], laidTests := true, laidLooks := .later }
def PatternChecksUptoCardSaid : Prop := Claim7.holds Tryd.pinned (.plain (OpenSpec.upto patternChecksSpec)) patternChecksUptoCard
end Rows
end Go.Proofs.YtgcmclnjnimolaaDoor
