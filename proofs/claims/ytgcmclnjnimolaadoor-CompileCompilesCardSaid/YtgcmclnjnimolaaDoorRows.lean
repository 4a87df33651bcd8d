/-
  NARROWER THAN 'FOR EVERY INPUT', by the rows' own cells (each row's printed sentence says how): RuleChecks: loops, laid · RuleEvals: loops, laid · CompileCompiles: loops, laid · PatternChecks: laid.
  DERIVED. THE GIVEN ROWS OF THIS SEAT. 4 by the template 'for every input the law returns true; each argument reads behind the call as it read before'; 0 by the template 'total and deterministic' (their statements: YtgcmclnjnimolaaDoorTotals.lean).
  GIVEN WITH THE SEED: the statements are not yours to turn. If you find one false, say at which input.
  Laid BY PROGRAM, IN A SANDBOX (cutbox-rows.mjs): the forced cells as the released guide's own fill.sh prints them over the translation 1c14cfcee74453fa… (all of the seat's roots in one cut). By AI agents, Wed Nov 11 2026. No macro, syntax, notation, axiom, sorry.
-/
import Derived.Test.YtgcmclnjnimolaaDoorChecked
import GoSem.Claim
import GoSem.ClaimJoined
import GoSem.ClaimMapViews
import Derived.JoinedTies
import Derived.KernelRfl
namespace Go.Proofs.YtgcmclnjnimolaaDoor
/- THE CELL 'sum', in the pinned program and in every row, IS THE sha256 OF THE DUMP (.gsa) THAT YtgcmclnjnimolaaDoorProg.lean LOADS. Nothing in Lean hashes anything: it is a label: what it is worth is what the hold of that sum in a sandbox is worth. -/
noncomputable def Tryd.pinned : Pinned := { name := "ytgcmclnjnimolaadoor", sum := "1c14cfcee74453fa5cf9cbc11ed0e5dbd0be2f510aaa49f2f016815d209ae823", checked := Tryd.checked }
namespace Rows
def none {H : Type} : Left H := { results := [], args := [] }

/- WHAT THE LISTED PACKAGE-LEVEL VARIABLES READ AS WHEN THE CALL BEGINS. Each datum BY PROGRAM (the guide's laid-datum.mjs) off the statement by which the dump's own 'gosem.cut.vars' lays the variable. In a bare row this is a premise. The card (YtgcmclnjnimolaaDoorCards.lean) ties it to the program's text. -/
def laid_ephemeris_rule_kids {H : Type} : DataW H := .agg [.lit (.int .i64 0), .lit (.int .i64 0), .lit (.int .i64 0), .lit (.int .i64 1), .lit (.int .i64 2), .lit (.int .i64 2), .lit (.int .i64 2), .lit (.int .i64 2), .lit (.int .i64 2), .lit (.int .i64 2), .lit (.int .i64 2), .lit (.int .i64 1), .lit (.int .i64 2), .lit (.int .i64 2)]
def laid_ephemeris_pattern_names {H : Type} : DataW H := .agg [.lit (.string [121]), .lit (.string [109]), .lit (.string [100]), .lit (.string [121, 52]), .lit (.string [109, 50]), .lit (.string [100, 50]), .lit (.string [110, 97, 109, 101]), .lit (.string [119])]

/-- 'ephemerislaw1.RuleChecks': WHATEVER THE INPUT: true; the input reads as it did. -/
def ruleChecksSpec : ChangeSpec := { name := "ruleChecks", fn := fun _ => fun
  | [d] => { results := [.lit (.bool true)], args := [d] }
  | _ => none }
def ruleChecksRow : OpenClaim := { program := "ytgcmclnjnimolaadoor", sum := "1c14cfcee74453fa5cf9cbc11ed0e5dbd0be2f510aaa49f2f016815d209ae823", func := "ephemeris/ephemerislaw1.RuleChecks", spec := "ruleChecks", recurses := true, named := ["ephemeris/rule.kids"], loops := true, apart := false, laid := [("ephemeris/rule.kids", laid_ephemeris_rule_kids)] }
def RuleChecksSaid : Prop := ruleChecksRow.holds Tryd.pinned (OpenSpec.ofChange ruleChecksSpec)

/-- ITS FALSE NEIGHBOUR: 'it returns false'. Refute it at one input. -/
def ruleChecksWrong : ChangeSpec := { name := "ruleChecks", fn := fun _ => fun
  | [d] => { results := [.lit (.bool false)], args := [d] }
  | _ => none }
def RuleChecksWrongFalsely : Prop := ruleChecksRow.holds Tryd.pinned (OpenSpec.ofChange ruleChecksWrong)

/-- 'ephemerislaw1.RuleEvals': WHATEVER THE INPUT: true; the input reads as it did. -/
def ruleEvalsSpec : ChangeSpec := { name := "ruleEvals", fn := fun _ => fun
  | [d1, d2] => { results := [.lit (.bool true)], args := [d1, d2] }
  | _ => none }
def ruleEvalsRow : OpenClaim := { program := "ytgcmclnjnimolaadoor", sum := "1c14cfcee74453fa5cf9cbc11ed0e5dbd0be2f510aaa49f2f016815d209ae823", func := "ephemeris/ephemerislaw1.RuleEvals", spec := "ruleEvals", recurses := true, named := ["ephemeris/rule.kids"], loops := true, apart := false, laid := [("ephemeris/rule.kids", laid_ephemeris_rule_kids)] }
def RuleEvalsSaid : Prop := ruleEvalsRow.holds Tryd.pinned (OpenSpec.ofChange ruleEvalsSpec)

/-- ITS FALSE NEIGHBOUR: 'it returns false'. Refute it at one input. -/
def ruleEvalsWrong : ChangeSpec := { name := "ruleEvals", fn := fun _ => fun
  | [d1, d2] => { results := [.lit (.bool false)], args := [d1, d2] }
  | _ => none }
def RuleEvalsWrongFalsely : Prop := ruleEvalsRow.holds Tryd.pinned (OpenSpec.ofChange ruleEvalsWrong)

/-- 'ephemerislaw1.CompileCompiles': WHATEVER THE INPUT: true; the input reads as it did. -/
def compileCompilesSpec : ChangeSpec := { name := "compileCompiles", fn := fun _ => fun
  | [d] => { results := [.lit (.bool true)], args := [d] }
  | _ => none }
def compileCompilesRow : OpenClaim := { program := "ytgcmclnjnimolaadoor", sum := "1c14cfcee74453fa5cf9cbc11ed0e5dbd0be2f510aaa49f2f016815d209ae823", func := "ephemeris/ephemerislaw1.CompileCompiles", spec := "compileCompiles", recurses := true, named := ["ephemeris/rule.kids"], loops := true, apart := false, laid := [("ephemeris/rule.kids", laid_ephemeris_rule_kids)] }
def CompileCompilesSaid : Prop := compileCompilesRow.holds Tryd.pinned (OpenSpec.ofChange compileCompilesSpec)

/-- ITS FALSE NEIGHBOUR: 'it returns false'. Refute it at one input. -/
def compileCompilesWrong : ChangeSpec := { name := "compileCompiles", fn := fun _ => fun
  | [d] => { results := [.lit (.bool false)], args := [d] }
  | _ => none }
def CompileCompilesWrongFalsely : Prop := compileCompilesRow.holds Tryd.pinned (OpenSpec.ofChange compileCompilesWrong)

/-- 'ephemerislaw1.PatternChecks': WHATEVER THE INPUT: true; the input reads as it did. -/
def patternChecksSpec : ChangeSpec := { name := "patternChecks", fn := fun _ => fun
  | [d] => { results := [.lit (.bool true)], args := [d] }
  | _ => none }
def patternChecksRow : OpenClaim := { program := "ytgcmclnjnimolaadoor", sum := "1c14cfcee74453fa5cf9cbc11ed0e5dbd0be2f510aaa49f2f016815d209ae823", func := "ephemeris/ephemerislaw1.PatternChecks", spec := "patternChecks", inPlace := ["internal/bytealg.IndexByteString", "internal/bytealg.IndexString"], named := ["ephemeris/pattern.names", "internal/bytealg.MaxLen"], apart := false, laid := [("ephemeris/pattern.names", laid_ephemeris_pattern_names)] }
def PatternChecksSaid : Prop := patternChecksRow.holds Tryd.pinned (OpenSpec.ofChange patternChecksSpec)

/-- ITS FALSE NEIGHBOUR: 'it returns false'. Refute it at one input. -/
def patternChecksWrong : ChangeSpec := { name := "patternChecks", fn := fun _ => fun
  | [d] => { results := [.lit (.bool false)], args := [d] }
  | _ => none }
def PatternChecksWrongFalsely : Prop := patternChecksRow.holds Tryd.pinned (OpenSpec.ofChange patternChecksWrong)

/- THE SECOND FORM. 'bulk': how many values and letters a reading holds, each counted each time it is reached (what is shared counts as often as it is met; a slice's spare places count too). A statement '..UptoSaid' is the law's where the arguments, and the package variables that the reading takes, are together of bulk at most 1048576: NARROWER than '..Said'. Prove '..Said' where nothing that the law and all that it calls make is longer than what came in: it says more and counts as full. Else prove '..UptoSaid'. A law counts once. -/
mutual
def uptoBulk {H : Type} : DataW H → Nat
  | .lit (.string bytes) => bytes.length + 1
  | .lit _ => 1
  | .nil => 1
  | .ptr d => uptoBulk d + 1
  | .slice elems spare => uptoBulkAll elems + uptoBulkAll spare + 1
  | .agg parts => uptoBulkAll parts + 1
  | .iface _ d => uptoBulk d + 1
  | .map entries => uptoBulkEntries entries + 1
  | .held _ => 1
def uptoBulkAll {H : Type} : List (DataW H) → Nat
  | [] => 0
  | d :: r => uptoBulk d + uptoBulkAll r
def uptoBulkEntries {H : Type} : List (Lit × DataW H) → Nat
  | [] => 0
  | x :: r => uptoBulkEntry x + uptoBulkEntries r
def uptoBulkEntry {H : Type} : Lit × DataW H → Nat
  | (.string bytes, d) => bytes.length + uptoBulk d + 1
  | (_, d) => uptoBulk d + 1
 end
def uptoSmall : (H : Type) → List (DataW H) → Bool := fun _ ds => decide (uptoBulkAll ds ≤ 1048576)
def OpenSpec.upto (s : _root_.Go.ChangeSpec) : _root_.Go.OpenSpec := { _root_.Go.OpenSpec.ofChange s with cond := some uptoSmall }

/-- 'ephemerislaw1.RuleChecks', WHERE WHAT IT READS IS OF BULK AT MOST 1048576: true; the input reads as it did. -/
def ruleChecksUptoRow : OpenClaim := { program := "ytgcmclnjnimolaadoor", sum := "1c14cfcee74453fa5cf9cbc11ed0e5dbd0be2f510aaa49f2f016815d209ae823", func := "ephemeris/ephemerislaw1.RuleChecks", spec := "ruleChecks", recurses := true, named := ["ephemeris/rule.kids"], loops := true, apart := false, laid := [("ephemeris/rule.kids", laid_ephemeris_rule_kids)], narrowed := true }
def RuleChecksUptoSaid : Prop := ruleChecksUptoRow.holds Tryd.pinned (OpenSpec.upto ruleChecksSpec)

/-- 'ephemerislaw1.RuleEvals', WHERE WHAT IT READS IS OF BULK AT MOST 1048576: true; the input reads as it did. -/
def ruleEvalsUptoRow : OpenClaim := { program := "ytgcmclnjnimolaadoor", sum := "1c14cfcee74453fa5cf9cbc11ed0e5dbd0be2f510aaa49f2f016815d209ae823", func := "ephemeris/ephemerislaw1.RuleEvals", spec := "ruleEvals", recurses := true, named := ["ephemeris/rule.kids"], loops := true, apart := false, laid := [("ephemeris/rule.kids", laid_ephemeris_rule_kids)], narrowed := true }
def RuleEvalsUptoSaid : Prop := ruleEvalsUptoRow.holds Tryd.pinned (OpenSpec.upto ruleEvalsSpec)

/-- 'ephemerislaw1.CompileCompiles', WHERE WHAT IT READS IS OF BULK AT MOST 1048576: true; the input reads as it did. -/
def compileCompilesUptoRow : OpenClaim := { program := "ytgcmclnjnimolaadoor", sum := "1c14cfcee74453fa5cf9cbc11ed0e5dbd0be2f510aaa49f2f016815d209ae823", func := "ephemeris/ephemerislaw1.CompileCompiles", spec := "compileCompiles", recurses := true, named := ["ephemeris/rule.kids"], loops := true, apart := false, laid := [("ephemeris/rule.kids", laid_ephemeris_rule_kids)], narrowed := true }
def CompileCompilesUptoSaid : Prop := compileCompilesUptoRow.holds Tryd.pinned (OpenSpec.upto compileCompilesSpec)

/-- 'ephemerislaw1.PatternChecks', WHERE WHAT IT READS IS OF BULK AT MOST 1048576: true; the input reads as it did. -/
def patternChecksUptoRow : OpenClaim := { program := "ytgcmclnjnimolaadoor", sum := "1c14cfcee74453fa5cf9cbc11ed0e5dbd0be2f510aaa49f2f016815d209ae823", func := "ephemeris/ephemerislaw1.PatternChecks", spec := "patternChecks", inPlace := ["internal/bytealg.IndexByteString", "internal/bytealg.IndexString"], named := ["ephemeris/pattern.names", "internal/bytealg.MaxLen"], apart := false, laid := [("ephemeris/pattern.names", laid_ephemeris_pattern_names)], narrowed := true }
def PatternChecksUptoSaid : Prop := patternChecksUptoRow.holds Tryd.pinned (OpenSpec.upto patternChecksSpec)

end Rows
end Go.Proofs.YtgcmclnjnimolaaDoor
