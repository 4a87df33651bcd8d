/-
  No cell of these rows narrows 'for every input' (looked for: loops, veiled, ifaces, maps, wideKeys, modest, calm, conditions, laid).
  DERIVED. THE GIVEN ROWS OF THIS SEAT. 11 by the template 'for every input the law returns true; each argument reads behind the call as it read before'; 0 by the template 'total and deterministic' (their statements: YtmihkcgkdhmccaaTotals.lean).
  GIVEN WITH THE SEED: the statements are not yours to turn. If you find one false, say at which input.
  Laid BY PROGRAM, IN A SANDBOX (cutbox-rows.mjs): the forced cells as the released guide's own fill.sh prints them over the translation 40db08bb468e7c01… (all of the seat's roots in one cut). By AI agents, Wed Nov 11 2026. No macro, syntax, notation, axiom, sorry.
-/
import Derived.Test.YtmihkcgkdhmccaaChecked
import GoSem.Claim
import GoSem.ClaimJoined
import GoSem.ClaimMapViews
import Derived.JoinedTies
import Derived.KernelRfl
namespace Go.Proofs.Ytmihkcgkdhmccaa
/- THE CELL 'sum', in the pinned program and in every row, IS THE sha256 OF THE DUMP (.gsa) THAT YtmihkcgkdhmccaaProg.lean LOADS. Nothing in Lean hashes anything: it is a label: what it is worth is what the hold of that sum in a sandbox is worth. -/
noncomputable def Try.pinned : Pinned := { name := "ytmihkcgkdhmccaa", sum := "40db08bb468e7c012a510657fb41f9e11cfe7cedf9338bb56555bd882a24a1d2", checked := Try.checked }
namespace Rows
def none {H : Type} : Left H := { results := [], args := [] }

/-- 'ephemerislaw1.LineDays': WHATEVER THE INPUT: true; the input reads as it did. -/
def lineDaysSpec : ChangeSpec := { name := "lineDays", fn := fun _ => fun
  | [d] => { results := [.lit (.bool true)], args := [d] }
  | _ => none }
def lineDaysRow : OpenClaim := { program := "ytmihkcgkdhmccaa", sum := "40db08bb468e7c012a510657fb41f9e11cfe7cedf9338bb56555bd882a24a1d2", func := "ephemeris/ephemerislaw1.LineDays", spec := "lineDays", apart := false }
def LineDaysSaid : Prop := lineDaysRow.holds Try.pinned (OpenSpec.ofChange lineDaysSpec)

/-- ITS FALSE NEIGHBOUR: 'it returns false'. Refute it at one input. -/
def lineDaysWrong : ChangeSpec := { name := "lineDays", fn := fun _ => fun
  | [d] => { results := [.lit (.bool false)], args := [d] }
  | _ => none }
def LineDaysWrongFalsely : Prop := lineDaysRow.holds Try.pinned (OpenSpec.ofChange lineDaysWrong)

/-- 'ephemerislaw1.RecurChecks': WHATEVER THE INPUT: true; the input reads as it did. -/
def recurChecksSpec : ChangeSpec := { name := "recurChecks", fn := fun _ => fun
  | [d] => { results := [.lit (.bool true)], args := [d] }
  | _ => none }
def recurChecksRow : OpenClaim := { program := "ytmihkcgkdhmccaa", sum := "40db08bb468e7c012a510657fb41f9e11cfe7cedf9338bb56555bd882a24a1d2", func := "ephemeris/ephemerislaw1.RecurChecks", spec := "recurChecks", apart := false }
def RecurChecksSaid : Prop := recurChecksRow.holds Try.pinned (OpenSpec.ofChange recurChecksSpec)

/-- ITS FALSE NEIGHBOUR: 'it returns false'. Refute it at one input. -/
def recurChecksWrong : ChangeSpec := { name := "recurChecks", fn := fun _ => fun
  | [d] => { results := [.lit (.bool false)], args := [d] }
  | _ => none }
def RecurChecksWrongFalsely : Prop := recurChecksRow.holds Try.pinned (OpenSpec.ofChange recurChecksWrong)

/-- 'ephemerislaw1.ObservedChecks': WHATEVER THE INPUT: true; the input reads as it did. -/
def observedChecksSpec : ChangeSpec := { name := "observedChecks", fn := fun _ => fun
  | [d] => { results := [.lit (.bool true)], args := [d] }
  | _ => none }
def observedChecksRow : OpenClaim := { program := "ytmihkcgkdhmccaa", sum := "40db08bb468e7c012a510657fb41f9e11cfe7cedf9338bb56555bd882a24a1d2", func := "ephemeris/ephemerislaw1.ObservedChecks", spec := "observedChecks", apart := false }
def ObservedChecksSaid : Prop := observedChecksRow.holds Try.pinned (OpenSpec.ofChange observedChecksSpec)

/-- ITS FALSE NEIGHBOUR: 'it returns false'. Refute it at one input. -/
def observedChecksWrong : ChangeSpec := { name := "observedChecks", fn := fun _ => fun
  | [d] => { results := [.lit (.bool false)], args := [d] }
  | _ => none }
def ObservedChecksWrongFalsely : Prop := observedChecksRow.holds Try.pinned (OpenSpec.ofChange observedChecksWrong)

/-- 'ephemerislaw1.FracChecks': WHATEVER THE INPUT: true; the input reads as it did. -/
def fracChecksSpec : ChangeSpec := { name := "fracChecks", fn := fun _ => fun
  | [d1, d2, d3] => { results := [.lit (.bool true)], args := [d1, d2, d3] }
  | _ => none }
def fracChecksRow : OpenClaim := { program := "ytmihkcgkdhmccaa", sum := "40db08bb468e7c012a510657fb41f9e11cfe7cedf9338bb56555bd882a24a1d2", func := "ephemeris/ephemerislaw1.FracChecks", spec := "fracChecks", apart := false }
def FracChecksSaid : Prop := fracChecksRow.holds Try.pinned (OpenSpec.ofChange fracChecksSpec)

/-- ITS FALSE NEIGHBOUR: 'it returns false'. Refute it at one input. -/
def fracChecksWrong : ChangeSpec := { name := "fracChecks", fn := fun _ => fun
  | [d1, d2, d3] => { results := [.lit (.bool false)], args := [d1, d2, d3] }
  | _ => none }
def FracChecksWrongFalsely : Prop := fracChecksRow.holds Try.pinned (OpenSpec.ofChange fracChecksWrong)

/-- 'ephemerislaw1.LineDates': WHATEVER THE INPUT: true; the input reads as it did. -/
def lineDatesSpec : ChangeSpec := { name := "lineDates", fn := fun _ => fun
  | [d] => { results := [.lit (.bool true)], args := [d] }
  | _ => none }
def lineDatesRow : OpenClaim := { program := "ytmihkcgkdhmccaa", sum := "40db08bb468e7c012a510657fb41f9e11cfe7cedf9338bb56555bd882a24a1d2", func := "ephemeris/ephemerislaw1.LineDates", spec := "lineDates", apart := false }
def LineDatesSaid : Prop := lineDatesRow.holds Try.pinned (OpenSpec.ofChange lineDatesSpec)

/-- ITS FALSE NEIGHBOUR: 'it returns false'. Refute it at one input. -/
def lineDatesWrong : ChangeSpec := { name := "lineDates", fn := fun _ => fun
  | [d] => { results := [.lit (.bool false)], args := [d] }
  | _ => none }
def LineDatesWrongFalsely : Prop := lineDatesRow.holds Try.pinned (OpenSpec.ofChange lineDatesWrong)

/-- 'ephemerislaw1.CompileChecks': WHATEVER THE INPUT: true; the input reads as it did. -/
def compileChecksSpec : ChangeSpec := { name := "compileChecks", fn := fun _ => fun
  | [d] => { results := [.lit (.bool true)], args := [d] }
  | _ => none }
def compileChecksRow : OpenClaim := { program := "ytmihkcgkdhmccaa", sum := "40db08bb468e7c012a510657fb41f9e11cfe7cedf9338bb56555bd882a24a1d2", func := "ephemeris/ephemerislaw1.CompileChecks", spec := "compileChecks", apart := false }
def CompileChecksSaid : Prop := compileChecksRow.holds Try.pinned (OpenSpec.ofChange compileChecksSpec)

/-- ITS FALSE NEIGHBOUR: 'it returns false'. Refute it at one input. -/
def compileChecksWrong : ChangeSpec := { name := "compileChecks", fn := fun _ => fun
  | [d] => { results := [.lit (.bool false)], args := [d] }
  | _ => none }
def CompileChecksWrongFalsely : Prop := compileChecksRow.holds Try.pinned (OpenSpec.ofChange compileChecksWrong)

/-- 'ephemerislaw1.FracCompares': WHATEVER THE INPUT: true; the input reads as it did. -/
def fracComparesSpec : ChangeSpec := { name := "fracCompares", fn := fun _ => fun
  | [d1, d2] => { results := [.lit (.bool true)], args := [d1, d2] }
  | _ => none }
def fracComparesRow : OpenClaim := { program := "ytmihkcgkdhmccaa", sum := "40db08bb468e7c012a510657fb41f9e11cfe7cedf9338bb56555bd882a24a1d2", func := "ephemeris/ephemerislaw1.FracCompares", spec := "fracCompares", apart := false }
def FracComparesSaid : Prop := fracComparesRow.holds Try.pinned (OpenSpec.ofChange fracComparesSpec)

/-- ITS FALSE NEIGHBOUR: 'it returns false'. Refute it at one input. -/
def fracComparesWrong : ChangeSpec := { name := "fracCompares", fn := fun _ => fun
  | [d1, d2] => { results := [.lit (.bool false)], args := [d1, d2] }
  | _ => none }
def FracComparesWrongFalsely : Prop := fracComparesRow.holds Try.pinned (OpenSpec.ofChange fracComparesWrong)

/-- 'ephemerislaw1.ObservedExtends': WHATEVER THE INPUT: true; the input reads as it did. -/
def observedExtendsSpec : ChangeSpec := { name := "observedExtends", fn := fun _ => fun
  | [d1, d2] => { results := [.lit (.bool true)], args := [d1, d2] }
  | _ => none }
def observedExtendsRow : OpenClaim := { program := "ytmihkcgkdhmccaa", sum := "40db08bb468e7c012a510657fb41f9e11cfe7cedf9338bb56555bd882a24a1d2", func := "ephemeris/ephemerislaw1.ObservedExtends", spec := "observedExtends", apart := false }
def ObservedExtendsSaid : Prop := observedExtendsRow.holds Try.pinned (OpenSpec.ofChange observedExtendsSpec)

/-- ITS FALSE NEIGHBOUR: 'it returns false'. Refute it at one input. -/
def observedExtendsWrong : ChangeSpec := { name := "observedExtends", fn := fun _ => fun
  | [d1, d2] => { results := [.lit (.bool false)], args := [d1, d2] }
  | _ => none }
def ObservedExtendsWrongFalsely : Prop := observedExtendsRow.holds Try.pinned (OpenSpec.ofChange observedExtendsWrong)

/-- 'ephemerislaw1.CycleOfs': WHATEVER THE INPUT: true; the input reads as it did. -/
def cycleOfsSpec : ChangeSpec := { name := "cycleOfs", fn := fun _ => fun
  | [d1, d2] => { results := [.lit (.bool true)], args := [d1, d2] }
  | _ => none }
def cycleOfsRow : OpenClaim := { program := "ytmihkcgkdhmccaa", sum := "40db08bb468e7c012a510657fb41f9e11cfe7cedf9338bb56555bd882a24a1d2", func := "ephemeris/ephemerislaw1.CycleOfs", spec := "cycleOfs", apart := false }
def CycleOfsSaid : Prop := cycleOfsRow.holds Try.pinned (OpenSpec.ofChange cycleOfsSpec)

/-- ITS FALSE NEIGHBOUR: 'it returns false'. Refute it at one input. -/
def cycleOfsWrong : ChangeSpec := { name := "cycleOfs", fn := fun _ => fun
  | [d1, d2] => { results := [.lit (.bool false)], args := [d1, d2] }
  | _ => none }
def CycleOfsWrongFalsely : Prop := cycleOfsRow.holds Try.pinned (OpenSpec.ofChange cycleOfsWrong)

/-- 'ephemerislaw1.CompileTotals': WHATEVER THE INPUT: true; the input reads as it did. -/
def compileTotalsSpec : ChangeSpec := { name := "compileTotals", fn := fun _ => fun
  | [d] => { results := [.lit (.bool true)], args := [d] }
  | _ => none }
def compileTotalsRow : OpenClaim := { program := "ytmihkcgkdhmccaa", sum := "40db08bb468e7c012a510657fb41f9e11cfe7cedf9338bb56555bd882a24a1d2", func := "ephemeris/ephemerislaw1.CompileTotals", spec := "compileTotals", apart := false }
def CompileTotalsSaid : Prop := compileTotalsRow.holds Try.pinned (OpenSpec.ofChange compileTotalsSpec)

/-- ITS FALSE NEIGHBOUR: 'it returns false'. Refute it at one input. -/
def compileTotalsWrong : ChangeSpec := { name := "compileTotals", fn := fun _ => fun
  | [d] => { results := [.lit (.bool false)], args := [d] }
  | _ => none }
def CompileTotalsWrongFalsely : Prop := compileTotalsRow.holds Try.pinned (OpenSpec.ofChange compileTotalsWrong)

/-- 'ephemerislaw1.FracReckons': WHATEVER THE INPUT: true; the input reads as it did. -/
def fracReckonsSpec : ChangeSpec := { name := "fracReckons", fn := fun _ => fun
  | [d1, d2] => { results := [.lit (.bool true)], args := [d1, d2] }
  | _ => none }
def fracReckonsRow : OpenClaim := { program := "ytmihkcgkdhmccaa", sum := "40db08bb468e7c012a510657fb41f9e11cfe7cedf9338bb56555bd882a24a1d2", func := "ephemeris/ephemerislaw1.FracReckons", spec := "fracReckons", apart := false }
def FracReckonsSaid : Prop := fracReckonsRow.holds Try.pinned (OpenSpec.ofChange fracReckonsSpec)

/-- ITS FALSE NEIGHBOUR: 'it returns false'. Refute it at one input. -/
def fracReckonsWrong : ChangeSpec := { name := "fracReckons", fn := fun _ => fun
  | [d1, d2] => { results := [.lit (.bool false)], args := [d1, d2] }
  | _ => none }
def FracReckonsWrongFalsely : Prop := fracReckonsRow.holds Try.pinned (OpenSpec.ofChange fracReckonsWrong)

/- THE SECOND FORM. 'bulk': how many values and letters a reading holds, each counted each time it is reached (what is shared counts as often as it is met; a slice's spare places count too). A statement '..UptoSaid' is the law's where the arguments, and the package variables that the reading takes, are together of bulk at most 1048576: NARROWER than '..Said'. Prove '..Said' where nothing that the law and all that it calls make is longer than what came in: it says more and counts as full. Else prove '..UptoSaid'. A law counts once. -/
mutual
def uptoBulk {H : Type} : DataW H → Nat
  | .lit (.string bytes) => bytes.length + 1
  | .lit _ => 1
  | .nil => 1
  | .ptr d => uptoBulk d + 1
  | .slice elems spare => uptoBulkAll elems + uptoBulkAll spare + 1
  | .agg parts => uptoBulkAll parts + 1
  | .iface _ d => uptoBulk d + 1
  | .map entries => uptoBulkEntries entries + 1
  | .held _ => 1
def uptoBulkAll {H : Type} : List (DataW H) → Nat
  | [] => 0
  | d :: r => uptoBulk d + uptoBulkAll r
def uptoBulkEntries {H : Type} : List (Lit × DataW H) → Nat
  | [] => 0
  | x :: r => uptoBulkEntry x + uptoBulkEntries r
def uptoBulkEntry {H : Type} : Lit × DataW H → Nat
  | (.string bytes, d) => bytes.length + uptoBulk d + 1
  | (_, d) => uptoBulk d + 1
 end
def uptoSmall : (H : Type) → List (DataW H) → Bool := fun _ ds => decide (uptoBulkAll ds ≤ 1048576)
def OpenSpec.upto (s : _root_.Go.ChangeSpec) : _root_.Go.OpenSpec := { _root_.Go.OpenSpec.ofChange s with cond := some uptoSmall }

/-- 'ephemerislaw1.LineDays', WHERE WHAT IT READS IS OF BULK AT MOST 1048576: true; the input reads as it did. -/
def lineDaysUptoRow : OpenClaim := { program := "ytmihkcgkdhmccaa", sum := "40db08bb468e7c012a510657fb41f9e11cfe7cedf9338bb56555bd882a24a1d2", func := "ephemeris/ephemerislaw1.LineDays", spec := "lineDays", apart := false, narrowed := true }
def LineDaysUptoSaid : Prop := lineDaysUptoRow.holds Try.pinned (OpenSpec.upto lineDaysSpec)

/-- 'ephemerislaw1.RecurChecks', WHERE WHAT IT READS IS OF BULK AT MOST 1048576: true; the input reads as it did. -/
def recurChecksUptoRow : OpenClaim := { program := "ytmihkcgkdhmccaa", sum := "40db08bb468e7c012a510657fb41f9e11cfe7cedf9338bb56555bd882a24a1d2", func := "ephemeris/ephemerislaw1.RecurChecks", spec := "recurChecks", apart := false, narrowed := true }
def RecurChecksUptoSaid : Prop := recurChecksUptoRow.holds Try.pinned (OpenSpec.upto recurChecksSpec)

/-- 'ephemerislaw1.ObservedChecks', WHERE WHAT IT READS IS OF BULK AT MOST 1048576: true; the input reads as it did. -/
def observedChecksUptoRow : OpenClaim := { program := "ytmihkcgkdhmccaa", sum := "40db08bb468e7c012a510657fb41f9e11cfe7cedf9338bb56555bd882a24a1d2", func := "ephemeris/ephemerislaw1.ObservedChecks", spec := "observedChecks", apart := false, narrowed := true }
def ObservedChecksUptoSaid : Prop := observedChecksUptoRow.holds Try.pinned (OpenSpec.upto observedChecksSpec)

/-- 'ephemerislaw1.FracChecks', WHERE WHAT IT READS IS OF BULK AT MOST 1048576: true; the input reads as it did. -/
def fracChecksUptoRow : OpenClaim := { program := "ytmihkcgkdhmccaa", sum := "40db08bb468e7c012a510657fb41f9e11cfe7cedf9338bb56555bd882a24a1d2", func := "ephemeris/ephemerislaw1.FracChecks", spec := "fracChecks", apart := false, narrowed := true }
def FracChecksUptoSaid : Prop := fracChecksUptoRow.holds Try.pinned (OpenSpec.upto fracChecksSpec)

/-- 'ephemerislaw1.LineDates', WHERE WHAT IT READS IS OF BULK AT MOST 1048576: true; the input reads as it did. -/
def lineDatesUptoRow : OpenClaim := { program := "ytmihkcgkdhmccaa", sum := "40db08bb468e7c012a510657fb41f9e11cfe7cedf9338bb56555bd882a24a1d2", func := "ephemeris/ephemerislaw1.LineDates", spec := "lineDates", apart := false, narrowed := true }
def LineDatesUptoSaid : Prop := lineDatesUptoRow.holds Try.pinned (OpenSpec.upto lineDatesSpec)

/-- 'ephemerislaw1.CompileChecks', WHERE WHAT IT READS IS OF BULK AT MOST 1048576: true; the input reads as it did. -/
def compileChecksUptoRow : OpenClaim := { program := "ytmihkcgkdhmccaa", sum := "40db08bb468e7c012a510657fb41f9e11cfe7cedf9338bb56555bd882a24a1d2", func := "ephemeris/ephemerislaw1.CompileChecks", spec := "compileChecks", apart := false, narrowed := true }
def CompileChecksUptoSaid : Prop := compileChecksUptoRow.holds Try.pinned (OpenSpec.upto compileChecksSpec)

/-- 'ephemerislaw1.FracCompares', WHERE WHAT IT READS IS OF BULK AT MOST 1048576: true; the input reads as it did. -/
def fracComparesUptoRow : OpenClaim := { program := "ytmihkcgkdhmccaa", sum := "40db08bb468e7c012a510657fb41f9e11cfe7cedf9338bb56555bd882a24a1d2", func := "ephemeris/ephemerislaw1.FracCompares", spec := "fracCompares", apart := false, narrowed := true }
def FracComparesUptoSaid : Prop := fracComparesUptoRow.holds Try.pinned (OpenSpec.upto fracComparesSpec)

/-- 'ephemerislaw1.ObservedExtends', WHERE WHAT IT READS IS OF BULK AT MOST 1048576: true; the input reads as it did. -/
def observedExtendsUptoRow : OpenClaim := { program := "ytmihkcgkdhmccaa", sum := "40db08bb468e7c012a510657fb41f9e11cfe7cedf9338bb56555bd882a24a1d2", func := "ephemeris/ephemerislaw1.ObservedExtends", spec := "observedExtends", apart := false, narrowed := true }
def ObservedExtendsUptoSaid : Prop := observedExtendsUptoRow.holds Try.pinned (OpenSpec.upto observedExtendsSpec)

/-- 'ephemerislaw1.CycleOfs', WHERE WHAT IT READS IS OF BULK AT MOST 1048576: true; the input reads as it did. -/
def cycleOfsUptoRow : OpenClaim := { program := "ytmihkcgkdhmccaa", sum := "40db08bb468e7c012a510657fb41f9e11cfe7cedf9338bb56555bd882a24a1d2", func := "ephemeris/ephemerislaw1.CycleOfs", spec := "cycleOfs", apart := false, narrowed := true }
def CycleOfsUptoSaid : Prop := cycleOfsUptoRow.holds Try.pinned (OpenSpec.upto cycleOfsSpec)

/-- 'ephemerislaw1.CompileTotals', WHERE WHAT IT READS IS OF BULK AT MOST 1048576: true; the input reads as it did. -/
def compileTotalsUptoRow : OpenClaim := { program := "ytmihkcgkdhmccaa", sum := "40db08bb468e7c012a510657fb41f9e11cfe7cedf9338bb56555bd882a24a1d2", func := "ephemeris/ephemerislaw1.CompileTotals", spec := "compileTotals", apart := false, narrowed := true }
def CompileTotalsUptoSaid : Prop := compileTotalsUptoRow.holds Try.pinned (OpenSpec.upto compileTotalsSpec)

/-- 'ephemerislaw1.FracReckons', WHERE WHAT IT READS IS OF BULK AT MOST 1048576: true; the input reads as it did. -/
def fracReckonsUptoRow : OpenClaim := { program := "ytmihkcgkdhmccaa", sum := "40db08bb468e7c012a510657fb41f9e11cfe7cedf9338bb56555bd882a24a1d2", func := "ephemeris/ephemerislaw1.FracReckons", spec := "fracReckons", apart := false, narrowed := true }
def FracReckonsUptoSaid : Prop := fracReckonsUptoRow.holds Try.pinned (OpenSpec.upto fracReckonsSpec)

end Rows
end Go.Proofs.Ytmihkcgkdhmccaa
