/-
  No cell of these rows narrows 'for every input' (looked for: loops, veiled, ifaces, maps, wideKeys, modest, calm, conditions, laid).
  DERIVED. THE GIVEN ROWS OF THIS SEAT. 10 by the template 'for every input the law returns true; each argument reads behind the call as it read before'; 0 by the template 'total and deterministic' (their statements: YteogcbhlilechaaTotals.lean).
  GIVEN WITH THE SEED: the statements are not yours to turn. If you find one false, say at which input.
  Laid BY PROGRAM, IN A SANDBOX (cutbox-rows.mjs): the forced cells as the released guide's own fill.sh prints them over the translation 25925fcc9f3bdcdf… (all of the seat's roots in one cut). By AI agents, Wed Nov 11 2026. No macro, syntax, notation, axiom, sorry.
-/
import Derived.Test.YteogcbhlilechaaChecked
import GoSem.Claim
import GoSem.ClaimJoined
import GoSem.ClaimMapViews
import Derived.JoinedTies
import Derived.KernelRfl
namespace Go.Proofs.Yteogcbhlilechaa
/- THE CELL 'sum', in the pinned program and in every row, IS THE sha256 OF THE DUMP (.gsa) THAT YteogcbhlilechaaProg.lean LOADS. Nothing in Lean hashes anything: it is a label: what it is worth is what the hold of that sum in a sandbox is worth. -/
noncomputable def Try.pinned : Pinned := { name := "yteogcbhlilechaa", sum := "25925fcc9f3bdcdf042df6c30a353179ee3990568a64012e27d1481c1e4aeb31", checked := Try.checked }
namespace Rows
def none {H : Type} : Left H := { results := [], args := [] }

/-- 'ephemerislaw1.RecurChecks': WHATEVER THE INPUT: true; the input reads as it did. -/
def recurChecksSpec : ChangeSpec := { name := "recurChecks", fn := fun _ => fun
  | [d] => { results := [.lit (.bool true)], args := [d] }
  | _ => none }
def recurChecksRow : OpenClaim := { program := "yteogcbhlilechaa", sum := "25925fcc9f3bdcdf042df6c30a353179ee3990568a64012e27d1481c1e4aeb31", func := "ephemeris/ephemerislaw1.RecurChecks", spec := "recurChecks", apart := false }
def RecurChecksSaid : Prop := recurChecksRow.holds Try.pinned (OpenSpec.ofChange recurChecksSpec)

/-- ITS FALSE NEIGHBOUR: 'it returns false'. Refute it at one input. -/
def recurChecksWrong : ChangeSpec := { name := "recurChecks", fn := fun _ => fun
  | [d] => { results := [.lit (.bool false)], args := [d] }
  | _ => none }
def RecurChecksWrongFalsely : Prop := recurChecksRow.holds Try.pinned (OpenSpec.ofChange recurChecksWrong)

/-- 'ephemerislaw1.ObservedExtends': WHATEVER THE INPUT: true; the input reads as it did. -/
def observedExtendsSpec : ChangeSpec := { name := "observedExtends", fn := fun _ => fun
  | [d1, d2] => { results := [.lit (.bool true)], args := [d1, d2] }
  | _ => none }
def observedExtendsRow : OpenClaim := { program := "yteogcbhlilechaa", sum := "25925fcc9f3bdcdf042df6c30a353179ee3990568a64012e27d1481c1e4aeb31", func := "ephemeris/ephemerislaw1.ObservedExtends", spec := "observedExtends", apart := false }
def ObservedExtendsSaid : Prop := observedExtendsRow.holds Try.pinned (OpenSpec.ofChange observedExtendsSpec)

/-- ITS FALSE NEIGHBOUR: 'it returns false'. Refute it at one input. -/
def observedExtendsWrong : ChangeSpec := { name := "observedExtends", fn := fun _ => fun
  | [d1, d2] => { results := [.lit (.bool false)], args := [d1, d2] }
  | _ => none }
def ObservedExtendsWrongFalsely : Prop := observedExtendsRow.holds Try.pinned (OpenSpec.ofChange observedExtendsWrong)

/-- 'ephemerislaw1.CompileTotals': WHATEVER THE INPUT: true; the input reads as it did. -/
def compileTotalsSpec : ChangeSpec := { name := "compileTotals", fn := fun _ => fun
  | [d] => { results := [.lit (.bool true)], args := [d] }
  | _ => none }
def compileTotalsRow : OpenClaim := { program := "yteogcbhlilechaa", sum := "25925fcc9f3bdcdf042df6c30a353179ee3990568a64012e27d1481c1e4aeb31", func := "ephemeris/ephemerislaw1.CompileTotals", spec := "compileTotals", apart := false }
def CompileTotalsSaid : Prop := compileTotalsRow.holds Try.pinned (OpenSpec.ofChange compileTotalsSpec)

/-- ITS FALSE NEIGHBOUR: 'it returns false'. Refute it at one input. -/
def compileTotalsWrong : ChangeSpec := { name := "compileTotals", fn := fun _ => fun
  | [d] => { results := [.lit (.bool false)], args := [d] }
  | _ => none }
def CompileTotalsWrongFalsely : Prop := compileTotalsRow.holds Try.pinned (OpenSpec.ofChange compileTotalsWrong)

/-- 'ephemerislaw1.ObservedDates': WHATEVER THE INPUT: true; the input reads as it did. -/
def observedDatesSpec : ChangeSpec := { name := "observedDates", fn := fun _ => fun
  | [d1, d2, d3] => { results := [.lit (.bool true)], args := [d1, d2, d3] }
  | _ => none }
def observedDatesRow : OpenClaim := { program := "yteogcbhlilechaa", sum := "25925fcc9f3bdcdf042df6c30a353179ee3990568a64012e27d1481c1e4aeb31", func := "ephemeris/ephemerislaw1.ObservedDates", spec := "observedDates", apart := false }
def ObservedDatesSaid : Prop := observedDatesRow.holds Try.pinned (OpenSpec.ofChange observedDatesSpec)

/-- ITS FALSE NEIGHBOUR: 'it returns false'. Refute it at one input. -/
def observedDatesWrong : ChangeSpec := { name := "observedDates", fn := fun _ => fun
  | [d1, d2, d3] => { results := [.lit (.bool false)], args := [d1, d2, d3] }
  | _ => none }
def ObservedDatesWrongFalsely : Prop := observedDatesRow.holds Try.pinned (OpenSpec.ofChange observedDatesWrong)

/-- 'ephemerislaw1.CycleNexts': WHATEVER THE INPUT: true; the input reads as it did. -/
def cycleNextsSpec : ChangeSpec := { name := "cycleNexts", fn := fun _ => fun
  | [d1, d2, d3] => { results := [.lit (.bool true)], args := [d1, d2, d3] }
  | _ => none }
def cycleNextsRow : OpenClaim := { program := "yteogcbhlilechaa", sum := "25925fcc9f3bdcdf042df6c30a353179ee3990568a64012e27d1481c1e4aeb31", func := "ephemeris/ephemerislaw1.CycleNexts", spec := "cycleNexts", apart := false }
def CycleNextsSaid : Prop := cycleNextsRow.holds Try.pinned (OpenSpec.ofChange cycleNextsSpec)

/-- ITS FALSE NEIGHBOUR: 'it returns false'. Refute it at one input. -/
def cycleNextsWrong : ChangeSpec := { name := "cycleNexts", fn := fun _ => fun
  | [d1, d2, d3] => { results := [.lit (.bool false)], args := [d1, d2, d3] }
  | _ => none }
def CycleNextsWrongFalsely : Prop := cycleNextsRow.holds Try.pinned (OpenSpec.ofChange cycleNextsWrong)

/-- 'ephemerislaw1.LunisolarChecks': WHATEVER THE INPUT: true; the input reads as it did. -/
def lunisolarChecksSpec : ChangeSpec := { name := "lunisolarChecks", fn := fun _ => fun
  | [d] => { results := [.lit (.bool true)], args := [d] }
  | _ => none }
def lunisolarChecksRow : OpenClaim := { program := "yteogcbhlilechaa", sum := "25925fcc9f3bdcdf042df6c30a353179ee3990568a64012e27d1481c1e4aeb31", func := "ephemeris/ephemerislaw1.LunisolarChecks", spec := "lunisolarChecks", apart := false }
def LunisolarChecksSaid : Prop := lunisolarChecksRow.holds Try.pinned (OpenSpec.ofChange lunisolarChecksSpec)

/-- ITS FALSE NEIGHBOUR: 'it returns false'. Refute it at one input. -/
def lunisolarChecksWrong : ChangeSpec := { name := "lunisolarChecks", fn := fun _ => fun
  | [d] => { results := [.lit (.bool false)], args := [d] }
  | _ => none }
def LunisolarChecksWrongFalsely : Prop := lunisolarChecksRow.holds Try.pinned (OpenSpec.ofChange lunisolarChecksWrong)

/-- 'ephemerislaw1.FracNears': WHATEVER THE INPUT: true; the input reads as it did. -/
def fracNearsSpec : ChangeSpec := { name := "fracNears", fn := fun _ => fun
  | [d1, d2] => { results := [.lit (.bool true)], args := [d1, d2] }
  | _ => none }
def fracNearsRow : OpenClaim := { program := "yteogcbhlilechaa", sum := "25925fcc9f3bdcdf042df6c30a353179ee3990568a64012e27d1481c1e4aeb31", func := "ephemeris/ephemerislaw1.FracNears", spec := "fracNears", apart := false }
def FracNearsSaid : Prop := fracNearsRow.holds Try.pinned (OpenSpec.ofChange fracNearsSpec)

/-- ITS FALSE NEIGHBOUR: 'it returns false'. Refute it at one input. -/
def fracNearsWrong : ChangeSpec := { name := "fracNears", fn := fun _ => fun
  | [d1, d2] => { results := [.lit (.bool false)], args := [d1, d2] }
  | _ => none }
def FracNearsWrongFalsely : Prop := fracNearsRow.holds Try.pinned (OpenSpec.ofChange fracNearsWrong)

/-- 'ephemerislaw1.CompileLeasts': WHATEVER THE INPUT: true; the input reads as it did. -/
def compileLeastsSpec : ChangeSpec := { name := "compileLeasts", fn := fun _ => fun
  | [d] => { results := [.lit (.bool true)], args := [d] }
  | _ => none }
def compileLeastsRow : OpenClaim := { program := "yteogcbhlilechaa", sum := "25925fcc9f3bdcdf042df6c30a353179ee3990568a64012e27d1481c1e4aeb31", func := "ephemeris/ephemerislaw1.CompileLeasts", spec := "compileLeasts", apart := false }
def CompileLeastsSaid : Prop := compileLeastsRow.holds Try.pinned (OpenSpec.ofChange compileLeastsSpec)

/-- ITS FALSE NEIGHBOUR: 'it returns false'. Refute it at one input. -/
def compileLeastsWrong : ChangeSpec := { name := "compileLeasts", fn := fun _ => fun
  | [d] => { results := [.lit (.bool false)], args := [d] }
  | _ => none }
def CompileLeastsWrongFalsely : Prop := compileLeastsRow.holds Try.pinned (OpenSpec.ofChange compileLeastsWrong)

/-- 'ephemerislaw1.CycleLists': WHATEVER THE INPUT: true; the input reads as it did. -/
def cycleListsSpec : ChangeSpec := { name := "cycleLists", fn := fun _ => fun
  | [d1, d2, d3, d4] => { results := [.lit (.bool true)], args := [d1, d2, d3, d4] }
  | _ => none }
def cycleListsRow : OpenClaim := { program := "yteogcbhlilechaa", sum := "25925fcc9f3bdcdf042df6c30a353179ee3990568a64012e27d1481c1e4aeb31", func := "ephemeris/ephemerislaw1.CycleLists", spec := "cycleLists", apart := false }
def CycleListsSaid : Prop := cycleListsRow.holds Try.pinned (OpenSpec.ofChange cycleListsSpec)

/-- ITS FALSE NEIGHBOUR: 'it returns false'. Refute it at one input. -/
def cycleListsWrong : ChangeSpec := { name := "cycleLists", fn := fun _ => fun
  | [d1, d2, d3, d4] => { results := [.lit (.bool false)], args := [d1, d2, d3, d4] }
  | _ => none }
def CycleListsWrongFalsely : Prop := cycleListsRow.holds Try.pinned (OpenSpec.ofChange cycleListsWrong)

/-- 'ephemerislaw1.ArithLeaps': WHATEVER THE INPUT: true; the input reads as it did. -/
def arithLeapsSpec : ChangeSpec := { name := "arithLeaps", fn := fun _ => fun
  | [d1, d2, d3] => { results := [.lit (.bool true)], args := [d1, d2, d3] }
  | _ => none }
def arithLeapsRow : OpenClaim := { program := "yteogcbhlilechaa", sum := "25925fcc9f3bdcdf042df6c30a353179ee3990568a64012e27d1481c1e4aeb31", func := "ephemeris/ephemerislaw1.ArithLeaps", spec := "arithLeaps", unfollowed := true, recurses := true, apart := false }
def ArithLeapsSaid : Prop := arithLeapsRow.holds Try.pinned (OpenSpec.ofChange arithLeapsSpec)

/-- ITS FALSE NEIGHBOUR: 'it returns false'. Refute it at one input. -/
def arithLeapsWrong : ChangeSpec := { name := "arithLeaps", fn := fun _ => fun
  | [d1, d2, d3] => { results := [.lit (.bool false)], args := [d1, d2, d3] }
  | _ => none }
def ArithLeapsWrongFalsely : Prop := arithLeapsRow.holds Try.pinned (OpenSpec.ofChange arithLeapsWrong)

/- THE SECOND FORM. 'bulk': how many values and letters a reading holds, each counted each time it is reached (what is shared counts as often as it is met; a slice's spare places count too). A statement '..UptoSaid' is the law's where the arguments, and the package variables that the reading takes, are together of bulk at most 1048576: NARROWER than '..Said'. Prove '..Said' where nothing that the law and all that it calls make is longer than what came in: it says more and counts as full. Else prove '..UptoSaid'. A law counts once. -/
mutual
def uptoBulk {H : Type} : DataW H → Nat
  | .lit (.string bytes) => bytes.length + 1
  | .lit _ => 1
  | .nil => 1
  | .ptr d => uptoBulk d + 1
  | .slice elems spare => uptoBulkAll elems + uptoBulkAll spare + 1
  | .agg parts => uptoBulkAll parts + 1
  | .iface _ d => uptoBulk d + 1
  | .map entries => uptoBulkEntries entries + 1
  | .held _ => 1
def uptoBulkAll {H : Type} : List (DataW H) → Nat
  | [] => 0
  | d :: r => uptoBulk d + uptoBulkAll r
def uptoBulkEntries {H : Type} : List (Lit × DataW H) → Nat
  | [] => 0
  | x :: r => uptoBulkEntry x + uptoBulkEntries r
def uptoBulkEntry {H : Type} : Lit × DataW H → Nat
  | (.string bytes, d) => bytes.length + uptoBulk d + 1
  | (_, d) => uptoBulk d + 1
 end
def uptoSmall : (H : Type) → List (DataW H) → Bool := fun _ ds => decide (uptoBulkAll ds ≤ 1048576)
def OpenSpec.upto (s : _root_.Go.ChangeSpec) : _root_.Go.OpenSpec := { _root_.Go.OpenSpec.ofChange s with cond := some uptoSmall }

/-- 'ephemerislaw1.RecurChecks', WHERE WHAT IT READS IS OF BULK AT MOST 1048576: true; the input reads as it did. -/
def recurChecksUptoRow : OpenClaim := { program := "yteogcbhlilechaa", sum := "25925fcc9f3bdcdf042df6c30a353179ee3990568a64012e27d1481c1e4aeb31", func := "ephemeris/ephemerislaw1.RecurChecks", spec := "recurChecks", apart := false, narrowed := true }
def RecurChecksUptoSaid : Prop := recurChecksUptoRow.holds Try.pinned (OpenSpec.upto recurChecksSpec)

/-- 'ephemerislaw1.ObservedExtends', WHERE WHAT IT READS IS OF BULK AT MOST 1048576: true; the input reads as it did. -/
def observedExtendsUptoRow : OpenClaim := { program := "yteogcbhlilechaa", sum := "25925fcc9f3bdcdf042df6c30a353179ee3990568a64012e27d1481c1e4aeb31", func := "ephemeris/ephemerislaw1.ObservedExtends", spec := "observedExtends", apart := false, narrowed := true }
def ObservedExtendsUptoSaid : Prop := observedExtendsUptoRow.holds Try.pinned (OpenSpec.upto observedExtendsSpec)

/-- 'ephemerislaw1.CompileTotals', WHERE WHAT IT READS IS OF BULK AT MOST 1048576: true; the input reads as it did. -/
def compileTotalsUptoRow : OpenClaim := { program := "yteogcbhlilechaa", sum := "25925fcc9f3bdcdf042df6c30a353179ee3990568a64012e27d1481c1e4aeb31", func := "ephemeris/ephemerislaw1.CompileTotals", spec := "compileTotals", apart := false, narrowed := true }
def CompileTotalsUptoSaid : Prop := compileTotalsUptoRow.holds Try.pinned (OpenSpec.upto compileTotalsSpec)

/-- 'ephemerislaw1.ObservedDates', WHERE WHAT IT READS IS OF BULK AT MOST 1048576: true; the input reads as it did. -/
def observedDatesUptoRow : OpenClaim := { program := "yteogcbhlilechaa", sum := "25925fcc9f3bdcdf042df6c30a353179ee3990568a64012e27d1481c1e4aeb31", func := "ephemeris/ephemerislaw1.ObservedDates", spec := "observedDates", apart := false, narrowed := true }
def ObservedDatesUptoSaid : Prop := observedDatesUptoRow.holds Try.pinned (OpenSpec.upto observedDatesSpec)

/-- 'ephemerislaw1.CycleNexts', WHERE WHAT IT READS IS OF BULK AT MOST 1048576: true; the input reads as it did. -/
def cycleNextsUptoRow : OpenClaim := { program := "yteogcbhlilechaa", sum := "25925fcc9f3bdcdf042df6c30a353179ee3990568a64012e27d1481c1e4aeb31", func := "ephemeris/ephemerislaw1.CycleNexts", spec := "cycleNexts", apart := false, narrowed := true }
def CycleNextsUptoSaid : Prop := cycleNextsUptoRow.holds Try.pinned (OpenSpec.upto cycleNextsSpec)

/-- 'ephemerislaw1.LunisolarChecks', WHERE WHAT IT READS IS OF BULK AT MOST 1048576: true; the input reads as it did. -/
def lunisolarChecksUptoRow : OpenClaim := { program := "yteogcbhlilechaa", sum := "25925fcc9f3bdcdf042df6c30a353179ee3990568a64012e27d1481c1e4aeb31", func := "ephemeris/ephemerislaw1.LunisolarChecks", spec := "lunisolarChecks", apart := false, narrowed := true }
def LunisolarChecksUptoSaid : Prop := lunisolarChecksUptoRow.holds Try.pinned (OpenSpec.upto lunisolarChecksSpec)

/-- 'ephemerislaw1.FracNears', WHERE WHAT IT READS IS OF BULK AT MOST 1048576: true; the input reads as it did. -/
def fracNearsUptoRow : OpenClaim := { program := "yteogcbhlilechaa", sum := "25925fcc9f3bdcdf042df6c30a353179ee3990568a64012e27d1481c1e4aeb31", func := "ephemeris/ephemerislaw1.FracNears", spec := "fracNears", apart := false, narrowed := true }
def FracNearsUptoSaid : Prop := fracNearsUptoRow.holds Try.pinned (OpenSpec.upto fracNearsSpec)

/-- 'ephemerislaw1.CompileLeasts', WHERE WHAT IT READS IS OF BULK AT MOST 1048576: true; the input reads as it did. -/
def compileLeastsUptoRow : OpenClaim := { program := "yteogcbhlilechaa", sum := "25925fcc9f3bdcdf042df6c30a353179ee3990568a64012e27d1481c1e4aeb31", func := "ephemeris/ephemerislaw1.CompileLeasts", spec := "compileLeasts", apart := false, narrowed := true }
def CompileLeastsUptoSaid : Prop := compileLeastsUptoRow.holds Try.pinned (OpenSpec.upto compileLeastsSpec)

/-- 'ephemerislaw1.CycleLists', WHERE WHAT IT READS IS OF BULK AT MOST 1048576: true; the input reads as it did. -/
def cycleListsUptoRow : OpenClaim := { program := "yteogcbhlilechaa", sum := "25925fcc9f3bdcdf042df6c30a353179ee3990568a64012e27d1481c1e4aeb31", func := "ephemeris/ephemerislaw1.CycleLists", spec := "cycleLists", apart := false, narrowed := true }
def CycleListsUptoSaid : Prop := cycleListsUptoRow.holds Try.pinned (OpenSpec.upto cycleListsSpec)

/-- 'ephemerislaw1.ArithLeaps', WHERE WHAT IT READS IS OF BULK AT MOST 1048576: true; the input reads as it did. -/
def arithLeapsUptoRow : OpenClaim := { program := "yteogcbhlilechaa", sum := "25925fcc9f3bdcdf042df6c30a353179ee3990568a64012e27d1481c1e4aeb31", func := "ephemeris/ephemerislaw1.ArithLeaps", spec := "arithLeaps", unfollowed := true, recurses := true, apart := false, narrowed := true }
def ArithLeapsUptoSaid : Prop := arithLeapsUptoRow.holds Try.pinned (OpenSpec.upto arithLeapsSpec)

end Rows
end Go.Proofs.Yteogcbhlilechaa
