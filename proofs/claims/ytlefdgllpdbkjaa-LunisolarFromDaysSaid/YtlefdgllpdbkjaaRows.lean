/-
  No cell of these rows narrows 'for every input' (looked for: loops, veiled, ifaces, maps, wideKeys, modest, calm, conditions, laid).
  DERIVED. THE GIVEN ROWS OF THIS SEAT. 10 by the template 'for every input the law returns true; each argument reads behind the call as it read before'; 0 by the template 'total and deterministic' (their statements: YtlefdgllpdbkjaaTotals.lean).
  GIVEN WITH THE SEED: the statements are not yours to turn. If you find one false, say at which input.
  Laid BY PROGRAM, IN A SANDBOX (cutbox-rows.mjs): the forced cells as the released guide's own fill.sh prints them over the translation 76021139bbce4e59… (all of the seat's roots in one cut). By AI agents, Wed Nov 11 2026. No macro, syntax, notation, axiom, sorry.
-/
import Derived.Test.YtlefdgllpdbkjaaChecked
import GoSem.Claim
import GoSem.ClaimJoined
import GoSem.ClaimMapViews
import Derived.JoinedTies
import Derived.KernelRfl
namespace Go.Proofs.Ytlefdgllpdbkjaa
/- THE CELL 'sum', in the pinned program and in every row, IS THE sha256 OF THE DUMP (.gsa) THAT YtlefdgllpdbkjaaProg.lean LOADS. Nothing in Lean hashes anything: it is a label: what it is worth is what the hold of that sum in a sandbox is worth. -/
noncomputable def Try.pinned : Pinned := { name := "ytlefdgllpdbkjaa", sum := "76021139bbce4e59000c61eca096c53018ca922fbd60a5b853ab2a490541047e", checked := Try.checked }
namespace Rows
def none {H : Type} : Left H := { results := [], args := [] }

/-- 'ephemerislaw1.ArithNewYears': WHATEVER THE INPUT: true; the input reads as it did. -/
def arithNewYearsSpec : ChangeSpec := { name := "arithNewYears", fn := fun _ => fun
  | [d1, d2] => { results := [.lit (.bool true)], args := [d1, d2] }
  | _ => none }
def arithNewYearsRow : OpenClaim := { program := "ytlefdgllpdbkjaa", sum := "76021139bbce4e59000c61eca096c53018ca922fbd60a5b853ab2a490541047e", func := "ephemeris/ephemerislaw1.ArithNewYears", spec := "arithNewYears", unfollowed := true, recurses := true, apart := false }
def ArithNewYearsSaid : Prop := arithNewYearsRow.holds Try.pinned (OpenSpec.ofChange arithNewYearsSpec)

/-- ITS FALSE NEIGHBOUR: 'it returns false'. Refute it at one input. -/
def arithNewYearsWrong : ChangeSpec := { name := "arithNewYears", fn := fun _ => fun
  | [d1, d2] => { results := [.lit (.bool false)], args := [d1, d2] }
  | _ => none }
def ArithNewYearsWrongFalsely : Prop := arithNewYearsRow.holds Try.pinned (OpenSpec.ofChange arithNewYearsWrong)

/-- 'ephemerislaw1.ArithToDays': WHATEVER THE INPUT: true; the input reads as it did. -/
def arithToDaysSpec : ChangeSpec := { name := "arithToDays", fn := fun _ => fun
  | [d1, d2] => { results := [.lit (.bool true)], args := [d1, d2] }
  | _ => none }
def arithToDaysRow : OpenClaim := { program := "ytlefdgllpdbkjaa", sum := "76021139bbce4e59000c61eca096c53018ca922fbd60a5b853ab2a490541047e", func := "ephemeris/ephemerislaw1.ArithToDays", spec := "arithToDays", unfollowed := true, recurses := true, apart := false }
def ArithToDaysSaid : Prop := arithToDaysRow.holds Try.pinned (OpenSpec.ofChange arithToDaysSpec)

/-- ITS FALSE NEIGHBOUR: 'it returns false'. Refute it at one input. -/
def arithToDaysWrong : ChangeSpec := { name := "arithToDays", fn := fun _ => fun
  | [d1, d2] => { results := [.lit (.bool false)], args := [d1, d2] }
  | _ => none }
def ArithToDaysWrongFalsely : Prop := arithToDaysRow.holds Try.pinned (OpenSpec.ofChange arithToDaysWrong)

/-- 'ephemerislaw1.ArithFromDays': WHATEVER THE INPUT: true; the input reads as it did. -/
def arithFromDaysSpec : ChangeSpec := { name := "arithFromDays", fn := fun _ => fun
  | [d1, d2] => { results := [.lit (.bool true)], args := [d1, d2] }
  | _ => none }
def arithFromDaysRow : OpenClaim := { program := "ytlefdgllpdbkjaa", sum := "76021139bbce4e59000c61eca096c53018ca922fbd60a5b853ab2a490541047e", func := "ephemeris/ephemerislaw1.ArithFromDays", spec := "arithFromDays", unfollowed := true, recurses := true, apart := false }
def ArithFromDaysSaid : Prop := arithFromDaysRow.holds Try.pinned (OpenSpec.ofChange arithFromDaysSpec)

/-- ITS FALSE NEIGHBOUR: 'it returns false'. Refute it at one input. -/
def arithFromDaysWrong : ChangeSpec := { name := "arithFromDays", fn := fun _ => fun
  | [d1, d2] => { results := [.lit (.bool false)], args := [d1, d2] }
  | _ => none }
def ArithFromDaysWrongFalsely : Prop := arithFromDaysRow.holds Try.pinned (OpenSpec.ofChange arithFromDaysWrong)

/-- 'ephemerislaw1.LunisolarBegins': WHATEVER THE INPUT: true; the input reads as it did. -/
def lunisolarBeginsSpec : ChangeSpec := { name := "lunisolarBegins", fn := fun _ => fun
  | [d1, d2, d3] => { results := [.lit (.bool true)], args := [d1, d2, d3] }
  | _ => none }
def lunisolarBeginsRow : OpenClaim := { program := "ytlefdgllpdbkjaa", sum := "76021139bbce4e59000c61eca096c53018ca922fbd60a5b853ab2a490541047e", func := "ephemeris/ephemerislaw1.LunisolarBegins", spec := "lunisolarBegins", unfollowed := true, recurses := true, apart := false }
def LunisolarBeginsSaid : Prop := lunisolarBeginsRow.holds Try.pinned (OpenSpec.ofChange lunisolarBeginsSpec)

/-- ITS FALSE NEIGHBOUR: 'it returns false'. Refute it at one input. -/
def lunisolarBeginsWrong : ChangeSpec := { name := "lunisolarBegins", fn := fun _ => fun
  | [d1, d2, d3] => { results := [.lit (.bool false)], args := [d1, d2, d3] }
  | _ => none }
def LunisolarBeginsWrongFalsely : Prop := lunisolarBeginsRow.holds Try.pinned (OpenSpec.ofChange lunisolarBeginsWrong)

/-- 'ephemerislaw1.LunisolarFromDays': WHATEVER THE INPUT: true; the input reads as it did. -/
def lunisolarFromDaysSpec : ChangeSpec := { name := "lunisolarFromDays", fn := fun _ => fun
  | [d1, d2] => { results := [.lit (.bool true)], args := [d1, d2] }
  | _ => none }
def lunisolarFromDaysRow : OpenClaim := { program := "ytlefdgllpdbkjaa", sum := "76021139bbce4e59000c61eca096c53018ca922fbd60a5b853ab2a490541047e", func := "ephemeris/ephemerislaw1.LunisolarFromDays", spec := "lunisolarFromDays", unfollowed := true, recurses := true, apart := false }
def LunisolarFromDaysSaid : Prop := lunisolarFromDaysRow.holds Try.pinned (OpenSpec.ofChange lunisolarFromDaysSpec)

/-- ITS FALSE NEIGHBOUR: 'it returns false'. Refute it at one input. -/
def lunisolarFromDaysWrong : ChangeSpec := { name := "lunisolarFromDays", fn := fun _ => fun
  | [d1, d2] => { results := [.lit (.bool false)], args := [d1, d2] }
  | _ => none }
def LunisolarFromDaysWrongFalsely : Prop := lunisolarFromDaysRow.holds Try.pinned (OpenSpec.ofChange lunisolarFromDaysWrong)

/-- 'ephemerislaw1.LunisolarToDays': WHATEVER THE INPUT: true; the input reads as it did. -/
def lunisolarToDaysSpec : ChangeSpec := { name := "lunisolarToDays", fn := fun _ => fun
  | [d1, d2] => { results := [.lit (.bool true)], args := [d1, d2] }
  | _ => none }
def lunisolarToDaysRow : OpenClaim := { program := "ytlefdgllpdbkjaa", sum := "76021139bbce4e59000c61eca096c53018ca922fbd60a5b853ab2a490541047e", func := "ephemeris/ephemerislaw1.LunisolarToDays", spec := "lunisolarToDays", unfollowed := true, recurses := true, apart := false }
def LunisolarToDaysSaid : Prop := lunisolarToDaysRow.holds Try.pinned (OpenSpec.ofChange lunisolarToDaysSpec)

/-- ITS FALSE NEIGHBOUR: 'it returns false'. Refute it at one input. -/
def lunisolarToDaysWrong : ChangeSpec := { name := "lunisolarToDays", fn := fun _ => fun
  | [d1, d2] => { results := [.lit (.bool false)], args := [d1, d2] }
  | _ => none }
def LunisolarToDaysWrongFalsely : Prop := lunisolarToDaysRow.holds Try.pinned (OpenSpec.ofChange lunisolarToDaysWrong)

/-- 'ephemerislaw1.RecurLists': WHATEVER THE INPUT: true; the input reads as it did. -/
def recurListsSpec : ChangeSpec := { name := "recurLists", fn := fun _ => fun
  | [d1, d2, d3] => { results := [.lit (.bool true)], args := [d1, d2, d3] }
  | _ => none }
def recurListsRow : OpenClaim := { program := "ytlefdgllpdbkjaa", sum := "76021139bbce4e59000c61eca096c53018ca922fbd60a5b853ab2a490541047e", func := "ephemeris/ephemerislaw1.RecurLists", spec := "recurLists", apart := false }
def RecurListsSaid : Prop := recurListsRow.holds Try.pinned (OpenSpec.ofChange recurListsSpec)

/-- ITS FALSE NEIGHBOUR: 'it returns false'. Refute it at one input. -/
def recurListsWrong : ChangeSpec := { name := "recurLists", fn := fun _ => fun
  | [d1, d2, d3] => { results := [.lit (.bool false)], args := [d1, d2, d3] }
  | _ => none }
def RecurListsWrongFalsely : Prop := recurListsRow.holds Try.pinned (OpenSpec.ofChange recurListsWrong)

/-- 'ephemerislaw1.ArithLaters': WHATEVER THE INPUT: true; the input reads as it did. -/
def arithLatersSpec : ChangeSpec := { name := "arithLaters", fn := fun _ => fun
  | [d1, d2, d3, d4] => { results := [.lit (.bool true)], args := [d1, d2, d3, d4] }
  | _ => none }
def arithLatersRow : OpenClaim := { program := "ytlefdgllpdbkjaa", sum := "76021139bbce4e59000c61eca096c53018ca922fbd60a5b853ab2a490541047e", func := "ephemeris/ephemerislaw1.ArithLaters", spec := "arithLaters", unfollowed := true, recurses := true, apart := false }
def ArithLatersSaid : Prop := arithLatersRow.holds Try.pinned (OpenSpec.ofChange arithLatersSpec)

/-- ITS FALSE NEIGHBOUR: 'it returns false'. Refute it at one input. -/
def arithLatersWrong : ChangeSpec := { name := "arithLaters", fn := fun _ => fun
  | [d1, d2, d3, d4] => { results := [.lit (.bool false)], args := [d1, d2, d3, d4] }
  | _ => none }
def ArithLatersWrongFalsely : Prop := arithLatersRow.holds Try.pinned (OpenSpec.ofChange arithLatersWrong)

/-- 'ephemerislaw1.ObservedOfs': WHATEVER THE INPUT: true; the input reads as it did. -/
def observedOfsSpec : ChangeSpec := { name := "observedOfs", fn := fun _ => fun
  | [d1, d2, d3] => { results := [.lit (.bool true)], args := [d1, d2, d3] }
  | _ => none }
def observedOfsRow : OpenClaim := { program := "ytlefdgllpdbkjaa", sum := "76021139bbce4e59000c61eca096c53018ca922fbd60a5b853ab2a490541047e", func := "ephemeris/ephemerislaw1.ObservedOfs", spec := "observedOfs", unfollowed := true, recurses := true, apart := false }
def ObservedOfsSaid : Prop := observedOfsRow.holds Try.pinned (OpenSpec.ofChange observedOfsSpec)

/-- ITS FALSE NEIGHBOUR: 'it returns false'. Refute it at one input. -/
def observedOfsWrong : ChangeSpec := { name := "observedOfs", fn := fun _ => fun
  | [d1, d2, d3] => { results := [.lit (.bool false)], args := [d1, d2, d3] }
  | _ => none }
def ObservedOfsWrongFalsely : Prop := observedOfsRow.holds Try.pinned (OpenSpec.ofChange observedOfsWrong)

/-- 'ephemerislaw1.RecurDiffs': WHATEVER THE INPUT: true; the input reads as it did. -/
def recurDiffsSpec : ChangeSpec := { name := "recurDiffs", fn := fun _ => fun
  | [d1, d2, d3, d4] => { results := [.lit (.bool true)], args := [d1, d2, d3, d4] }
  | _ => none }
def recurDiffsRow : OpenClaim := { program := "ytlefdgllpdbkjaa", sum := "76021139bbce4e59000c61eca096c53018ca922fbd60a5b853ab2a490541047e", func := "ephemeris/ephemerislaw1.RecurDiffs", spec := "recurDiffs", apart := false }
def RecurDiffsSaid : Prop := recurDiffsRow.holds Try.pinned (OpenSpec.ofChange recurDiffsSpec)

/-- ITS FALSE NEIGHBOUR: 'it returns false'. Refute it at one input. -/
def recurDiffsWrong : ChangeSpec := { name := "recurDiffs", fn := fun _ => fun
  | [d1, d2, d3, d4] => { results := [.lit (.bool false)], args := [d1, d2, d3, d4] }
  | _ => none }
def RecurDiffsWrongFalsely : Prop := recurDiffsRow.holds Try.pinned (OpenSpec.ofChange recurDiffsWrong)

/- THE SECOND FORM. 'bulk': how many values and letters a reading holds, each counted each time it is reached (what is shared counts as often as it is met; a slice's spare places count too). A statement '..UptoSaid' is the law's where the arguments, and the package variables that the reading takes, are together of bulk at most 1048576: NARROWER than '..Said'. Prove '..Said' where nothing that the law and all that it calls make is longer than what came in: it says more and counts as full. Else prove '..UptoSaid'. A law counts once. -/
mutual
def uptoBulk {H : Type} : DataW H → Nat
  | .lit (.string bytes) => bytes.length + 1
  | .lit _ => 1
  | .nil => 1
  | .ptr d => uptoBulk d + 1
  | .slice elems spare => uptoBulkAll elems + uptoBulkAll spare + 1
  | .agg parts => uptoBulkAll parts + 1
  | .iface _ d => uptoBulk d + 1
  | .map entries => uptoBulkEntries entries + 1
  | .held _ => 1
def uptoBulkAll {H : Type} : List (DataW H) → Nat
  | [] => 0
  | d :: r => uptoBulk d + uptoBulkAll r
def uptoBulkEntries {H : Type} : List (Lit × DataW H) → Nat
  | [] => 0
  | x :: r => uptoBulkEntry x + uptoBulkEntries r
def uptoBulkEntry {H : Type} : Lit × DataW H → Nat
  | (.string bytes, d) => bytes.length + uptoBulk d + 1
  | (_, d) => uptoBulk d + 1
 end
def uptoSmall : (H : Type) → List (DataW H) → Bool := fun _ ds => decide (uptoBulkAll ds ≤ 1048576)
def OpenSpec.upto (s : _root_.Go.ChangeSpec) : _root_.Go.OpenSpec := { _root_.Go.OpenSpec.ofChange s with cond := some uptoSmall }

/-- 'ephemerislaw1.ArithNewYears', WHERE WHAT IT READS IS OF BULK AT MOST 1048576: true; the input reads as it did. -/
def arithNewYearsUptoRow : OpenClaim := { program := "ytlefdgllpdbkjaa", sum := "76021139bbce4e59000c61eca096c53018ca922fbd60a5b853ab2a490541047e", func := "ephemeris/ephemerislaw1.ArithNewYears", spec := "arithNewYears", unfollowed := true, recurses := true, apart := false, narrowed := true }
def ArithNewYearsUptoSaid : Prop := arithNewYearsUptoRow.holds Try.pinned (OpenSpec.upto arithNewYearsSpec)

/-- 'ephemerislaw1.ArithToDays', WHERE WHAT IT READS IS OF BULK AT MOST 1048576: true; the input reads as it did. -/
def arithToDaysUptoRow : OpenClaim := { program := "ytlefdgllpdbkjaa", sum := "76021139bbce4e59000c61eca096c53018ca922fbd60a5b853ab2a490541047e", func := "ephemeris/ephemerislaw1.ArithToDays", spec := "arithToDays", unfollowed := true, recurses := true, apart := false, narrowed := true }
def ArithToDaysUptoSaid : Prop := arithToDaysUptoRow.holds Try.pinned (OpenSpec.upto arithToDaysSpec)

/-- 'ephemerislaw1.ArithFromDays', WHERE WHAT IT READS IS OF BULK AT MOST 1048576: true; the input reads as it did. -/
def arithFromDaysUptoRow : OpenClaim := { program := "ytlefdgllpdbkjaa", sum := "76021139bbce4e59000c61eca096c53018ca922fbd60a5b853ab2a490541047e", func := "ephemeris/ephemerislaw1.ArithFromDays", spec := "arithFromDays", unfollowed := true, recurses := true, apart := false, narrowed := true }
def ArithFromDaysUptoSaid : Prop := arithFromDaysUptoRow.holds Try.pinned (OpenSpec.upto arithFromDaysSpec)

/-- 'ephemerislaw1.LunisolarBegins', WHERE WHAT IT READS IS OF BULK AT MOST 1048576: true; the input reads as it did. -/
def lunisolarBeginsUptoRow : OpenClaim := { program := "ytlefdgllpdbkjaa", sum := "76021139bbce4e59000c61eca096c53018ca922fbd60a5b853ab2a490541047e", func := "ephemeris/ephemerislaw1.LunisolarBegins", spec := "lunisolarBegins", unfollowed := true, recurses := true, apart := false, narrowed := true }
def LunisolarBeginsUptoSaid : Prop := lunisolarBeginsUptoRow.holds Try.pinned (OpenSpec.upto lunisolarBeginsSpec)

/-- 'ephemerislaw1.LunisolarFromDays', WHERE WHAT IT READS IS OF BULK AT MOST 1048576: true; the input reads as it did. -/
def lunisolarFromDaysUptoRow : OpenClaim := { program := "ytlefdgllpdbkjaa", sum := "76021139bbce4e59000c61eca096c53018ca922fbd60a5b853ab2a490541047e", func := "ephemeris/ephemerislaw1.LunisolarFromDays", spec := "lunisolarFromDays", unfollowed := true, recurses := true, apart := false, narrowed := true }
def LunisolarFromDaysUptoSaid : Prop := lunisolarFromDaysUptoRow.holds Try.pinned (OpenSpec.upto lunisolarFromDaysSpec)

/-- 'ephemerislaw1.LunisolarToDays', WHERE WHAT IT READS IS OF BULK AT MOST 1048576: true; the input reads as it did. -/
def lunisolarToDaysUptoRow : OpenClaim := { program := "ytlefdgllpdbkjaa", sum := "76021139bbce4e59000c61eca096c53018ca922fbd60a5b853ab2a490541047e", func := "ephemeris/ephemerislaw1.LunisolarToDays", spec := "lunisolarToDays", unfollowed := true, recurses := true, apart := false, narrowed := true }
def LunisolarToDaysUptoSaid : Prop := lunisolarToDaysUptoRow.holds Try.pinned (OpenSpec.upto lunisolarToDaysSpec)

/-- 'ephemerislaw1.RecurLists', WHERE WHAT IT READS IS OF BULK AT MOST 1048576: true; the input reads as it did. -/
def recurListsUptoRow : OpenClaim := { program := "ytlefdgllpdbkjaa", sum := "76021139bbce4e59000c61eca096c53018ca922fbd60a5b853ab2a490541047e", func := "ephemeris/ephemerislaw1.RecurLists", spec := "recurLists", apart := false, narrowed := true }
def RecurListsUptoSaid : Prop := recurListsUptoRow.holds Try.pinned (OpenSpec.upto recurListsSpec)

/-- 'ephemerislaw1.ArithLaters', WHERE WHAT IT READS IS OF BULK AT MOST 1048576: true; the input reads as it did. -/
def arithLatersUptoRow : OpenClaim := { program := "ytlefdgllpdbkjaa", sum := "76021139bbce4e59000c61eca096c53018ca922fbd60a5b853ab2a490541047e", func := "ephemeris/ephemerislaw1.ArithLaters", spec := "arithLaters", unfollowed := true, recurses := true, apart := false, narrowed := true }
def ArithLatersUptoSaid : Prop := arithLatersUptoRow.holds Try.pinned (OpenSpec.upto arithLatersSpec)

/-- 'ephemerislaw1.ObservedOfs', WHERE WHAT IT READS IS OF BULK AT MOST 1048576: true; the input reads as it did. -/
def observedOfsUptoRow : OpenClaim := { program := "ytlefdgllpdbkjaa", sum := "76021139bbce4e59000c61eca096c53018ca922fbd60a5b853ab2a490541047e", func := "ephemeris/ephemerislaw1.ObservedOfs", spec := "observedOfs", unfollowed := true, recurses := true, apart := false, narrowed := true }
def ObservedOfsUptoSaid : Prop := observedOfsUptoRow.holds Try.pinned (OpenSpec.upto observedOfsSpec)

/-- 'ephemerislaw1.RecurDiffs', WHERE WHAT IT READS IS OF BULK AT MOST 1048576: true; the input reads as it did. -/
def recurDiffsUptoRow : OpenClaim := { program := "ytlefdgllpdbkjaa", sum := "76021139bbce4e59000c61eca096c53018ca922fbd60a5b853ab2a490541047e", func := "ephemeris/ephemerislaw1.RecurDiffs", spec := "recurDiffs", apart := false, narrowed := true }
def RecurDiffsUptoSaid : Prop := recurDiffsUptoRow.holds Try.pinned (OpenSpec.upto recurDiffsSpec)

end Rows
end Go.Proofs.Ytlefdgllpdbkjaa
