/-
  No cell of these rows narrows 'for every input' (looked for: loops, veiled, ifaces, maps, wideKeys, modest, calm, conditions, laid).
  DERIVED. THE GIVEN ROWS OF THIS SEAT. 12 by the template 'for every input the law returns true; each argument reads behind the call as it read before'; 0 by the template 'total and deterministic' (their statements: YtmnemnoaijldjaaTotals.lean).
  GIVEN WITH THE SEED: the statements are not yours to turn. If you find one false, say at which input.
  Laid BY PROGRAM, IN A SANDBOX (cutbox-rows.mjs): the forced cells as the released guide's own fill.sh prints them over the translation 32b2b023fd2066bb… (all of the seat's roots in one cut). By AI agents, Wed Nov 11 2026. No macro, syntax, notation, axiom, sorry.
-/
import Derived.Test.YtmnemnoaijldjaaChecked
import GoSem.Claim
import GoSem.ClaimJoined
import GoSem.ClaimMapViews
import Derived.JoinedTies
import Derived.KernelRfl
namespace Go.Proofs.Ytmnemnoaijldjaa
/- THE CELL 'sum', in the pinned program and in every row, IS THE sha256 OF THE DUMP (.gsa) THAT YtmnemnoaijldjaaProg.lean LOADS. Nothing in Lean hashes anything: it is a label: what it is worth is what the hold of that sum in a sandbox is worth. -/
noncomputable def Try.pinned : Pinned := { name := "ytmnemnoaijldjaa", sum := "32b2b023fd2066bb1caa64519e12f9b0f4f76ba26721865acd0fa97831ef43a2", checked := Try.checked }
namespace Rows
def none {H : Type} : Left H := { results := [], args := [] }

/-- 'ephemerislaw1.Names': WHATEVER THE INPUT: true; the input reads as it did. -/
def namesSpec : ChangeSpec := { name := "names", fn := fun _ => fun
  | [] => { results := [.lit (.bool true)], args := [] }
  | _ => none }
def namesRow : OpenClaim := { program := "ytmnemnoaijldjaa", sum := "32b2b023fd2066bb1caa64519e12f9b0f4f76ba26721865acd0fa97831ef43a2", func := "ephemeris/ephemerislaw1.Names", spec := "names", apart := false }
def NamesSaid : Prop := namesRow.holds Try.pinned (OpenSpec.ofChange namesSpec)

/-- ITS FALSE NEIGHBOUR: 'it returns false'. Refute it at one input. -/
def namesWrong : ChangeSpec := { name := "names", fn := fun _ => fun
  | [] => { results := [.lit (.bool false)], args := [] }
  | _ => none }
def NamesWrongFalsely : Prop := namesRow.holds Try.pinned (OpenSpec.ofChange namesWrong)

/-- 'ephemerislaw1.WholeRoots': WHATEVER THE INPUT: true; the input reads as it did. -/
def wholeRootsSpec : ChangeSpec := { name := "wholeRoots", fn := fun _ => fun
  | [d] => { results := [.lit (.bool true)], args := [d] }
  | _ => none }
def wholeRootsRow : OpenClaim := { program := "ytmnemnoaijldjaa", sum := "32b2b023fd2066bb1caa64519e12f9b0f4f76ba26721865acd0fa97831ef43a2", func := "ephemeris/ephemerislaw1.WholeRoots", spec := "wholeRoots", apart := false }
def WholeRootsSaid : Prop := wholeRootsRow.holds Try.pinned (OpenSpec.ofChange wholeRootsSpec)

/-- ITS FALSE NEIGHBOUR: 'it returns false'. Refute it at one input. -/
def wholeRootsWrong : ChangeSpec := { name := "wholeRoots", fn := fun _ => fun
  | [d] => { results := [.lit (.bool false)], args := [d] }
  | _ => none }
def WholeRootsWrongFalsely : Prop := wholeRootsRow.holds Try.pinned (OpenSpec.ofChange wholeRootsWrong)

/-- 'ephemerislaw1.CycleChecks': WHATEVER THE INPUT: true; the input reads as it did. -/
def cycleChecksSpec : ChangeSpec := { name := "cycleChecks", fn := fun _ => fun
  | [d] => { results := [.lit (.bool true)], args := [d] }
  | _ => none }
def cycleChecksRow : OpenClaim := { program := "ytmnemnoaijldjaa", sum := "32b2b023fd2066bb1caa64519e12f9b0f4f76ba26721865acd0fa97831ef43a2", func := "ephemeris/ephemerislaw1.CycleChecks", spec := "cycleChecks", apart := false }
def CycleChecksSaid : Prop := cycleChecksRow.holds Try.pinned (OpenSpec.ofChange cycleChecksSpec)

/-- ITS FALSE NEIGHBOUR: 'it returns false'. Refute it at one input. -/
def cycleChecksWrong : ChangeSpec := { name := "cycleChecks", fn := fun _ => fun
  | [d] => { results := [.lit (.bool false)], args := [d] }
  | _ => none }
def CycleChecksWrongFalsely : Prop := cycleChecksRow.holds Try.pinned (OpenSpec.ofChange cycleChecksWrong)

/-- 'ephemerislaw1.WholeGcds': WHATEVER THE INPUT: true; the input reads as it did. -/
def wholeGcdsSpec : ChangeSpec := { name := "wholeGcds", fn := fun _ => fun
  | [d1, d2] => { results := [.lit (.bool true)], args := [d1, d2] }
  | _ => none }
def wholeGcdsRow : OpenClaim := { program := "ytmnemnoaijldjaa", sum := "32b2b023fd2066bb1caa64519e12f9b0f4f76ba26721865acd0fa97831ef43a2", func := "ephemeris/ephemerislaw1.WholeGcds", spec := "wholeGcds", apart := false }
def WholeGcdsSaid : Prop := wholeGcdsRow.holds Try.pinned (OpenSpec.ofChange wholeGcdsSpec)

/-- ITS FALSE NEIGHBOUR: 'it returns false'. Refute it at one input. -/
def wholeGcdsWrong : ChangeSpec := { name := "wholeGcds", fn := fun _ => fun
  | [d1, d2] => { results := [.lit (.bool false)], args := [d1, d2] }
  | _ => none }
def WholeGcdsWrongFalsely : Prop := wholeGcdsRow.holds Try.pinned (OpenSpec.ofChange wholeGcdsWrong)

/-- 'ephemerislaw1.LineWeekdays': WHATEVER THE INPUT: true; the input reads as it did. -/
def lineWeekdaysSpec : ChangeSpec := { name := "lineWeekdays", fn := fun _ => fun
  | [d] => { results := [.lit (.bool true)], args := [d] }
  | _ => none }
def lineWeekdaysRow : OpenClaim := { program := "ytmnemnoaijldjaa", sum := "32b2b023fd2066bb1caa64519e12f9b0f4f76ba26721865acd0fa97831ef43a2", func := "ephemeris/ephemerislaw1.LineWeekdays", spec := "lineWeekdays", apart := false }
def LineWeekdaysSaid : Prop := lineWeekdaysRow.holds Try.pinned (OpenSpec.ofChange lineWeekdaysSpec)

/-- ITS FALSE NEIGHBOUR: 'it returns false'. Refute it at one input. -/
def lineWeekdaysWrong : ChangeSpec := { name := "lineWeekdays", fn := fun _ => fun
  | [d] => { results := [.lit (.bool false)], args := [d] }
  | _ => none }
def LineWeekdaysWrongFalsely : Prop := lineWeekdaysRow.holds Try.pinned (OpenSpec.ofChange lineWeekdaysWrong)

/-- 'ephemerislaw1.LineCycles': WHATEVER THE INPUT: true; the input reads as it did. -/
def lineCyclesSpec : ChangeSpec := { name := "lineCycles", fn := fun _ => fun
  | [d1, d2, d3] => { results := [.lit (.bool true)], args := [d1, d2, d3] }
  | _ => none }
def lineCyclesRow : OpenClaim := { program := "ytmnemnoaijldjaa", sum := "32b2b023fd2066bb1caa64519e12f9b0f4f76ba26721865acd0fa97831ef43a2", func := "ephemeris/ephemerislaw1.LineCycles", spec := "lineCycles", apart := false }
def LineCyclesSaid : Prop := lineCyclesRow.holds Try.pinned (OpenSpec.ofChange lineCyclesSpec)

/-- ITS FALSE NEIGHBOUR: 'it returns false'. Refute it at one input. -/
def lineCyclesWrong : ChangeSpec := { name := "lineCycles", fn := fun _ => fun
  | [d1, d2, d3] => { results := [.lit (.bool false)], args := [d1, d2, d3] }
  | _ => none }
def LineCyclesWrongFalsely : Prop := lineCyclesRow.holds Try.pinned (OpenSpec.ofChange lineCyclesWrong)

/-- 'ephemerislaw1.LineNths': WHATEVER THE INPUT: true; the input reads as it did. -/
def lineNthsSpec : ChangeSpec := { name := "lineNths", fn := fun _ => fun
  | [d1, d2, d3] => { results := [.lit (.bool true)], args := [d1, d2, d3] }
  | _ => none }
def lineNthsRow : OpenClaim := { program := "ytmnemnoaijldjaa", sum := "32b2b023fd2066bb1caa64519e12f9b0f4f76ba26721865acd0fa97831ef43a2", func := "ephemeris/ephemerislaw1.LineNths", spec := "lineNths", apart := false }
def LineNthsSaid : Prop := lineNthsRow.holds Try.pinned (OpenSpec.ofChange lineNthsSpec)

/-- ITS FALSE NEIGHBOUR: 'it returns false'. Refute it at one input. -/
def lineNthsWrong : ChangeSpec := { name := "lineNths", fn := fun _ => fun
  | [d1, d2, d3] => { results := [.lit (.bool false)], args := [d1, d2, d3] }
  | _ => none }
def LineNthsWrongFalsely : Prop := lineNthsRow.holds Try.pinned (OpenSpec.ofChange lineNthsWrong)

/-- 'ephemerislaw1.EraChecks': WHATEVER THE INPUT: true; the input reads as it did. -/
def eraChecksSpec : ChangeSpec := { name := "eraChecks", fn := fun _ => fun
  | [d] => { results := [.lit (.bool true)], args := [d] }
  | _ => none }
def eraChecksRow : OpenClaim := { program := "ytmnemnoaijldjaa", sum := "32b2b023fd2066bb1caa64519e12f9b0f4f76ba26721865acd0fa97831ef43a2", func := "ephemeris/ephemerislaw1.EraChecks", spec := "eraChecks", apart := false }
def EraChecksSaid : Prop := eraChecksRow.holds Try.pinned (OpenSpec.ofChange eraChecksSpec)

/-- ITS FALSE NEIGHBOUR: 'it returns false'. Refute it at one input. -/
def eraChecksWrong : ChangeSpec := { name := "eraChecks", fn := fun _ => fun
  | [d] => { results := [.lit (.bool false)], args := [d] }
  | _ => none }
def EraChecksWrongFalsely : Prop := eraChecksRow.holds Try.pinned (OpenSpec.ofChange eraChecksWrong)

/-- 'ephemerislaw1.LineInstants': WHATEVER THE INPUT: true; the input reads as it did. -/
def lineInstantsSpec : ChangeSpec := { name := "lineInstants", fn := fun _ => fun
  | [d1, d2, d3] => { results := [.lit (.bool true)], args := [d1, d2, d3] }
  | _ => none }
def lineInstantsRow : OpenClaim := { program := "ytmnemnoaijldjaa", sum := "32b2b023fd2066bb1caa64519e12f9b0f4f76ba26721865acd0fa97831ef43a2", func := "ephemeris/ephemerislaw1.LineInstants", spec := "lineInstants", apart := false }
def LineInstantsSaid : Prop := lineInstantsRow.holds Try.pinned (OpenSpec.ofChange lineInstantsSpec)

/-- ITS FALSE NEIGHBOUR: 'it returns false'. Refute it at one input. -/
def lineInstantsWrong : ChangeSpec := { name := "lineInstants", fn := fun _ => fun
  | [d1, d2, d3] => { results := [.lit (.bool false)], args := [d1, d2, d3] }
  | _ => none }
def LineInstantsWrongFalsely : Prop := lineInstantsRow.holds Try.pinned (OpenSpec.ofChange lineInstantsWrong)

/-- 'ephemerislaw1.WholeSolves': WHATEVER THE INPUT: true; the input reads as it did. -/
def wholeSolvesSpec : ChangeSpec := { name := "wholeSolves", fn := fun _ => fun
  | [d1, d2, d3] => { results := [.lit (.bool true)], args := [d1, d2, d3] }
  | _ => none }
def wholeSolvesRow : OpenClaim := { program := "ytmnemnoaijldjaa", sum := "32b2b023fd2066bb1caa64519e12f9b0f4f76ba26721865acd0fa97831ef43a2", func := "ephemeris/ephemerislaw1.WholeSolves", spec := "wholeSolves", apart := false }
def WholeSolvesSaid : Prop := wholeSolvesRow.holds Try.pinned (OpenSpec.ofChange wholeSolvesSpec)

/-- ITS FALSE NEIGHBOUR: 'it returns false'. Refute it at one input. -/
def wholeSolvesWrong : ChangeSpec := { name := "wholeSolves", fn := fun _ => fun
  | [d1, d2, d3] => { results := [.lit (.bool false)], args := [d1, d2, d3] }
  | _ => none }
def WholeSolvesWrongFalsely : Prop := wholeSolvesRow.holds Try.pinned (OpenSpec.ofChange wholeSolvesWrong)

/-- 'ephemerislaw1.WholeMeets': WHATEVER THE INPUT: true; the input reads as it did. -/
def wholeMeetsSpec : ChangeSpec := { name := "wholeMeets", fn := fun _ => fun
  | [d1, d2, d3, d4] => { results := [.lit (.bool true)], args := [d1, d2, d3, d4] }
  | _ => none }
def wholeMeetsRow : OpenClaim := { program := "ytmnemnoaijldjaa", sum := "32b2b023fd2066bb1caa64519e12f9b0f4f76ba26721865acd0fa97831ef43a2", func := "ephemeris/ephemerislaw1.WholeMeets", spec := "wholeMeets", apart := false }
def WholeMeetsSaid : Prop := wholeMeetsRow.holds Try.pinned (OpenSpec.ofChange wholeMeetsSpec)

/-- ITS FALSE NEIGHBOUR: 'it returns false'. Refute it at one input. -/
def wholeMeetsWrong : ChangeSpec := { name := "wholeMeets", fn := fun _ => fun
  | [d1, d2, d3, d4] => { results := [.lit (.bool false)], args := [d1, d2, d3, d4] }
  | _ => none }
def WholeMeetsWrongFalsely : Prop := wholeMeetsRow.holds Try.pinned (OpenSpec.ofChange wholeMeetsWrong)

/-- 'ephemerislaw1.WholeDivides': WHATEVER THE INPUT: true; the input reads as it did. -/
def wholeDividesSpec : ChangeSpec := { name := "wholeDivides", fn := fun _ => fun
  | [d1, d2] => { results := [.lit (.bool true)], args := [d1, d2] }
  | _ => none }
def wholeDividesRow : OpenClaim := { program := "ytmnemnoaijldjaa", sum := "32b2b023fd2066bb1caa64519e12f9b0f4f76ba26721865acd0fa97831ef43a2", func := "ephemeris/ephemerislaw1.WholeDivides", spec := "wholeDivides", apart := false }
def WholeDividesSaid : Prop := wholeDividesRow.holds Try.pinned (OpenSpec.ofChange wholeDividesSpec)

/-- ITS FALSE NEIGHBOUR: 'it returns false'. Refute it at one input. -/
def wholeDividesWrong : ChangeSpec := { name := "wholeDivides", fn := fun _ => fun
  | [d1, d2] => { results := [.lit (.bool false)], args := [d1, d2] }
  | _ => none }
def WholeDividesWrongFalsely : Prop := wholeDividesRow.holds Try.pinned (OpenSpec.ofChange wholeDividesWrong)

/- THE SECOND FORM. 'bulk': how many values and letters a reading holds, each counted each time it is reached (what is shared counts as often as it is met; a slice's spare places count too). A statement '..UptoSaid' is the law's where the arguments, and the package variables that the reading takes, are together of bulk at most 1048576: NARROWER than '..Said'. Prove '..Said' where nothing that the law and all that it calls make is longer than what came in: it says more and counts as full. Else prove '..UptoSaid'. A law counts once. -/
mutual
def uptoBulk {H : Type} : DataW H → Nat
  | .lit (.string bytes) => bytes.length + 1
  | .lit _ => 1
  | .nil => 1
  | .ptr d => uptoBulk d + 1
  | .slice elems spare => uptoBulkAll elems + uptoBulkAll spare + 1
  | .agg parts => uptoBulkAll parts + 1
  | .iface _ d => uptoBulk d + 1
  | .map entries => uptoBulkEntries entries + 1
  | .held _ => 1
def uptoBulkAll {H : Type} : List (DataW H) → Nat
  | [] => 0
  | d :: r => uptoBulk d + uptoBulkAll r
def uptoBulkEntries {H : Type} : List (Lit × DataW H) → Nat
  | [] => 0
  | x :: r => uptoBulkEntry x + uptoBulkEntries r
def uptoBulkEntry {H : Type} : Lit × DataW H → Nat
  | (.string bytes, d) => bytes.length + uptoBulk d + 1
  | (_, d) => uptoBulk d + 1
 end
def uptoSmall : (H : Type) → List (DataW H) → Bool := fun _ ds => decide (uptoBulkAll ds ≤ 1048576)
def OpenSpec.upto (s : _root_.Go.ChangeSpec) : _root_.Go.OpenSpec := { _root_.Go.OpenSpec.ofChange s with cond := some uptoSmall }

/-- 'ephemerislaw1.Names', WHERE WHAT IT READS IS OF BULK AT MOST 1048576: true; the input reads as it did. -/
def namesUptoRow : OpenClaim := { program := "ytmnemnoaijldjaa", sum := "32b2b023fd2066bb1caa64519e12f9b0f4f76ba26721865acd0fa97831ef43a2", func := "ephemeris/ephemerislaw1.Names", spec := "names", apart := false, narrowed := true }
def NamesUptoSaid : Prop := namesUptoRow.holds Try.pinned (OpenSpec.upto namesSpec)

/-- 'ephemerislaw1.WholeRoots', WHERE WHAT IT READS IS OF BULK AT MOST 1048576: true; the input reads as it did. -/
def wholeRootsUptoRow : OpenClaim := { program := "ytmnemnoaijldjaa", sum := "32b2b023fd2066bb1caa64519e12f9b0f4f76ba26721865acd0fa97831ef43a2", func := "ephemeris/ephemerislaw1.WholeRoots", spec := "wholeRoots", apart := false, narrowed := true }
def WholeRootsUptoSaid : Prop := wholeRootsUptoRow.holds Try.pinned (OpenSpec.upto wholeRootsSpec)

/-- 'ephemerislaw1.CycleChecks', WHERE WHAT IT READS IS OF BULK AT MOST 1048576: true; the input reads as it did. -/
def cycleChecksUptoRow : OpenClaim := { program := "ytmnemnoaijldjaa", sum := "32b2b023fd2066bb1caa64519e12f9b0f4f76ba26721865acd0fa97831ef43a2", func := "ephemeris/ephemerislaw1.CycleChecks", spec := "cycleChecks", apart := false, narrowed := true }
def CycleChecksUptoSaid : Prop := cycleChecksUptoRow.holds Try.pinned (OpenSpec.upto cycleChecksSpec)

/-- 'ephemerislaw1.WholeGcds', WHERE WHAT IT READS IS OF BULK AT MOST 1048576: true; the input reads as it did. -/
def wholeGcdsUptoRow : OpenClaim := { program := "ytmnemnoaijldjaa", sum := "32b2b023fd2066bb1caa64519e12f9b0f4f76ba26721865acd0fa97831ef43a2", func := "ephemeris/ephemerislaw1.WholeGcds", spec := "wholeGcds", apart := false, narrowed := true }
def WholeGcdsUptoSaid : Prop := wholeGcdsUptoRow.holds Try.pinned (OpenSpec.upto wholeGcdsSpec)

/-- 'ephemerislaw1.LineWeekdays', WHERE WHAT IT READS IS OF BULK AT MOST 1048576: true; the input reads as it did. -/
def lineWeekdaysUptoRow : OpenClaim := { program := "ytmnemnoaijldjaa", sum := "32b2b023fd2066bb1caa64519e12f9b0f4f76ba26721865acd0fa97831ef43a2", func := "ephemeris/ephemerislaw1.LineWeekdays", spec := "lineWeekdays", apart := false, narrowed := true }
def LineWeekdaysUptoSaid : Prop := lineWeekdaysUptoRow.holds Try.pinned (OpenSpec.upto lineWeekdaysSpec)

/-- 'ephemerislaw1.LineCycles', WHERE WHAT IT READS IS OF BULK AT MOST 1048576: true; the input reads as it did. -/
def lineCyclesUptoRow : OpenClaim := { program := "ytmnemnoaijldjaa", sum := "32b2b023fd2066bb1caa64519e12f9b0f4f76ba26721865acd0fa97831ef43a2", func := "ephemeris/ephemerislaw1.LineCycles", spec := "lineCycles", apart := false, narrowed := true }
def LineCyclesUptoSaid : Prop := lineCyclesUptoRow.holds Try.pinned (OpenSpec.upto lineCyclesSpec)

/-- 'ephemerislaw1.LineNths', WHERE WHAT IT READS IS OF BULK AT MOST 1048576: true; the input reads as it did. -/
def lineNthsUptoRow : OpenClaim := { program := "ytmnemnoaijldjaa", sum := "32b2b023fd2066bb1caa64519e12f9b0f4f76ba26721865acd0fa97831ef43a2", func := "ephemeris/ephemerislaw1.LineNths", spec := "lineNths", apart := false, narrowed := true }
def LineNthsUptoSaid : Prop := lineNthsUptoRow.holds Try.pinned (OpenSpec.upto lineNthsSpec)

/-- 'ephemerislaw1.EraChecks', WHERE WHAT IT READS IS OF BULK AT MOST 1048576: true; the input reads as it did. -/
def eraChecksUptoRow : OpenClaim := { program := "ytmnemnoaijldjaa", sum := "32b2b023fd2066bb1caa64519e12f9b0f4f76ba26721865acd0fa97831ef43a2", func := "ephemeris/ephemerislaw1.EraChecks", spec := "eraChecks", apart := false, narrowed := true }
def EraChecksUptoSaid : Prop := eraChecksUptoRow.holds Try.pinned (OpenSpec.upto eraChecksSpec)

/-- 'ephemerislaw1.LineInstants', WHERE WHAT IT READS IS OF BULK AT MOST 1048576: true; the input reads as it did. -/
def lineInstantsUptoRow : OpenClaim := { program := "ytmnemnoaijldjaa", sum := "32b2b023fd2066bb1caa64519e12f9b0f4f76ba26721865acd0fa97831ef43a2", func := "ephemeris/ephemerislaw1.LineInstants", spec := "lineInstants", apart := false, narrowed := true }
def LineInstantsUptoSaid : Prop := lineInstantsUptoRow.holds Try.pinned (OpenSpec.upto lineInstantsSpec)

/-- 'ephemerislaw1.WholeSolves', WHERE WHAT IT READS IS OF BULK AT MOST 1048576: true; the input reads as it did. -/
def wholeSolvesUptoRow : OpenClaim := { program := "ytmnemnoaijldjaa", sum := "32b2b023fd2066bb1caa64519e12f9b0f4f76ba26721865acd0fa97831ef43a2", func := "ephemeris/ephemerislaw1.WholeSolves", spec := "wholeSolves", apart := false, narrowed := true }
def WholeSolvesUptoSaid : Prop := wholeSolvesUptoRow.holds Try.pinned (OpenSpec.upto wholeSolvesSpec)

/-- 'ephemerislaw1.WholeMeets', WHERE WHAT IT READS IS OF BULK AT MOST 1048576: true; the input reads as it did. -/
def wholeMeetsUptoRow : OpenClaim := { program := "ytmnemnoaijldjaa", sum := "32b2b023fd2066bb1caa64519e12f9b0f4f76ba26721865acd0fa97831ef43a2", func := "ephemeris/ephemerislaw1.WholeMeets", spec := "wholeMeets", apart := false, narrowed := true }
def WholeMeetsUptoSaid : Prop := wholeMeetsUptoRow.holds Try.pinned (OpenSpec.upto wholeMeetsSpec)

/-- 'ephemerislaw1.WholeDivides', WHERE WHAT IT READS IS OF BULK AT MOST 1048576: true; the input reads as it did. -/
def wholeDividesUptoRow : OpenClaim := { program := "ytmnemnoaijldjaa", sum := "32b2b023fd2066bb1caa64519e12f9b0f4f76ba26721865acd0fa97831ef43a2", func := "ephemeris/ephemerislaw1.WholeDivides", spec := "wholeDivides", apart := false, narrowed := true }
def WholeDividesUptoSaid : Prop := wholeDividesUptoRow.holds Try.pinned (OpenSpec.upto wholeDividesSpec)

end Rows
end Go.Proofs.Ytmnemnoaijldjaa
