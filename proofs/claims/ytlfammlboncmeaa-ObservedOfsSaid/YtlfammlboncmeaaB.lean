/- Plain facts on tables of months (calendars by tables). No program here. -/
import Derived.Test.YtlfammlboncmeaaM
import Derived.Test.YtlfammlboncmeaaL
import Derived.Test.YtlfammlboncmeaaT
namespace Go.Proofs.Ytlfammlboncmeaa.B
open Go.RowKit Go.Proofs.YtlfammlboncmeaaW.PrintWords Go.Proofs.Ytlfammlboncmeaa.M Go.Proofs.Ytlfammlboncmeaa.L Go.Proofs.Ytlfammlboncmeaa.T
set_option linter.unusedVariables false
/-- The first fault of the days on which months begin: 'p' is the day before. -/
def stFrom : Option Int → List Int → Int
  | _, [] => 0
  | p, x :: t => if -4000000 ≤ x ∧ x ≤ 4000000 then (if (∃ q, p = some q ∧ ¬ (q < x ∧ x ≤ q + 40)) then 9 else stFrom (some x) t) else 3
def okMonths (l : List Int) : Prop := ∀ m ∈ l, m = 12 ∨ m = 13
instance (l : List Int) : Decidable (okMonths l) := by unfold okMonths; infer_instance
/-- What Check of tables tells. -/
def tblErr (name : ByteArray) (first : Int) (months starts : List Int) : Int :=
  if isName name = true then (if 1 ≤ months.length ∧ months.length ≤ 40 then (if -10000 ≤ first ∧ first + months.length ≤ 10001 then
    (if okMonths months then (if (starts.length : Int) = months.sum + 1 then stFrom none starts else 8) else 8) else 3) else 2) else 5
def prevN (l : List Int) (i : Nat) : Option Int := if i = 0 then none else some (rd l ((i : Int) - 1))
theorem prevN_succ (l : List Int) (i : Nat) (h : i < l.length) : prevN l (i + 1) = some l[i] := by
  unfold prevN
  rw [if_neg (by omega), show ((i + 1 : Nat) : Int) - 1 = (i : Int) from by omega, rd_get l i h]
theorem okMonths_cons (m : Int) (l : List Int) : okMonths (m :: l) ↔ (m = 12 ∨ m = 13) ∧ okMonths l := by
  unfold okMonths
  simp
theorem sum_months : ∀ (l : List Int), okMonths l → 12 * (l.length : Int) ≤ l.sum ∧ l.sum ≤ 13 * l.length
  | [], _ => by simp
  | m :: l, h => by
    obtain ⟨h1, h2⟩ := (okMonths_cons m l).1 h
    have := sum_months l h2
    simp only [List.sum_cons, List.length_cons]
    omega
end Go.Proofs.Ytlfammlboncmeaa.B
