/- Plain facts on fractions. No program here. -/
import Derived.Test.YtlefdgllpdbkjaaM
namespace Go.Proofs.Ytlefdgllpdbkjaa.F
open Go.RowKit Go.Proofs.YtlefdgllpdbkjaaW.PrintWords Go.Proofs.Ytlefdgllpdbkjaa.M
set_option linter.unusedVariables false
/-- A valid fraction. -/
def fracOK (n d : Int) : Bool := decide ((1 ≤ d ∧ d ≤ 2147483647) ∧ (-2147483647 ≤ n ∧ n ≤ 2147483647) ∧ Int.gcd n d = 1)
theorem okNum {n d : Int} (h : fracOK n d = true) : (1 ≤ d ∧ d ≤ 2147483647) ∧ (-2147483647 ≤ n ∧ n ≤ 2147483647) := by
  unfold fracOK at h; have := of_decide_eq_true h; exact ⟨this.1, this.2.1⟩
end Go.Proofs.Ytlefdgllpdbkjaa.F
