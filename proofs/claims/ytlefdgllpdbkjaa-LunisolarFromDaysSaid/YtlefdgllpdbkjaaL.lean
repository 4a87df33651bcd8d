/- Plain facts on lists of whole numbers. No program here. -/
import Derived.Test.YtlefdgllpdbkjaaM
namespace Go.Proofs.Ytlefdgllpdbkjaa.L
open Go.RowKit Go.Proofs.YtlefdgllpdbkjaaW.PrintWords Go.Proofs.Ytlefdgllpdbkjaa.M
set_option linter.unusedVariables false
theorem dec_not_true {p : Prop} [Decidable p] (h : ¬ p) : decide (¬ p) = true := decide_eq_true h
theorem dec_not_false {p : Prop} [Decidable p] (h : p) : decide (¬ p) = false := decide_eq_false (fun g => g h)
theorem beq_dec (a b : Int) : (a == b) = decide (a = b) := by by_cases h : a = b <;> simp [h]
theorem rd_get (l : List Int) (i : Nat) (h : i < l.length) : rd l (i : Int) = l[i] := by
  unfold rd
  rw [show ((i : Int).toNat) = i from by omega, List.getD_eq_getElem?_getD, List.getElem?_eq_getElem h]; rfl
end Go.Proofs.Ytlefdgllpdbkjaa.L
