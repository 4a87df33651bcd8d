/- Plain facts on lists of whole numbers. No program here. -/
import Derived.Test.YtolhlaadhfilnaaDoorM
namespace Go.Proofs.YtolhlaadhfilnaaDoor.L
open Go.RowKit Go.Proofs.YtolhlaadhfilnaaDoorW.PrintWords Go.Proofs.YtolhlaadhfilnaaDoor.M
set_option linter.unusedVariables false
theorem dec_not_true {p : Prop} [Decidable p] (h : ¬ p) : decide (¬ p) = true := decide_eq_true h
theorem dec_not_false {p : Prop} [Decidable p] (h : p) : decide (¬ p) = false := decide_eq_false (fun g => g h)
theorem bne_dec (a b : Int) : (a != b) = decide (a ≠ b) := by by_cases h : a = b <;> simp [h]
theorem beq_dec (a b : Int) : (a == b) = decide (a = b) := by by_cases h : a = b <;> simp [h]
theorem rd_get (l : List Int) (i : Nat) (h : i < l.length) : rd l (i : Int) = l[i] := by
  unfold rd
  rw [show ((i : Int).toNat) = i from by omega, List.getD_eq_getElem?_getD, List.getElem?_eq_getElem h]; rfl
/-- The first fault of a list of numbers, none of which may occur twice; 'z': zero is not let in. -/
def listFrom (z : Bool) (lo hi : Int) : List Int → List Int → Int
  | _, [] => 0
  | s, x :: t => if (lo ≤ x ∧ x ≤ hi) ∧ ¬ (z = true ∧ x = 0) then (if x ∈ s then 7 else listFrom z lo hi (s ++ [x]) t) else 3
def listErr (z : Bool) (lo hi : Int) (l : List Int) : Int := if l.length ≤ 31 then listFrom z lo hi [] l else 2
theorem take_snoc' (l : List Int) (i : Nat) (h : i < l.length) : l.take i ++ [l[i]] = l.take (i + 1) := by
  rw [List.take_succ_eq_append_getElem h]
theorem listFrom_range (z : Bool) (lo hi : Int) : ∀ (t s : List Int), listFrom z lo hi s t = 0 ∨ listFrom z lo hi s t = 3 ∨ listFrom z lo hi s t = 7
  | [], s => .inl rfl
  | x :: t, s => by
    unfold listFrom
    split
    · split
      · exact .inr (.inr rfl)
      · exact listFrom_range z lo hi t _
    · exact .inr (.inl rfl)
end Go.Proofs.YtolhlaadhfilnaaDoor.L
