/- Plain facts on fractions. No program here. -/
import Derived.Test.YtmihkcgkdhmccaaM
namespace Go.Proofs.Ytmihkcgkdhmccaa.F
open Go.RowKit Go.Proofs.YtmihkcgkdhmccaaW.PrintWords Go.Proofs.Ytmihkcgkdhmccaa.M
set_option linter.unusedVariables false
/-- The fraction of two numbers, in lowest terms. -/
def ofs (n d : Int) : Int × Int × Int :=
  if d = 0 then (0, 0, 1) else if ab n / (Int.gcd n d : Int) > 2147483647 ∨ ab d / (Int.gcd n d : Int) > 2147483647 then (0, 0, 14)
  else (if n ≠ 0 ∧ ((decide (n < 0)) != (decide (d < 0))) = true then -(ab n / (Int.gcd n d : Int)) else ab n / (Int.gcd n d : Int), ab d / (Int.gcd n d : Int), 0)
/-- A valid fraction. -/
def fracOK (n d : Int) : Bool := decide ((1 ≤ d ∧ d ≤ 2147483647) ∧ (-2147483647 ≤ n ∧ n ≤ 2147483647) ∧ Int.gcd n d = 1)
theorem ab_toNat (a : Int) : (ab a).toNat = a.natAbs := by unfold ab; split <;> omega
theorem gcd_ab' (a b : Int) : Nat.gcd (ab a).toNat (ab b).toNat = Int.gcd a b := by rw [ab_toNat, ab_toNat]; rfl
theorem gcd_pos_of (n : Int) {d : Int} (hd : d ≠ 0) : 0 < (Int.gcd n d : Int) := by
  have h1 : 0 < Int.gcd n d := Nat.gcd_pos_of_pos_right _ (by omega)
  omega
theorem quo_bounds (x : Int) {g : Int} (hx : 0 ≤ x) (hg : 0 < g) : 0 ≤ x / g ∧ x / g ≤ x := ⟨Int.ediv_nonneg hx (by omega), Int.ediv_le_self _ hx⟩
end Go.Proofs.Ytmihkcgkdhmccaa.F
