/- Plain facts on fractions. No program here. -/
import Derived.Test.YtmiieommlhbbdaaDoorM
namespace Go.Proofs.YtmiieommlhbbdaaDoor.F
open Go.RowKit Go.Proofs.YtmiieommlhbbdaaDoorW.PrintWords Go.Proofs.YtmiieommlhbbdaaDoor.M
set_option linter.unusedVariables false
/-- The fraction of two numbers, in lowest terms. -/
def ofs (n d : Int) : Int × Int × Int :=
  if d = 0 then (0, 0, 1) else if ab n / (Int.gcd n d : Int) > 2147483647 ∨ ab d / (Int.gcd n d : Int) > 2147483647 then (0, 0, 14)
  else (if n ≠ 0 ∧ ((decide (n < 0)) != (decide (d < 0))) = true then -(ab n / (Int.gcd n d : Int)) else ab n / (Int.gcd n d : Int), ab d / (Int.gcd n d : Int), 0)
/-- A valid fraction. -/
def fracOK (n d : Int) : Bool := decide ((1 ≤ d ∧ d ≤ 2147483647) ∧ (-2147483647 ≤ n ∧ n ≤ 2147483647) ∧ Int.gcd n d = 1)
theorem ab_toNat (a : Int) : (ab a).toNat = a.natAbs := by unfold ab; split <;> omega
theorem gcd_ab' (a b : Int) : Nat.gcd (ab a).toNat (ab b).toNat = Int.gcd a b := by rw [ab_toNat, ab_toNat]; rfl
theorem gcd_pos_of (n : Int) {d : Int} (hd : d ≠ 0) : 0 < (Int.gcd n d : Int) := by
  have h1 : 0 < Int.gcd n d := Nat.gcd_pos_of_pos_right _ (by omega)
  omega
theorem quo_bounds (x : Int) {g : Int} (hx : 0 ≤ x) (hg : 0 < g) : 0 ≤ x / g ∧ x / g ≤ x := ⟨Int.ediv_nonneg hx (by omega), Int.ediv_le_self _ hx⟩
theorem ab_scale {g : Int} (hg : 0 < g) (n : Int) : ab (g * n) = g * ab n := by
  unfold ab
  by_cases h : n < 0
  · have h2 : g * n < 0 := Int.mul_neg_of_pos_of_neg hg h
    rw [if_pos h2, if_pos h, Int.mul_neg]
  · have h2 : 0 ≤ g * n := Int.mul_nonneg (by omega) (by omega)
    rw [if_neg (by omega), if_neg h]
theorem neg_scale {g : Int} (hg : 0 < g) (n : Int) : decide (g * n < 0) = decide (n < 0) := by
  apply decide_eq_decide.2
  constructor
  · intro h
    by_cases c : n < 0
    · exact c
    · have h2 : 0 ≤ g * n := Int.mul_nonneg (by omega) (by omega)
      omega
  · exact fun h => Int.mul_neg_of_pos_of_neg hg h
/-- A fraction stands when both numbers are multiplied. -/
theorem ofs_scale {g : Int} (hg : 0 < g) (n d : Int) : ofs (g * n) (g * d) = ofs n d := by
  unfold ofs
  have z : ∀ x : Int, g * x = 0 ↔ x = 0 := fun x => ⟨fun h => (Int.mul_eq_zero.1 h).resolve_left (by omega), fun h => by rw [h, Int.mul_zero]⟩
  by_cases hd : d = 0
  · rw [if_pos ((z d).2 hd), if_pos hd]
  · rw [if_neg (fun h => hd ((z d).1 h)), if_neg hd]
    have eg : (Int.gcd (g * n) (g * d) : Int) = g * (Int.gcd n d : Int) := by
      rw [Int.gcd_mul_left, Int.natCast_mul]
      congr 1
      omega
    have en : ab (g * n) / (Int.gcd (g * n) (g * d) : Int) = ab n / (Int.gcd n d : Int) := by
      rw [eg, ab_scale hg, Int.mul_ediv_mul_of_pos _ _ hg]
    have ed : ab (g * d) / (Int.gcd (g * n) (g * d) : Int) = ab d / (Int.gcd n d : Int) := by
      rw [eg, ab_scale hg, Int.mul_ediv_mul_of_pos _ _ hg]
    have es : (g * n ≠ 0 ∧ ((decide (g * n < 0)) != (decide (g * d < 0))) = true) ↔ (n ≠ 0 ∧ ((decide (n < 0)) != (decide (d < 0))) = true) := by
      rw [neg_scale hg, neg_scale hg]
      exact ⟨fun h => ⟨fun e => h.1 ((z n).2 e), h.2⟩, fun h => ⟨fun e => h.1 ((z n).1 e), h.2⟩⟩
    rw [en, ed]
    by_cases c : n ≠ 0 ∧ ((decide (n < 0)) != (decide (d < 0))) = true
    · rw [if_pos (es.2 c), if_pos c]
    · rw [if_neg (fun h => c (es.1 h)), if_neg c]
/-- What reckoning with fractions tells: 0 adds, 1 takes away, 2 multiplies, else divides. -/
def opOf (op a b c d : Int) : Int × Int × Int :=
  if op = 0 then ofs (a * d + c * b) (b * d) else if op = 1 then ofs (a * d - c * b) (b * d) else if op = 2 then ofs (a * c) (b * d) else ofs (a * d) (b * c)
def fracOp (op a b c d : Int) : Int × Int × Int := if fracOK a b = true ∧ fracOK c d = true then opOf op a b c d else (0, 0, 8)
theorem okNum {n d : Int} (h : fracOK n d = true) : (1 ≤ d ∧ d ≤ 2147483647) ∧ (-2147483647 ≤ n ∧ n ≤ 2147483647) := by
  unfold fracOK at h; have := of_decide_eq_true h; exact ⟨this.1, this.2.1⟩
theorem bigProd {n d : Int} (h1 : -2147483647 ≤ n ∧ n ≤ 2147483647) (h2 : -2147483647 ≤ d ∧ d ≤ 2147483647) : -4611686014132420609 ≤ n * d ∧ n * d ≤ 4611686014132420609 := by
  have e : (n * d).natAbs = n.natAbs * d.natAbs := Int.natAbs_mul _ _
  have e2 : n.natAbs * d.natAbs ≤ 2147483647 * 2147483647 := Nat.mul_le_mul (by omega) (by omega)
  omega
end Go.Proofs.YtmiieommlhbbdaaDoor.F
