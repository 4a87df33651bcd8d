/- Plain facts on the rules of mean months. No program here. -/
import Derived.Test.YtlfammlboncmeaaF
import Derived.Test.YtlfammlboncmeaaT
import Derived.Test.YtlfammlboncmeaaL
namespace Go.Proofs.Ytlfammlboncmeaa.P
open Go.RowKit Go.Proofs.YtlfammlboncmeaaW.PrintWords Go.Proofs.Ytlfammlboncmeaa.M Go.Proofs.Ytlfammlboncmeaa.L Go.Proofs.Ytlfammlboncmeaa.F
set_option linter.unusedVariables false
/-- One step to the least common denominator. -/
def lcmD (n d : Int) : Int := n / (Int.gcd n d : Int) * d
theorem lcmD_facts {n d : Int} (hn : 1 ≤ n) (hd : 1 ≤ d) : 1 ≤ (Int.gcd n d : Int) ∧ (Int.gcd n d : Int) ≤ n ∧ (Int.gcd n d : Int) ≤ d ∧ 1 ≤ n / (Int.gcd n d : Int) ∧ n / (Int.gcd n d : Int) ≤ n ∧ d ≤ lcmD n d ∧ lcmD n d ≤ n * d := by
  obtain ⟨g1, g2⟩ := gcd_pos_le n (m := d) (by omega)
  obtain ⟨c, hc⟩ := Int.gcd_dvd_left n d
  have hcp := mul_pos_of g1 hc (by omega)
  have e : n / (Int.gcd n d : Int) = c := by
    have := Int.mul_ediv_cancel_left c (show (Int.gcd n d : Int) ≠ 0 by omega)
    rw [← hc] at this; exact this
  have hgn : (Int.gcd n d : Int) ≤ n := Int.le_of_dvd (by omega) (Int.gcd_dvd_left n d)
  unfold lcmD
  rw [e]
  have a : 1 * d ≤ c * d := Int.mul_le_mul_of_nonneg_right hcp.1 (by omega)
  have b : c * d ≤ n * d := Int.mul_le_mul_of_nonneg_right hcp.2 (by omega)
  omega
theorem lcmD_ge {n d : Int} (hn : 1 ≤ n) (hd : 1 ≤ d) : n ≤ lcmD n d := by
  obtain ⟨g1, g2⟩ := gcd_pos_le n (m := d) (by omega)
  obtain ⟨c, hc⟩ := Int.gcd_dvd_left n d
  obtain ⟨e, he⟩ := Int.gcd_dvd_right n d
  have hep := mul_pos_of g1 he (by omega)
  have hq : n / (Int.gcd n d : Int) = c := by
    have := Int.mul_ediv_cancel_left c (show (Int.gcd n d : Int) ≠ 0 by omega)
    rw [← hc] at this; exact this
  unfold lcmD
  rw [hq]
  have : c * d = n * e := by
    have h1 : c * d = c * ((Int.gcd n d : Int) * e) := by rw [← he]
    rw [h1, ← Int.mul_assoc, Int.mul_comm c, ← hc]
  rw [this]
  have := Int.mul_le_mul_of_nonneg_left hep.1 (show 0 ≤ n by omega)
  omega
/-- The number of parts of a day: 0, if it is above a million. -/
def parts3 (a b c : Int) : Int :=
  if a ≤ 1000000 then (if lcmD a b ≤ 1000000 then (if lcmD (lcmD a b) c ≤ 1000000 then lcmD (lcmD a b) c else 0) else 0) else 0
theorem quo_gt {q d : Int} (hq : 1 ≤ q) (hd : 1 ≤ d) : 1000000 / d < q ↔ 1000000 < q * d := by
  rw [Int.ediv_lt_iff_lt_mul (by omega)]
/-- The first fault of a rule of mean months. -/
def moonFrac (sn sd mn' md ln ld : Int) : Prop := (fracOK sn sd = true ∧ fracOK mn' md = true) ∧ fracOK ln ld = true
def moonRange (sn sd mn' md ln ld : Int) : Prop := ((0 ≤ sn ∧ sn < sd) ∧ (29 * md ≤ mn' ∧ mn' ≤ 30 * md)) ∧ (1 ≤ ln ∧ ln ≤ ld)
instance (a b c d e f : Int) : Decidable (moonFrac a b c d e f) := by unfold moonFrac; infer_instance
instance (a b c d e f : Int) : Decidable (moonRange a b c d e f) := by unfold moonRange; infer_instance
end Go.Proofs.Ytlfammlboncmeaa.P
