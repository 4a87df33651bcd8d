/- Plain facts on the nearest fraction with a small denominator. No program here. -/
import Derived.Test.YteogcbhlilechaaF
namespace Go.Proofs.Yteogcbhlilechaa.S
open Go.RowKit Go.Proofs.YteogcbhlilechaaW.PrintWords Go.Proofs.Yteogcbhlilechaa.M Go.Proofs.Yteogcbhlilechaa.F
set_option linter.unusedVariables false
theorem ab_pos {x : Int} (h : 0 ≤ x) : ab x = x := by unfold ab; rw [if_neg (by omega)]
theorem ab_neg {x : Int} (h : x ≤ 0) : ab x = -x := by unfold ab; split <;> omega
/-- The fraction that is found by trying all denominators: the first of the nearest ones. -/
def Tgt (N D d tn td : Int) : Prop := (1 ≤ td ∧ td ≤ d) ∧ (tn = N * td / D ∨ tn = N * td / D + 1) ∧
  ∀ k n, 1 ≤ k → k ≤ d → (n = N * k / D ∨ n = N * k / D + 1) → ab (tn * D - N * td) * k ≤ ab (n * D - N * k) * td ∧ ((k < td ∨ (k = td ∧ n < tn)) → ab (tn * D - N * td) * k < ab (n * D - N * k) * td)
theorem dvd_co {N D k : Int} (hg : Int.gcd N D = 1) (h : D ∣ N * k) : D ∣ k := by
  have h1 : D.natAbs ∣ N.natAbs * k.natAbs := by rw [← Int.natAbs_mul]; exact Int.natAbs_dvd_natAbs.2 h
  have h2 : Nat.Coprime D.natAbs N.natAbs := Nat.Coprime.symm hg
  exact Int.natAbs_dvd_natAbs.1 (Nat.Coprime.dvd_of_dvd_mul_left h2 h1)
theorem tgt_self {N D d : Int} (hD : 1 ≤ D) (hd : D ≤ d) (hg : Int.gcd N D = 1) : Tgt N D d N D := by
  refine ⟨⟨hD, hd⟩, .inl (Int.mul_ediv_cancel N (by omega)).symm, ?_⟩
  intro k n hk hkd hn
  have e0 : ab (N * D - N * D) = 0 := by rw [Int.sub_self]; rfl
  have hp : 0 ≤ ab (n * D - N * k) := by unfold ab; split <;> omega
  rw [e0, Int.zero_mul]
  refine ⟨Int.mul_nonneg hp (by omega), fun h => Int.mul_pos ?_ (by omega)⟩
  rcases Int.lt_or_eq_of_le hp with h1 | h1
  · exact h1
  exfalso
  have h2 : n * D - N * k = 0 := by unfold ab at h1; split at h1 <;> omega
  have h3 : D ∣ k := dvd_co hg ⟨n, by rw [Int.mul_comm D]; omega⟩
  have h4 := Int.le_of_dvd (by omega) h3
  obtain rfl : k = D := by omega
  have h5 : n * k = N * k := by omega
  have := Int.eq_of_mul_eq_mul_right (show k ≠ 0 by omega) h5
  omega
section
variable {N D d q r ln ld hn hd : Int}
/-- The two neighbours around the rest. -/
structure Nb (N D d q r ln ld hn hd : Int) : Prop where
  hN : N = D * q + r
  hD : 1 ≤ D
  hA : 0 < r * ld - ln * D
  hB : 0 < hn * D - r * hd
  det : hn * ld - ln * hd = 1
  hl : 1 ≤ ld ∧ ld ≤ d
  hh : 1 ≤ hd ∧ hd ≤ d
theorem side (o : Nb N D d q r ln ld hn hd) (big : d < ld + hd) {u k : Int} (hk : 1 ≤ k) (hkd : k ≤ d) : (0 ≤ ln * k - u * ld) ∨ (0 ≤ u * hd - hn * k) := by
  have h0 := o.det; have h1 := o.hl; have h2 := o.hh
  have e : k = ld * (hn * k - u * hd) + hd * (u * ld - ln * k) := by grind
  rcases Int.lt_or_le (ln * k - u * ld) 0 with a | a
  · rcases Int.lt_or_le (u * hd - hn * k) 0 with b | b
    · exfalso
      have p1 : ld * 1 ≤ ld * (hn * k - u * hd) := Int.mul_le_mul_of_nonneg_left (by omega) (by omega)
      have p2 : hd * 1 ≤ hd * (u * ld - ln * k) := Int.mul_le_mul_of_nonneg_left (by omega) (by omega)
      omega
    · exact .inr b
  · exact .inl a
theorem low_e (o : Nb N D d q r ln ld hn hd) {u k : Int} (hk : 1 ≤ k) (h : 0 ≤ ln * k - u * ld) : ab (u * D - r * k) * ld = (ln * k - u * ld) * D + (r * ld - ln * D) * k ∧ u * D - r * k < 0 := by
  have e : (u * D - r * k) * ld = -((ln * k - u * ld) * D + (r * ld - ln * D) * k) := by grind
  have p1 := Int.mul_nonneg h (show 0 ≤ D from by have := o.hD; omega)
  have p2 := Int.mul_pos o.hA (show 0 < k by omega)
  have hl := o.hl
  have neg : u * D - r * k < 0 := by
    rcases Int.lt_or_le (u * D - r * k) 0 with a | a
    · exact a
    · have := Int.mul_nonneg a (show 0 ≤ ld by omega); omega
  refine ⟨?_, neg⟩
  rw [ab_neg (by omega), Int.neg_mul]; omega
theorem high_e (o : Nb N D d q r ln ld hn hd) {u k : Int} (hk : 1 ≤ k) (h : 0 ≤ u * hd - hn * k) : ab (u * D - r * k) * hd = (u * hd - hn * k) * D + (hn * D - r * hd) * k ∧ 0 < u * D - r * k := by
  have e : (u * D - r * k) * hd = (u * hd - hn * k) * D + (hn * D - r * hd) * k := by grind
  have p1 := Int.mul_nonneg h (show 0 ≤ D from by have := o.hD; omega)
  have p2 := Int.mul_pos o.hB (show 0 < k by omega)
  have hh := o.hh
  have pos : 0 < u * D - r * k := by
    rcases Int.lt_or_le 0 (u * D - r * k) with a | a
    · exact a
    · have := Int.mul_nonneg (show 0 ≤ -(u * D - r * k) by omega) (show 0 ≤ hd by omega)
      rw [Int.neg_mul] at this; omega
  refine ⟨?_, pos⟩
  rw [ab_pos (by omega)]; exact e
theorem low_zero (o : Nb N D d q r ln ld hn hd) {u k : Int} (hk : 1 ≤ k) (h : ln * k - u * ld = 0) : ld ≤ k ∧ (k = ld → u = ln) := by
  have h0 := o.det; have hl := o.hl
  have e : k = ld * (hn * k - u * hd) := by grind
  refine ⟨?_, fun hkl => ?_⟩
  · have p : 0 < hn * k - u * hd := by
      rcases Int.lt_or_le 0 (hn * k - u * hd) with a | a
      · exact a
      · have := Int.mul_nonneg (show 0 ≤ ld by omega) (show 0 ≤ -(hn * k - u * hd) by omega)
        rw [Int.mul_neg] at this; omega
    have := Int.mul_le_mul_of_nonneg_left (show 1 ≤ hn * k - u * hd by omega) (show 0 ≤ ld by omega)
    omega
  · subst hkl; exact (Int.eq_of_mul_eq_mul_right (show k ≠ 0 by omega) (show u * k = ln * k by omega))
theorem high_zero (o : Nb N D d q r ln ld hn hd) {u k : Int} (hk : 1 ≤ k) (h : u * hd - hn * k = 0) : hd ≤ k ∧ (k = hd → u = hn) := by
  have h0 := o.det; have hh := o.hh
  have e : k = hd * (u * ld - ln * k) := by grind
  refine ⟨?_, fun hkl => ?_⟩
  · have p : 0 < u * ld - ln * k := by
      rcases Int.lt_or_le 0 (u * ld - ln * k) with a | a
      · exact a
      · have := Int.mul_nonneg (show 0 ≤ hd by omega) (show 0 ≤ -(u * ld - ln * k) by omega)
        rw [Int.mul_neg] at this; omega
    have := Int.mul_le_mul_of_nonneg_left (show 1 ≤ u * ld - ln * k by omega) (show 0 ≤ hd by omega)
    omega
  · subst hkl; exact (Int.eq_of_mul_eq_mul_right (show k ≠ 0 by omega) (show u * k = hn * k by omega))
theorem shift (o : Nb N D d q r ln ld hn hd) (n k : Int) : n * D - N * k = (n - q * k) * D - r * k := by have := o.hN; subst this; grind
theorem tgt_low (o : Nb N D d q r ln ld hn hd) (big : d < ld + hd) (c : (r * ld - ln * D) * hd < (hn * D - r * hd) * ld ∨ ((r * ld - ln * D) * hd = (hn * D - r * hd) * ld ∧ ld ≤ hd)) : Tgt N D d (q * ld + ln) ld := by
  have hl := o.hl; have hh := o.hh; have hD := o.hD; have hA := o.hA; have hB := o.hB; have det := o.det
  have eT : (q * ld + ln) * D - N * ld = -(r * ld - ln * D) := by have := o.hN; subst this; grind
  have eA : ab ((q * ld + ln) * D - N * ld) = r * ld - ln * D := by rw [eT, ab_neg (by omega)]; omega
  refine ⟨hl, .inl ?_, ?_⟩
  · have h1 : r * ld - ln * D < D := by
      have h2 : 0 ≤ (ln + 1) * hd - hn * ld := by
        rcases side o big (u := ln + 1) (k := ld) hl.1 hl.2 with a | a
        · rw [Int.add_mul] at a; omega
        · exact a
      have h3 := (high_e o hl.1 h2).2
      rw [Int.add_mul] at h3; omega
    have h4 : N * ld = D * (q * ld + ln) + (r * ld - ln * D) := by rw [Int.mul_comm D]; omega
    exact (ed_uniq (show 0 < D by omega) h4 (by omega) h1).1.symm
  · intro k n hk hkd _
    rw [eA, shift o]
    generalize hu : n - q * k = u
    have hA0 := Int.mul_pos hA (show 0 < k by omega)
    rcases side o big (u := u) hk hkd with s | s
    · obtain ⟨e, _⟩ := low_e o hk s
      have p1 := Int.mul_nonneg s (show 0 ≤ D by omega)
      rw [e]
      refine ⟨by omega, fun hlt => ?_⟩
      rcases Int.lt_or_eq_of_le s with s1 | s1
      · have := Int.mul_pos s1 (show 0 < D by omega); omega
      · obtain ⟨z1, z2⟩ := low_zero o hk s1.symm
        rcases hlt with h | ⟨h, h'⟩
        · omega
        · have := z2 h; subst h; omega
    · obtain ⟨e, pos⟩ := high_e o hk s
      have p1 := Int.mul_nonneg s (show 0 ≤ D by omega)
      have p2 := Int.mul_nonneg p1 (show 0 ≤ ld by omega)
      have x1 : (r * ld - ln * D) * hd * k ≤ (hn * D - r * hd) * ld * k := Int.mul_le_mul_of_nonneg_right (by omega) (by omega)
      have x2 : ab (u * D - r * k) * ld * hd = (u * hd - hn * k) * D * ld + (hn * D - r * hd) * ld * k := by
        rw [Int.mul_right_comm, e, Int.add_mul, Int.mul_right_comm _ k ld]
      have x3 : (r * ld - ln * D) * k * hd = (r * ld - ln * D) * hd * k := Int.mul_right_comm _ _ _
      refine ⟨Int.le_of_mul_le_mul_right (a := hd) (by omega) (by omega), fun hlt => Int.lt_of_mul_lt_mul_right (a := hd) ?_ (by omega)⟩
      rcases c with c | ⟨c, c'⟩
      · have := Int.mul_lt_mul_of_pos_right c (show 0 < k by omega); omega
      · rcases Int.lt_or_eq_of_le s with s1 | s1
        · have := Int.mul_pos (Int.mul_pos s1 (show 0 < D by omega)) (show 0 < ld by omega); rw [c] at x3; omega
        · exfalso
          obtain ⟨z1, z2⟩ := high_zero o hk s1.symm
          rcases hlt with h | ⟨h, h'⟩
          · omega
          · have hkh : k = hd := by omega
            have h2 := z2 hkh
            have h3 : hd = ld := by omega
            have h4 : u < ln := by subst h; omega
            rw [h3, ← Int.sub_mul] at det
            have := Int.mul_nonneg (show 0 ≤ ln - hn by omega) (show 0 ≤ ld by omega)
            rw [Int.sub_mul] at this det; omega
theorem tgt_high (o : Nb N D d q r ln ld hn hd) (big : d < ld + hd) (c : (hn * D - r * hd) * ld < (r * ld - ln * D) * hd ∨ ((r * ld - ln * D) * hd = (hn * D - r * hd) * ld ∧ hd < ld)) : Tgt N D d (q * hd + hn) hd := by
  have hl := o.hl; have hh := o.hh; have hD := o.hD; have hA := o.hA; have hB := o.hB; have det := o.det
  have eT : (q * hd + hn) * D - N * hd = hn * D - r * hd := by have := o.hN; subst this; grind
  have eA : ab ((q * hd + hn) * D - N * hd) = hn * D - r * hd := by rw [eT, ab_pos (by omega)]
  refine ⟨hh, .inr ?_, ?_⟩
  · have h1 : hn * D - r * hd < D := by
      have h2 : 0 ≤ ln * hd - (hn - 1) * ld := by
        rcases side o big (u := hn - 1) (k := hd) hh.1 hh.2 with a | a
        · exact a
        · rw [Int.sub_mul] at a; omega
      have h3 := (low_e o hh.1 h2).2
      rw [Int.sub_mul] at h3; omega
    have h4 : N * hd = D * (q * hd + hn - 1) + (D - (hn * D - r * hd)) := by rw [Int.mul_sub, Int.mul_comm D (q * hd + hn)]; omega
    have := (ed_uniq (show 0 < D by omega) h4 (by omega) (by omega)).1
    omega
  · intro k n hk hkd _
    rw [eA, shift o]
    generalize hu : n - q * k = u
    have hB0 := Int.mul_pos hB (show 0 < k by omega)
    rcases side o big (u := u) hk hkd with s | s
    · obtain ⟨e, pos⟩ := low_e o hk s
      have p1 := Int.mul_nonneg s (show 0 ≤ D by omega)
      have p2 := Int.mul_nonneg p1 (show 0 ≤ hd by omega)
      have x1 : (hn * D - r * hd) * ld * k ≤ (r * ld - ln * D) * hd * k := Int.mul_le_mul_of_nonneg_right (by omega) (by omega)
      have x2 : ab (u * D - r * k) * hd * ld = (ln * k - u * ld) * D * hd + (r * ld - ln * D) * hd * k := by
        rw [Int.mul_right_comm, e, Int.add_mul, Int.mul_right_comm _ k hd]
      have x3 : (hn * D - r * hd) * k * ld = (hn * D - r * hd) * ld * k := Int.mul_right_comm _ _ _
      refine ⟨Int.le_of_mul_le_mul_right (a := ld) (by omega) (by omega), fun hlt => Int.lt_of_mul_lt_mul_right (a := ld) ?_ (by omega)⟩
      rcases c with c | ⟨c, c'⟩
      · have := Int.mul_lt_mul_of_pos_right c (show 0 < k by omega); omega
      · rcases Int.lt_or_eq_of_le s with s1 | s1
        · have := Int.mul_pos (Int.mul_pos s1 (show 0 < D by omega)) (show 0 < hd by omega); rw [← c] at x3; omega
        · exfalso
          obtain ⟨z1, z2⟩ := low_zero o hk s1.symm
          omega
    · obtain ⟨e, _⟩ := high_e o hk s
      have p1 := Int.mul_nonneg s (show 0 ≤ D by omega)
      rw [e]
      refine ⟨by omega, fun hlt => ?_⟩
      rcases Int.lt_or_eq_of_le s with s1 | s1
      · have := Int.mul_pos s1 (show 0 < D by omega); omega
      · obtain ⟨z1, z2⟩ := high_zero o hk s1.symm
        rcases hlt with h | ⟨h, h'⟩
        · omega
        · have := z2 h; subst h; omega
end
/-- A quotient is no greater than what is divided. -/
theorem quo_le {a D M : Int} (hD : 1 ≤ D) (h : -M ≤ a ∧ a ≤ M) : -M ≤ a / D ∧ a / D ≤ M := by
  have h1 : D * (a / D) + a % D = a := Int.mul_ediv_add_emod a D
  have h2 := Int.emod_nonneg a (show D ≠ 0 by omega)
  have h3 := Int.emod_lt_of_pos a (show 0 < D by omega)
  constructor
  · rw [Int.le_ediv_iff_mul_le (by omega)]
    have := Int.mul_le_mul_of_nonneg_left hD (show 0 ≤ M by omega)
    rw [Int.neg_mul]; omega
  · have : a / D < M + 1 := by
      rw [Int.ediv_lt_iff_lt_mul (by omega)]
      have := Int.mul_le_mul_of_nonneg_left hD (show 0 ≤ M + 1 by omega)
      omega
    omega
section
variable {N D d q r ln ld hn hd : Int}
theorem Nb.step (o : Nb N D d q r ln ld hn hd) {k1 k2 : Int} (h1 : 0 ≤ k1) (h2 : k1 * (r * ld - ln * D) ≤ hn * D - r * hd - 1) (h3 : k1 * ld ≤ d - hd) (g1 : 0 ≤ k2) (g2 : k2 * ((hn + k1 * ln) * D - r * (hd + k1 * ld)) ≤ r * ld - ln * D - 1) (g3 : k2 * (hd + k1 * ld) ≤ d - ld) :
    Nb N D d q r (ln + k2 * (hn + k1 * ln)) (ld + k2 * (hd + k1 * ld)) (hn + k1 * ln) (hd + k1 * ld) := by
  have hl := o.hl; have hh := o.hh; have det := o.det
  have p1 := Int.mul_nonneg h1 (show 0 ≤ ld by omega)
  have p2 := Int.mul_nonneg g1 (show 0 ≤ hd + k1 * ld by omega)
  refine ⟨o.hN, o.hD, ?_, ?_, ?_, by omega, by omega⟩
  · have : r * (ld + k2 * (hd + k1 * ld)) - (ln + k2 * (hn + k1 * ln)) * D = (r * ld - ln * D) - k2 * ((hn + k1 * ln) * D - r * (hd + k1 * ld)) := by grind
    omega
  · have : (hn + k1 * ln) * D - r * (hd + k1 * ld) = (hn * D - r * hd) - k1 * (r * ld - ln * D) := by grind
    omega
  · have : (hn + k1 * ln) * (ld + k2 * (hd + k1 * ld)) - (ln + k2 * (hn + k1 * ln)) * (hd + k1 * ld) = hn * ld - ln * hd := by grind
    omega
theorem Nb.differ (o : Nb N D d q r ln ld hn hd) (hg : Int.gcd N D = 1) (hdD : d < D) (hs : ld + hd ≤ d) : r * ld - ln * D ≠ hn * D - r * hd := by
  intro h
  have hl := o.hl; have hh := o.hh
  have e : N * (ld + hd) = D * (q * (ld + hd) + (ln + hn)) := by
    have h1 : r * (ld + hd) = D * (ln + hn) := by grind
    have := o.hN; subst this; grind
  have h3 : D ∣ ld + hd := dvd_co hg ⟨_, e⟩
  have := Int.le_of_dvd (by omega) h3
  omega
/-- The number of steps that both bounds allow. -/
theorem mn_facts {a b c e : Int} (ha : 0 ≤ a) (hb : 0 < b) (hc : 0 ≤ c) (he : 0 < e) : 0 ≤ mn (a / b) (c / e) ∧ mn (a / b) (c / e) * b ≤ a ∧ mn (a / b) (c / e) * e ≤ c ∧ (mn (a / b) (c / e) = 0 → e ≤ c → a < b) := by
  have q1 : 0 ≤ a / b := Int.ediv_nonneg ha (by omega)
  have q2 : 0 ≤ c / e := Int.ediv_nonneg hc (by omega)
  have h1 : mn (a / b) (c / e) ≤ a / b ∧ mn (a / b) (c / e) ≤ c / e ∧ 0 ≤ mn (a / b) (c / e) ∧ (mn (a / b) (c / e) = a / b ∨ mn (a / b) (c / e) = c / e) := by unfold mn; split <;> omega
  refine ⟨h1.2.2.1, (Int.le_ediv_iff_mul_le hb).1 h1.1, (Int.le_ediv_iff_mul_le he).1 h1.2.1, fun h0 hec => ?_⟩
  rcases h1.2.2.2 with h | h
  · have h2 : a / b < 1 := by omega
    rw [Int.ediv_lt_iff_lt_mul hb] at h2; omega
  · have h2 : 1 ≤ c / e := by rw [Int.le_ediv_iff_mul_le he]; omega
    omega
end
end Go.Proofs.Yteogcbhlilechaa.S
