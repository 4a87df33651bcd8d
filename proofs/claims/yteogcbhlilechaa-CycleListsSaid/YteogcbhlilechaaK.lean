/- Plain facts on days that have places in several cycles at once. No program here. -/
import Derived.Test.YteogcbhlilechaaC
namespace Go.Proofs.Yteogcbhlilechaa.K
open Go.RowKit Go.Proofs.YteogcbhlilechaaW.PrintWords Go.Proofs.Yteogcbhlilechaa.M Go.Proofs.Yteogcbhlilechaa.L Go.Proofs.Yteogcbhlilechaa.C
set_option linter.unusedVariables false
/-- In the steps from x on: x' = x + k step is the first that has the place; step' is the new distance. -/
theorem lcm_dvd_iff (s n z : Int) (hs : 0 < s) (hn : 0 < n) : s / (Int.gcd s n : Int) * n ∣ z ↔ s ∣ z ∧ n ∣ z := by
  obtain ⟨c, hc⟩ := Int.gcd_dvd_left s n
  obtain ⟨e, he⟩ := Int.gcd_dvd_right s n
  have hg : (0 : Int) < (Int.gcd s n : Int) := by
    have : 0 < Int.gcd s n := Int.gcd_pos_of_ne_zero_left _ (by omega)
    omega
  have hq : s / (Int.gcd s n : Int) = c := by
    have := Int.mul_ediv_cancel_left c (show (Int.gcd s n : Int) ≠ 0 by omega)
    rw [← hc] at this; exact this
  have hl : s / (Int.gcd s n : Int) * n = Int.lcm s n := by
    have h1 : (Int.gcd s n : Int) * (Int.lcm s n : Int) = s * n := by
      have := Int.gcd_mul_lcm s n
      have h2 : ((Int.gcd s n * Int.lcm s n : Nat) : Int) = ((s * n).natAbs : Int) := by rw [this, Int.natAbs_mul]
      rw [Int.natCast_mul] at h2
      rw [h2, Int.natAbs_of_nonneg (Int.mul_nonneg (by omega) (by omega))]
    rw [hq]
    have h3 : (Int.gcd s n : Int) * (c * n) = (Int.gcd s n : Int) * (Int.lcm s n : Int) := by
      rw [h1, ← Int.mul_assoc, ← hc]
    exact Int.eq_of_mul_eq_mul_left (by omega) h3
  rw [hl]
  constructor
  · intro h
    exact ⟨Int.dvd_trans (Int.dvd_lcm_left ..) h, Int.dvd_trans (Int.dvd_lcm_right ..) h⟩
  · rintro ⟨h1, h2⟩; exact Int.coe_lcm_dvd h1 h2
theorem meet_found (H : Int → Prop) (day x step n o p k : Int) (h1 : 1 ≤ step) (hn : 1 ≤ n) (hd : -4000000 ≤ day) (hx : day ≤ x) (hk : 0 ≤ k) (hm : x + k * step ≤ 4000000)
    (inv : ∀ t, day ≤ t → t ≤ 4000000 → (H t ↔ x ≤ t ∧ step ∣ t - x)) (hit : (x + k * step + o) % n = p) (miss : ∀ j, 0 ≤ j → j < k → (x + j * step + o) % n ≠ p) (s' : Int)
    (hs : s' = step / (Int.gcd step n : Int) * n ∨ (1099511627776 ≤ step / (Int.gcd step n : Int) * n ∧ s' = 1099511627776)) :
    ∀ t, day ≤ t → t ≤ 4000000 → ((H t ∧ (t + o) % n = p) ↔ x + k * step ≤ t ∧ s' ∣ t - (x + k * step)) := by
  have hl := fun z => lcm_dvd_iff step n z (by omega) (by omega)
  have hkm : 0 ≤ k * step := Int.mul_nonneg hk (by omega)
  have back : ∀ t, day ≤ t → t ≤ 4000000 → step / (Int.gcd step n : Int) * n ∣ t - (x + k * step) → x + k * step ≤ t → (H t ∧ (t + o) % n = p) := by
    intro t ht0 ht1 hdv hle
    obtain ⟨a, b⟩ := (hl _).1 hdv
    refine ⟨(inv t ht0 ht1).2 ⟨by omega, ?_⟩, ?_⟩
    · have : t - x = (t - (x + k * step)) + k * step := by omega
      rw [this]
      exact Int.dvd_add a (Int.dvd_mul_left ..)
    · obtain ⟨c, hc⟩ := b
      rw [← hit, show t + o = (x + k * step + o) + n * c from by omega, Int.add_mul_emod_self_left]
  intro t ht0 ht1
  constructor
  · rintro ⟨hH, hp⟩
    obtain ⟨hle, j, hj⟩ := (inv t ht0 ht1).1 hH
    have hj0 : 0 ≤ j := by
      rcases Int.lt_or_le j 0 with h | h
      · exfalso
        have : step * j < 0 := Int.mul_neg_of_pos_of_neg (by omega) h
        omega
      · exact h
    have hkj : k ≤ j := by
      rcases Int.lt_or_le j k with h | h
      · exfalso
        refine miss j hj0 h ?_
        rw [← hp, Int.mul_comm j step, show t + o = x + step * j + o from by omega]
      · exact h
    have hge : x + k * step ≤ t := by
      have : k * step ≤ j * step := Int.mul_le_mul_of_nonneg_right hkj (by omega)
      rw [Int.mul_comm j step] at this
      omega
    have hdv : step / (Int.gcd step n : Int) * n ∣ t - (x + k * step) := by
      rw [hl]
      refine ⟨?_, ?_⟩
      · have : t - (x + k * step) = (j - k) * step := by rw [Int.sub_mul, Int.mul_comm j step]; omega
        rw [this]; exact Int.dvd_mul_left ..
      · have := Int.emod_eq_emod_iff_emod_sub_eq_zero.1 (hp.trans hit.symm)
        rw [show t + o - (x + k * step + o) = t - (x + k * step) from by omega] at this
        exact Int.dvd_of_emod_eq_zero this
    refine ⟨hge, ?_⟩
    rcases hs with rfl | ⟨hb, rfl⟩
    · exact hdv
    · by_cases hz : t - (x + k * step) = 0
      · rw [hz]; exact Int.dvd_zero _
      · have := Int.le_of_dvd (by omega) hdv
        omega
  · rintro ⟨hge, hdv⟩
    rcases hs with rfl | ⟨hb, rfl⟩
    · exact back t ht0 ht1 hdv hge
    · have hz : t - (x + k * step) = 0 := by
        obtain ⟨c, hc⟩ := hdv
        omega
      exact back t ht0 ht1 (by rw [hz]; exact Int.dvd_zero _) hge
/-- None among the first n steps, or beyond the last day: none. -/
theorem meet_none (H : Int → Prop) (day x step n o p k : Int) (h1 : 1 ≤ step) (hn : 1 ≤ n) (hx : day ≤ x) (hk : 0 ≤ k)
    (inv : ∀ t, day ≤ t → t ≤ 4000000 → (H t ↔ x ≤ t ∧ step ∣ t - x)) (miss : ∀ j, 0 ≤ j → j < k → (x + j * step + o) % n ≠ p) (hend : k = n ∨ 4000000 < x + k * step) :
    ∀ t, day ≤ t → t ≤ 4000000 → ¬ (H t ∧ (t + o) % n = p) := by
  rintro t ht0 ht1 ⟨hH, hp⟩
  obtain ⟨hle, j, hj⟩ := (inv t ht0 ht1).1 hH
  have hj0 : 0 ≤ j := by
    rcases Int.lt_or_le j 0 with h | h
    · exfalso
      have : step * j < 0 := Int.mul_neg_of_pos_of_neg (by omega) h
      omega
    · exact h
  rw [show t + o = x + j * step + o from by rw [Int.mul_comm j step]; omega] at hp
  rcases hend with rfl | he
  · refine miss (j % k) (Int.emod_nonneg _ (by omega)) (Int.emod_lt_of_pos _ (by omega)) ?_
    rw [← hp]
    have := Int.mul_ediv_add_emod j k
    have e : x + j * step + o = (x + j % k * step + o) + k * (j / k * step) := by
      have : j * step = k * (j / k) * step + j % k * step := by rw [← Int.add_mul, this]
      rw [this, Int.mul_assoc]; omega
    rw [e, Int.add_mul_emod_self_left]
  · have hkj : j < k := by
      rcases Int.lt_or_le j k with h | h
      · exact h
      · exfalso
        have : k * step ≤ j * step := Int.mul_le_mul_of_nonneg_right h (by omega)
        rw [Int.mul_comm j step] at this
        omega
    exact miss j hj0 hkj hp
/-- The day has the first i places. -/
def pre (l o p : List Int) (i : Nat) (t : Int) : Prop := ∀ (j : Nat) (h : j < l.length) (h' : j < o.length) (h'' : j < p.length), j < i → (t + o[j]) % l[j] = p[j]
theorem pre_succ (l o p : List Int) (i : Nat) (t : Int) (h : i < l.length) (h' : i < o.length) (h'' : i < p.length) : pre l o p (i + 1) t ↔ pre l o p i t ∧ (t + o[i]) % l[i] = p[i] := by
  constructor
  · intro hp
    exact ⟨fun j a b c d => hp j a b c (by omega), hp i h h' h'' (by omega)⟩
  · rintro ⟨hp, he⟩ j a b c d
    by_cases hj : j = i
    · subst hj; exact he
    · exact hp j a b c (by omega)
theorem pre_all (l o p : List Int) (t : Int) (h : l.length = o.length) (hp : p.length = l.length) : pre l o p l.length t ↔ p = places l o t := by
  have hl := places_length l o t h
  constructor
  · intro hpre
    apply List.ext_getElem (by omega)
    intro i h1 h2
    rw [places_get l o t i (by omega) (by omega) h2]
    exact (hpre i (by omega) (by omega) h1 (by omega)).symm
  · intro he j a b c d
    have := places_get l o t j a b (by omega)
    rw [← this]
    simp only [← he]
/-- What is known of the search's answer: none up to the last day, or the first one and the distance of all. -/
def meetSpec (H : Int → Prop) (day x step : Int) : Prop :=
  (x = 0 ∧ step = -1 ∧ ∀ t, day ≤ t → t ≤ 4000000 → ¬ H t) ∨ (1 ≤ step ∧ step ≤ 1099511627776 ∧ day ≤ x ∧ x ≤ 4000000 ∧ ∀ t, day ≤ t → t ≤ 4000000 → (H t ↔ x ≤ t ∧ step ∣ t - x))
end Go.Proofs.Yteogcbhlilechaa.K
