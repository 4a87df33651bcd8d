/- The law WholeRoots over numbers and lists: what the law's functions tell, and that the law holds. -/
import Derived.Test.YtmnemnoaijldjaaPWholeRootsx1
import Derived.Test.YtmnemnoaijldjaaM
namespace Go.Proofs.Ytmnemnoaijldjaa.Pure
open Go.RowKit Go.Proofs.Ytmnemnoaijldjaa.PWholeRoots Go.Proofs.YtmnemnoaijldjaaW.PrintWords Go.Proofs.YtmnemnoaijldjaaW.PrintLast Go.Proofs.Ytmnemnoaijldjaa.M
set_option linter.unusedVariables false
set_option linter.unusedSimpArgs false
theorem whole_Root_l0 (n : Int) (hn : 0 ≤ n) (hn1 : n ≤ 9223372036854775807) : ∀ (i k : Nat) (x : Int), i ≤ 32 → i < k → 0 ≤ x → x + 2 ^ i ≤ 4294967296 → x % 2 ^ i = 0 → x * x ≤ n → n < (x + 2 ^ i) * (x + 2 ^ i) →
    ∃ r, whole_Root.l0 k n x ((i : Int) - 1) = some (r, 0) ∧ 0 ≤ r ∧ r * r ≤ n ∧ n < (r + 1) * (r + 1) := by
  intro i
  induction i with
  | zero =>
    intro k x _ hk hx hx1 _ h1 h2
    obtain ⟨k, rfl⟩ : ∃ m, k = m + 1 := ⟨k - 1, by omega⟩
    simp only [whole_Root.l0]
    exact ⟨x, by rw [if_neg (by omega)], hx, h1, h2⟩
  | succ i ih =>
    intro k x hi hk hx hx1 hm h1 h2
    obtain ⟨k, rfl⟩ : ∃ m, k = m + 1 := ⟨k - 1, by omega⟩
    have hpow : (2 : Int) ^ (i + 1) = 2 * 2 ^ i := by rw [Int.pow_succ, Int.mul_comm]
    have hpp := pow_pos' i
    have hdvd : x % 2 ^ i = 0 := by
      have : x % 2 ^ (i + 1) % 2 ^ i = x % 2 ^ i := Int.emod_emod_of_dvd x (by rw [hpow]; exact Int.dvd_mul_left _ _)
      rw [← this, hm]; exact Int.zero_emod _
    have hdvd2 : (x + 2 ^ i) % 2 ^ i = 0 := by rw [Int.add_emod_right]; exact hdvd
    have hshl : shl .i64 1 ((i : Int) + 1 - 1) = 2 ^ i := by
      rw [show (i : Int) + 1 - 1 = i from by omega]; exact shl_one_i i (by omega)
    have hor : Go.bits .or .i64 x (2 ^ i) = x + 2 ^ i := or_join_i (i + 1) _ _ hx (by omega) hm (by omega) (by omega) (by omega)
    simp only [whole_Root.l0]
    rw [show (((i + 1 : Nat) : Int) - 1) = (i : Int) + 1 - 1 from by omega]
    rw [if_pos (by omega), if_pos (by omega), hshl, hor, w64_id (n := (i : Int) + 1 - 1 - 1) (by omega) (by omega), show (i : Int) + 1 - 1 - 1 = (i : Int) - 1 from by omega]
    have hsq := mul_lt (n := 4294967296) (m := 4294967296) (show 0 ≤ x + 2 ^ i by omega) (by omega) (show 0 ≤ x + 2 ^ i by omega) (by omega)
    have e2 : x + 2 ^ i + 2 ^ i = x + 2 ^ (i + 1) := by omega
    by_cases c : x + 2 ^ i ≤ 3037000499
    · have hsq2 := mul_lt (n := 3037000499) (m := 3037000499) (show 0 ≤ x + 2 ^ i by omega) c (show 0 ≤ x + 2 ^ i by omega) c
      rw [if_pos c, w64_id (n := (x + 2 ^ i) * (x + 2 ^ i)) (by omega) (by omega)]
      by_cases c2 : (x + 2 ^ i) * (x + 2 ^ i) ≤ n
      · rw [if_pos c2]
        exact ih k (x + 2 ^ i) (by omega) (by omega) (by omega) (by omega) hdvd2 c2 (by rw [e2]; exact h2)
      · rw [if_neg c2]
        exact ih k x (by omega) (by omega) hx (by omega) hdvd h1 (by omega)
    · rw [if_neg c]
      have hbig : (3037000500 : Int) * 3037000500 ≤ (x + 2 ^ i) * (x + 2 ^ i) := Int.mul_le_mul (by omega) (by omega) (by omega) (by omega)
      exact ih k x (by omega) (by omega) hx (by omega) hdvd h1 (by omega)
theorem whole_Root_f {n : Int} (k : Nat) (hk : 40 ≤ k) (hn : 0 ≤ n) (hn1 : n ≤ 9223372036854775807) : ∃ r, whole_Root.f k n = some (r, 0) ∧ 0 ≤ r ∧ r * r ≤ n ∧ n < (r + 1) * (r + 1) := by
  unfold whole_Root.f
  rw [if_neg (by omega)]
  exact whole_Root_l0 n hn hn1 32 k 0 (by omega) (by omega) (by omega) (by omega) (by simp) (by omega) (by simp only [Int.reducePow]; omega)

theorem ephemerisref1_wide_f {a b : Int} (ha : 0 ≤ a) (ha1 : a < 18446744073709551616) (hb : 0 ≤ b) (hb1 : b < 18446744073709551616) : ephemerisref1_wide.f a b = some (a * b / 18446744073709551616, a * b % 18446744073709551616) := by
  unfold ephemerisref1_wide.f
  rw [and_mask a ha ha1, and_mask b hb hb1]
  obtain ⟨h00, h10, h01, h11⟩ := halves a b ha ha1 hb hb1
  have hw := wide_high a b ha ha1 hb hb1
  have hs := halves_mul a b
  have hpl := wide_plain _ _ _ _ h00 h10 h01 h11
  rw [← hs] at hpl
  generalize a * b = p at *
  generalize a % 4294967296 * (b % 4294967296) = p00 at *
  generalize a / 4294967296 * (b % 4294967296) = p10 at *
  generalize a % 4294967296 * (b / 4294967296) = p01 at *
  generalize a / 4294967296 * (b / 4294967296) = p11 at *
  obtain ⟨hp1, hp2⟩ := hpl
  rw [u64_id (n := p00) (by omega) (by omega), u64_id (n := p10) (by omega) (by omega), u64_id (n := p01) (by omega) (by omega), u64_id (n := p11) (by omega) (by omega)]
  rw [u64_id (n := p10 + p00 / 4294967296) (by omega) (by omega)]
  rw [and_mask (p10 + p00 / 4294967296) (by omega) (by omega), and_mask p00 (by omega) (by omega)]
  rw [u64_id (n := p01 + (p10 + p00 / 4294967296) % 4294967296) (by omega) (by omega)]
  rw [u64_id (n := p11 + (p10 + p00 / 4294967296) / 4294967296) (by omega) (by omega)]
  rw [u64_id (n := p11 + (p10 + p00 / 4294967296) / 4294967296 + (p01 + (p10 + p00 / 4294967296) % 4294967296) / 4294967296) (by omega) (by omega)]
  rw [u64_def ((p01 + (p10 + p00 / 4294967296) % 4294967296) * 4294967296)]
  rw [or_join 32 _ _ (by omega) (by omega) (by simp only [Int.reducePow]; omega) (by omega) (by simp only [Int.reducePow]; omega) (by omega)]
  rw [hp1, hp2]

theorem ephemerisref1_Size_f {a : Int} (h0 : -9223372036854775808 ≤ a) (h1 : a ≤ 9223372036854775807) : ephemerisref1_Size.f a = some (ab a) := by
  unfold ephemerisref1_Size.f ab
  by_cases c : a < 0
  · rw [if_pos c, if_pos c, w64_id (n := a + 1) (by omega) (by omega), w64_id (n := -(a + 1)) (by omega) (by omega), u64_id (n := -(a + 1)) (by omega) (by omega), u64_id (by omega) (by omega)]
    congr 1; omega
  · rw [if_neg c, if_neg c, u64_id (by omega) (by omega)]

theorem ephemerisref1_Mul_f {a b : Int} (k : Nat) (hk : 1 ≤ k) (ha : -9223372036854775808 ≤ a) (ha1 : a ≤ 9223372036854775807) (hb : -9223372036854775808 ≤ b) (hb1 : b ≤ 9223372036854775807) : ephemerisref1_Mul.f k a b = some (muls a b) := by
  obtain ⟨k, rfl⟩ : ∃ m, k = m + 1 := ⟨k - 1, by omega⟩
  obtain ⟨hm1, hm2⟩ := muls_of a b ha ha1 hb hb1
  have e1 := ab_nonneg a
  have e2 := ab_nonneg b
  have e3 := ab_le ha ha1
  have e4 := ab_le hb hb1
  unfold ephemerisref1_Mul.f
  rw [ephemerisref1_Size_f ha ha1, ephemerisref1_Size_f hb hb1]
  simp only [Option.bind_some]
  rw [ephemerisref1_wide_f e1 (by omega) e2 (by omega)]
  simp only [Option.bind_some]
  have hp : 0 ≤ ab a * ab b := Int.mul_nonneg e1 e2
  generalize ab a * ab b = p at *
  clear e1 e2 e3 e4
  cases hs : ((decide (a < 0)) != (decide (b < 0))) with
  | true =>
    rw [hm1 hs]
    by_cases c : p / 18446744073709551616 = 0
    · rw [if_pos c, show p % 18446744073709551616 = p from by omega]
      simp only [ephemerisref1_Mul.j0, hs, decide_eq_true_eq, if_true]
      by_cases c2 : p > 9223372036854775808
      · rw [if_pos c2, if_neg (by omega)]
      · rw [if_neg c2, if_pos (by omega), u64_def, w64_def]
        congr 2; omega
    · rw [if_neg c]
      simp only [ephemerisref1_Mul.j0, if_true]
      rw [if_neg (by omega)]
  | false =>
    rw [hm2 hs]
    by_cases c : p / 18446744073709551616 = 0
    · rw [if_pos c, show p % 18446744073709551616 = p from by omega]
      simp only [ephemerisref1_Mul.j0, hs, decide_eq_true_eq, Bool.false_eq_true, if_false]
      by_cases c2 : p > 9223372036854775808
      · rw [if_pos c2, if_neg (by omega)]
      · rw [if_neg c2]
        by_cases c3 : p = 9223372036854775808
        · rw [if_pos c3, if_neg (by omega)]
        · rw [if_neg c3, if_pos (by omega), w64_id (by omega) (by omega)]
    · rw [if_neg c]
      simp only [ephemerisref1_Mul.j0, if_true]
      rw [if_neg (by omega)]

theorem WholeRoots : ephemerislaw1_WholeRoots.Pure := by
  intro n hn
  obtain ⟨hn0, hn1⟩ := wf_i64 hn
  refine ⟨100, ?_⟩
  unfold ephemerislaw1_WholeRoots.f
  rw [show whole_Root.f 100 99 = some (9, 0) from by decide +kernel]
  simp only [Option.bind_some, if_true, bne_self_eq_false, ephemerislaw1_WholeRoots.j0, Bool.false_eq_true, if_false]
  by_cases h : n < 0
  · have e : whole_Root.f 99 n = some (0, 1) := by unfold whole_Root.f; rw [if_pos h]
    rw [e]
    simp only [Option.bind_some]
    rw [if_pos h]; rfl
  · obtain ⟨r, e, h1, h2, h3⟩ := whole_Root_f 99 (by omega) (show 0 ≤ n by omega) hn1
    rw [e]
    simp only [Option.bind_some]
    have hr : r ≤ 3037000499 := by
      rcases Int.lt_or_le 3037000499 r with h | h
      · have := Int.mul_le_mul (a := 3037000500) (b := 3037000500) (c := r) (d := r) (by omega) (by omega) (by omega) (by omega)
        omega
      · exact h
    rw [if_neg h, w64_id (by omega) (by omega), ephemerisref1_Mul_f 99 (by omega) (by omega) (by omega) (by omega) (by omega), ephemerisref1_Mul_f 99 (by omega) (by omega) (by omega) (by omega) (by omega)]
    simp only [Option.bind_some, if_true]
    have m1 : muls r r = (r * r, 0) := by
      unfold muls
      have := Int.mul_nonneg h1 h1
      rw [if_pos (by omega)]
    rw [m1, if_pos (by omega), if_pos rfl, if_pos h2]
    unfold muls
    split
    · simp only [if_true]; congr 1; simpa using h3
    · rw [if_neg (by omega)]
end Go.Proofs.Ytmnemnoaijldjaa.Pure
