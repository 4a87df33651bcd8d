/- Plain facts on whole numbers of 64 bits: wrapping, bits, long division, products by halves. No program here. -/
import Derived.Test.YtbcbghbmjgcbmaaDoorWMore
import Derived.Laws.BitsLemmas
namespace Go.Proofs.YtbcbghbmjgcbmaaDoor.M
open Go.RowKit Go.Proofs.YtbcbghbmjgcbmaaDoorW.PrintWords
set_option linter.unusedVariables false

theorem w64_id {n : Int} (h0 : -9223372036854775808 ≤ n) (h1 : n ≤ 9223372036854775807) : wrap64 n = n := by
  unfold wrap64; omega
theorem w64_def (n : Int) : wrap64 n = (n + 9223372036854775808) % 18446744073709551616 - 9223372036854775808 := by unfold wrap64; omega
theorem u64_def (n : Int) : IntKind.u64.wrap n = n % 18446744073709551616 := by
  simp [IntKind.wrap, IntKind.bits, IntKind.signed]
theorem u64_id {n : Int} (h0 : 0 ≤ n) (h1 : n < 18446744073709551616) : IntKind.u64.wrap n = n := by
  rw [u64_def]; omega
theorem wf_i64 {n : Int} (h : (Lit.int .i64 n).wf = true) : -9223372036854775808 ≤ n ∧ n ≤ 9223372036854775807 := by
  simp only [Lit.wf, IntKind.min, IntKind.max, IntKind.signed, IntKind.bits, Bool.and_eq_true, decide_eq_true_eq, if_true] at h
  omega
theorem wraps_u64 (n : Int) (h₀ : 0 ≤ n) (h₁ : n < 2 ^ 64) : IntKind.u64.wrap n = n := u64_id h₀ (by simpa using h₁)
theorem wraps_i64 (n : Int) (h₀ : 0 ≤ n) (h₁ : n < 2 ^ 63) : IntKind.i64.wrap n = n := by
  rw [IntKind.wrap_i64]
  have : n < 9223372036854775808 := by simpa using h₁
  omega

/-! ## bits -/
theorem and_mask (x : Int) (h0 : 0 ≤ x) (h1 : x < 18446744073709551616) : Go.bits .and .u64 x 4294967295 = x % 4294967296 := by
  have := bits_mask .u64 64 (by decide) wraps_u64 32 (by decide) x h0 (by simpa using h1)
  simpa using this
theorem and_one (x : Int) (h0 : 0 ≤ x) (h1 : x < 18446744073709551616) : Go.bits .and .u64 x 1 = x % 2 := by
  have := bits_mask .u64 64 (by decide) wraps_u64 1 (by decide) x h0 (by simpa using h1)
  simpa using this
theorem or_join (i : Nat) (x y : Int) (h0 : 0 ≤ x) (h1 : x < 18446744073709551616) (hm : x % 2 ^ i = 0) (h2 : 0 ≤ y) (h3 : y < 2 ^ i) (h4 : y < 18446744073709551616) :
    Go.bits .or .u64 x y = x + y :=
  bits_join .u64 64 (by decide) wraps_u64 i x y h0 hm (by simpa using h1) h2 h3 (by simpa using h4)
theorem or_join_i (i : Nat) (x y : Int) (h0 : 0 ≤ x) (h1 : x < 9223372036854775808) (hm : x % 2 ^ i = 0) (h2 : 0 ≤ y) (h3 : y < 2 ^ i) (h4 : y < 9223372036854775808) :
    Go.bits .or .i64 x y = x + y :=
  bits_join .i64 63 (by decide) wraps_i64 i x y h0 hm (by simpa using h1) h2 h3 (by simpa using h4)
theorem pow_le_63 (n : Nat) (h : n ≤ 63) : (2 : Int) ^ n ≤ 9223372036854775808 := by
  have : 2 ^ n ≤ 2 ^ 63 := Nat.pow_le_pow_right (by decide) h
  have h2 : ((2 ^ n : Nat) : Int) ≤ ((2 ^ 63 : Nat) : Int) := by exact_mod_cast this
  simpa using h2
theorem pow_le_62 (n : Nat) (h : n ≤ 62) : (2 : Int) ^ n ≤ 4611686018427387904 := by
  have : 2 ^ n ≤ 2 ^ 62 := Nat.pow_le_pow_right (by decide) h
  have h2 : ((2 ^ n : Nat) : Int) ≤ ((2 ^ 62 : Nat) : Int) := by exact_mod_cast this
  simpa using h2
theorem pow_pos' (n : Nat) : (0 : Int) < 2 ^ n := by
  have : 0 < 2 ^ n := Nat.two_pow_pos n
  exact_mod_cast this
theorem shl_one (n : Nat) (h : n ≤ 63) : shl .u64 1 (n : Int) = 2 ^ n := by
  unfold shl
  rw [show ((n : Int).toNat) = n from by omega, Nat.min_eq_left (by simp [IntKind.bits]; omega), Int.one_mul]
  have h1 := pow_le_63 n h
  have h2 := pow_pos' n
  exact u64_id (by omega) (by omega)
theorem shl_one_i (n : Nat) (h : n ≤ 62) : shl .i64 1 (n : Int) = 2 ^ n := by
  unfold shl
  rw [show ((n : Int).toNat) = n from by omega, Nat.min_eq_left (by simp [IntKind.bits]; omega), Int.one_mul, IntKind.wrap_i64]
  have h1 := pow_le_62 n h
  have h2 := pow_pos' n
  omega
theorem shr_pow (x : Int) (n : Nat) (h : n ≤ 63) : shr .u64 x (n : Int) = x / 2 ^ n := by
  unfold shr
  rw [show ((n : Int).toNat) = n from by omega, Nat.min_eq_left (by simp [IntKind.bits]; omega)]

/-! ## rounded quotients -/
/-- The quotient, rounded down, and its remainder. -/
def fd (a b : Int) : Int := if b < 0 then (-a) / (-b) else a / b
def fm (a b : Int) : Int := if b < 0 then -((-a) % (-b)) else a % b
theorem fd_pos {a b : Int} (h : 0 < b) : fd a b = a / b := by unfold fd; rw [if_neg (by omega)]
theorem fm_pos {a b : Int} (h : 0 < b) : fm a b = a % b := by unfold fm; rw [if_neg (by omega)]
/-- What Div tells. -/
def divs (a b : Int) : Int × Int × Int :=
  if b = 0 then (0, 0, 1) else if a = -9223372036854775808 ∧ b = -1 then (0, 0, 14) else (fd a b, fm a b, 0)
theorem divs_pos {a b : Int} (h : 0 < b) : divs a b = (a / b, a % b, 0) := by
  unfold divs; rw [if_neg (by omega), if_neg (by omega), fd_pos h, fm_pos h]
theorem ed_uniq {a b q r : Int} (hb : 0 < b) (h : a = b * q + r) (h0 : 0 ≤ r) (h1 : r < b) : a / b = q ∧ a % b = r := by
  have := (Int.ediv_emod_unique (a := a) (b := b) (r := r) (q := q) hb).2 ⟨by omega, h0, h1⟩
  exact this
theorem fd_uniq {a b q r : Int} (h : a = b * q + r) (hp : 0 < b → 0 ≤ r ∧ r < b) (hn : b < 0 → b < r ∧ r ≤ 0) (hb : b ≠ 0) : fd a b = q ∧ fm a b = r := by
  unfold fd fm
  by_cases hlt : b < 0
  · rw [if_pos hlt, if_pos hlt]
    have := hn hlt
    have h2 := ed_uniq (a := -a) (b := -b) (q := q) (r := -r) (by omega) (by rw [h, Int.neg_mul]; omega) (by omega) (by omega)
    exact ⟨h2.1, by rw [h2.2]; omega⟩
  · rw [if_neg hlt, if_neg hlt]
    have := hp (by omega)
    exact ed_uniq (by omega) h this.1 this.2
theorem fd_spec (a b : Int) (hb : b ≠ 0) : a = b * fd a b + fm a b ∧ (0 < b → 0 ≤ fm a b ∧ fm a b < b) ∧ (b < 0 → b < fm a b ∧ fm a b ≤ 0) := by
  unfold fd fm
  by_cases hlt : b < 0
  · rw [if_pos hlt, if_pos hlt]
    have h1 := Int.mul_ediv_add_emod (-a) (-b)
    have h2 := Int.emod_nonneg (-a) (b := -b) (by omega)
    have h3 := Int.emod_lt_of_pos (-a) (b := -b) (by omega)
    rw [Int.neg_mul] at h1
    exact ⟨by omega, by omega, by omega⟩
  · rw [if_neg hlt, if_neg hlt]
    have h1 := Int.mul_ediv_add_emod a b
    have h2 := Int.emod_nonneg a hb
    have h3 := Int.emod_lt_of_pos a (b := b) (by omega)
    exact ⟨by omega, by omega, by omega⟩
/-- The absolute value. -/
def ab (a : Int) : Int := if a < 0 then -a else a
theorem ab_nonneg (a : Int) : 0 ≤ ab a := by unfold ab; split <;> omega
theorem ab_le {a : Int} (h : -9223372036854775808 ≤ a) (h1 : a ≤ 9223372036854775807) : ab a ≤ 9223372036854775808 := by unfold ab; split <;> omega
theorem tdm (a b : Int) (hb : b ≠ 0) : a = b * Int.tdiv a b + Int.tmod a b ∧ (0 ≤ a → 0 ≤ Int.tmod a b) ∧ (a ≤ 0 → Int.tmod a b ≤ 0) ∧ (0 < b → Int.tmod a b < b ∧ -b < Int.tmod a b) ∧ (b < 0 → Int.tmod a b < -b ∧ b < Int.tmod a b) := by
  have h0 := Int.mul_tdiv_add_tmod a b
  have h1 : 0 ≤ a → 0 ≤ Int.tmod a b := fun h => Int.tmod_nonneg b h
  have h2 : a ≤ 0 → Int.tmod a b ≤ 0 := fun h => by
    have := Int.tmod_nonneg b (a := -a) (by omega)
    rw [Int.neg_tmod] at this; omega
  have h3 : 0 < b → Int.tmod a b < b ∧ -b < Int.tmod a b := fun h => by
    have x := Int.tmod_lt_of_pos a h
    have y := Int.tmod_lt_of_pos (-a) h
    rw [Int.neg_tmod] at y
    omega
  have h4 : b < 0 → Int.tmod a b < -b ∧ b < Int.tmod a b := fun h => by
    have x := Int.tmod_lt_of_pos a (b := -b) (by omega)
    have y := Int.tmod_lt_of_pos (-a) (b := -b) (by omega)
    rw [Int.tmod_neg] at x y
    rw [Int.neg_tmod] at y
    omega
  exact ⟨by omega, h1, h2, h3, h4⟩
theorem tdiv_bound (a b : Int) (hb : b ≠ 0) (h0 : -9223372036854775808 ≤ a) (h1 : a ≤ 9223372036854775807) (hn : ¬ (a = -9223372036854775808 ∧ b = -1)) :
    -9223372036854775808 ≤ Int.tdiv a b ∧ Int.tdiv a b ≤ 9223372036854775807 := by
  have hm : (Int.tdiv a b).natAbs ≤ a.natAbs := by
    rw [Int.natAbs_tdiv]; exact Nat.div_le_self _ _
  refine ⟨by omega, ?_⟩
  by_cases ha : a = -9223372036854775808
  · by_cases h2 : b = 1
    · subst h2; rw [Int.tdiv_one]; omega
    · have : (Int.tdiv a b).natAbs ≤ a.natAbs / 2 := by
        rw [Int.natAbs_tdiv]
        exact Nat.div_le_div_left (by omega) (by omega)
      omega
  · omega
/-- The quotient of Go, put right, is the rounded one. -/
theorem fd_of_t (a b : Int) (hb : b ≠ 0) :
    (Int.tmod a b = 0 → fd a b = Int.tdiv a b ∧ fm a b = 0) ∧
    (Int.tmod a b ≠ 0 → (decide (Int.tmod a b < 0) != decide (b < 0)) = true → fd a b = Int.tdiv a b - 1 ∧ fm a b = Int.tmod a b + b) ∧
    (Int.tmod a b ≠ 0 → (decide (Int.tmod a b < 0) != decide (b < 0)) = false → fd a b = Int.tdiv a b ∧ fm a b = Int.tmod a b) := by
  obtain ⟨h0, h1, h2, h3, h4⟩ := tdm a b hb
  refine ⟨fun h => ?_, fun hz h => ?_, fun hz h => ?_⟩
  · have := fd_uniq (a := a) (b := b) (q := Int.tdiv a b) (r := 0) (by omega) (by omega) (by omega) hb
    exact this
  · refine fd_uniq (by rw [Int.mul_sub]; omega) ?_ ?_ hb <;> simp at h <;> by_cases hx : Int.tmod a b < 0 <;> simp [hx] at h <;> omega
  · refine fd_uniq (by omega) ?_ ?_ hb <;> simp at h <;> by_cases hx : Int.tmod a b < 0 <;> simp [hx] at h <;> omega
theorem tmod_emod (a m : Int) (hm : 0 < m) : (Int.tmod a m < 0 → Int.tmod a m + m = a % m) ∧ (¬ Int.tmod a m < 0 → Int.tmod a m = a % m) := by
  obtain ⟨h0, h1, h2, h3, h4⟩ := tdm a m (by omega)
  have h3 := h3 hm
  refine ⟨fun h => ?_, fun h => ?_⟩
  · exact ((ed_uniq (a := a) (b := m) (q := Int.tdiv a m - 1) (r := Int.tmod a m + m) hm (by rw [Int.mul_sub]; omega) (by omega) (by omega)).2).symm
  · exact ((ed_uniq (a := a) (b := m) (q := Int.tdiv a m) (r := Int.tmod a m) hm (by omega) (by omega) (by omega)).2).symm

/-! ## long division: one bit -/
theorem long_step (Z Y : Int) (_hz : 0 ≤ Z) (hy : 0 < Y) :
    (Y ≤ 2 * (Z / 2 % Y) + Z % 2 → Z / Y = 2 * (Z / 2 / Y) + 1 ∧ Z % Y = 2 * (Z / 2 % Y) + Z % 2 - Y) ∧
    (¬ Y ≤ 2 * (Z / 2 % Y) + Z % 2 → Z / Y = 2 * (Z / 2 / Y) ∧ Z % Y = 2 * (Z / 2 % Y) + Z % 2) := by
  have h1 := Int.mul_ediv_add_emod (Z / 2) Y
  have h2 := Int.emod_nonneg (Z / 2) (b := Y) (by omega)
  have h3 := Int.emod_lt_of_pos (Z / 2) hy
  generalize Z / 2 / Y = q at *
  generalize Z / 2 % Y = r at *
  have e : Y * (2 * q + 1) = 2 * (Y * q) + Y := by rw [Int.mul_add, Int.mul_one, Int.mul_left_comm]
  have e2 : Y * (2 * q) = 2 * (Y * q) := by rw [Int.mul_left_comm]
  refine ⟨fun h => ?_, fun h => ?_⟩
  · exact ed_uniq hy (by rw [e]; omega) (by omega) (by omega)
  · exact ed_uniq hy (by rw [e2]; omega) (by omega) (by omega)
theorem half_pow (X : Int) (n : Nat) : X / 2 ^ (n + 1) = X / 2 ^ n / 2 := by
  rw [Int.pow_succ, Int.ediv_ediv_of_nonneg (by have := pow_pos' n; omega)]
theorem div_pow_le (X Y : Int) (n : Nat) (hx : 0 ≤ X) (hy : 0 < Y) : 0 ≤ X / 2 ^ n / Y * 2 ^ n ∧ X / 2 ^ n / Y * 2 ^ n ≤ X := by
  have hp := pow_pos' n
  have h1 : 0 ≤ X / 2 ^ n := Int.ediv_nonneg hx (by omega)
  have h2 : X / 2 ^ n / Y ≤ X / 2 ^ n := Int.ediv_le_self _ h1
  have h3 : 0 ≤ X / 2 ^ n / Y := Int.ediv_nonneg h1 (by omega)
  have h4 : X / 2 ^ n * 2 ^ n ≤ X := Int.ediv_mul_le X (by omega)
  have h5 : X / 2 ^ n / Y * 2 ^ n ≤ X / 2 ^ n * 2 ^ n := Int.mul_le_mul_of_nonneg_right h2 (by omega)
  exact ⟨Int.mul_nonneg h3 (by omega), by omega⟩

/-! ## products by halves -/
theorem halves_mul (a b : Int) : a * b = (a / 4294967296) * (b / 4294967296) * 18446744073709551616 + ((a / 4294967296) * (b % 4294967296) + (a % 4294967296) * (b / 4294967296)) * 4294967296 + (a % 4294967296) * (b % 4294967296) := by
  have ha := Int.mul_ediv_add_emod a 4294967296
  have hb := Int.mul_ediv_add_emod b 4294967296
  generalize a / 4294967296 = a1 at *
  generalize a % 4294967296 = a0 at *
  generalize b / 4294967296 = b1 at *
  generalize b % 4294967296 = b0 at *
  subst ha hb
  grind
theorem mul_lt {a b n m : Int} (h0 : 0 ≤ a) (h1 : a ≤ n) (h2 : 0 ≤ b) (h3 : b ≤ m) : 0 ≤ a * b ∧ a * b ≤ n * m :=
  ⟨Int.mul_nonneg h0 h2, Int.mul_le_mul h1 h3 h2 (by omega)⟩
/-- The product of two natural numbers below 2^64 out of the products of their halves. -/
theorem wide_plain (p00 p10 p01 p11 : Int) (h00 : 0 ≤ p00 ∧ p00 ≤ 18446744065119617025) (h10 : 0 ≤ p10 ∧ p10 ≤ 18446744065119617025) (h01 : 0 ≤ p01 ∧ p01 ≤ 18446744065119617025) (h11 : 0 ≤ p11 ∧ p11 ≤ 18446744065119617025) :
    p11 + (p10 + p00 / 4294967296) / 4294967296 + (p01 + (p10 + p00 / 4294967296) % 4294967296) / 4294967296 = (p11 * 18446744073709551616 + (p10 + p01) * 4294967296 + p00) / 18446744073709551616 ∧
    (p01 + (p10 + p00 / 4294967296) % 4294967296) * 4294967296 % 18446744073709551616 + p00 % 4294967296 = (p11 * 18446744073709551616 + (p10 + p01) * 4294967296 + p00) % 18446744073709551616 := by
  omega
theorem halves (a b : Int) (ha : 0 ≤ a) (ha1 : a < 18446744073709551616) (hb : 0 ≤ b) (hb1 : b < 18446744073709551616) :
    (0 ≤ a % 4294967296 * (b % 4294967296) ∧ a % 4294967296 * (b % 4294967296) ≤ 18446744065119617025) ∧ (0 ≤ a / 4294967296 * (b % 4294967296) ∧ a / 4294967296 * (b % 4294967296) ≤ 18446744065119617025) ∧
    (0 ≤ a % 4294967296 * (b / 4294967296) ∧ a % 4294967296 * (b / 4294967296) ≤ 18446744065119617025) ∧ (0 ≤ a / 4294967296 * (b / 4294967296) ∧ a / 4294967296 * (b / 4294967296) ≤ 18446744065119617025) :=
  ⟨mul_lt (n := 4294967295) (m := 4294967295) (by omega) (by omega) (by omega) (by omega), mul_lt (n := 4294967295) (m := 4294967295) (by omega) (by omega) (by omega) (by omega),
   mul_lt (n := 4294967295) (m := 4294967295) (by omega) (by omega) (by omega) (by omega), mul_lt (n := 4294967295) (m := 4294967295) (by omega) (by omega) (by omega) (by omega)⟩
theorem wide_high (a b : Int) (ha : 0 ≤ a) (ha1 : a < 18446744073709551616) (hb : 0 ≤ b) (hb1 : b < 18446744073709551616) : 0 ≤ a * b / 18446744073709551616 ∧ a * b / 18446744073709551616 < 18446744073709551616 := by
  have h := mul_lt (n := 18446744073709551615) (m := 18446744073709551615) ha (by omega) hb (by omega)
  omega
/-- What Mul tells. -/
def muls (a b : Int) : Int × Int :=
  if -9223372036854775808 ≤ a * b ∧ a * b ≤ 9223372036854775807 then (a * b, 0) else (0, 14)
theorem ab_mul (a b : Int) : ((decide (a < 0)) != (decide (b < 0))) = true ∧ a * b = -(ab a * ab b) ∨ ((decide (a < 0)) != (decide (b < 0))) = false ∧ a * b = ab a * ab b := by
  unfold ab
  by_cases h : a < 0 <;> by_cases h2 : b < 0 <;> simp [h, h2, Int.neg_mul, Int.mul_neg]
/-- The result of the multiplication with the sign set apart. -/
theorem muls_of (a b : Int) (_ha : -9223372036854775808 ≤ a) (_ha1 : a ≤ 9223372036854775807) (_hb : -9223372036854775808 ≤ b) (_hb1 : b ≤ 9223372036854775807) :
    (((decide (a < 0)) != (decide (b < 0))) = true → muls a b = if ab a * ab b ≤ 9223372036854775808 then (-(ab a * ab b), 0) else (0, 14)) ∧
    (((decide (a < 0)) != (decide (b < 0))) = false → muls a b = if ab a * ab b < 9223372036854775808 then (ab a * ab b, 0) else (0, 14)) := by
  have hp : 0 ≤ ab a * ab b := Int.mul_nonneg (ab_nonneg a) (ab_nonneg b)
  rcases ab_mul a b with ⟨h, e⟩ | ⟨h, e⟩
  · refine ⟨fun _ => ?_, fun h' => (by rw [h] at h'; cases h')⟩
    unfold muls
    rw [e]
    by_cases c : ab a * ab b ≤ 9223372036854775808
    · rw [if_pos (by omega), if_pos c]
    · rw [if_neg (by omega), if_neg c]
  · refine ⟨fun h' => (by rw [h] at h'; cases h'), fun _ => ?_⟩
    unfold muls
    rw [e]
    by_cases c : ab a * ab b < 9223372036854775808
    · rw [if_pos (by omega), if_pos c]
    · rw [if_neg (by omega), if_neg c]

/-! ## congruences -/
theorem tmod_zero_iff (b : Int) {g : Int} (hg : 0 < g) : Int.tmod b g = 0 ↔ b % g = 0 := by
  obtain ⟨h1, h2⟩ := tmod_emod b g hg
  obtain ⟨_, _, _, h3, _⟩ := tdm b g (by omega)
  have := h3 hg
  constructor
  · intro h; rw [← h2 (by omega)]; exact h
  · intro h
    by_cases c : Int.tmod b g < 0
    · have := h1 c; omega
    · rw [h2 c]; exact h
theorem gcd_emod (a m : Int) : Int.gcd (a % m) m = Int.gcd a m := by
  rw [Int.emod_def]; exact Int.gcd_sub_mul_left_left _ _ _
theorem gcd_pos_le (a : Int) {m : Int} (hm : 0 < m) : 0 < (Int.gcd a m : Int) ∧ (Int.gcd a m : Int) ≤ m := by
  have h1 : 0 < Int.gcd a m := Nat.gcd_pos_of_pos_right _ (by omega)
  have h2 : Int.gcd a m ≤ m.natAbs := Nat.gcd_le_right _ (by omega)
  omega
theorem tdiv_exact {b g c : Int} (hg : g ≠ 0) (h : b = g * c) : Int.tdiv b g = c := by
  rw [h]; exact Int.mul_tdiv_cancel_left c hg
theorem mul_pos_of {n g m : Int} (hg : 0 < g) (h : m = g * n) (hm : 0 < m) : 0 < n ∧ n ≤ m := by
  have h0 : 0 < n := by
    rcases Int.lt_or_le 0 n with h1 | h1
    · exact h1
    · have := Int.mul_nonneg (show 0 ≤ g by omega) (show 0 ≤ -n by omega)
      rw [Int.mul_neg] at this
      omega
  have := Int.mul_le_mul_of_nonneg_right (show 1 ≤ g by omega) (show 0 ≤ n by omega)
  omega
theorem prod_emod (s c n : Int) : ∃ j, (s % n) * (c % n) % n = s * c - n * j := by
  rw [← Int.mul_emod]
  exact ⟨s * c / n, Int.emod_def _ _⟩
theorem solve_math {A s g m i n c j x b : Int} (h1 : A * s = g + m * i) (h2 : m = g * n) (h3 : ∃ A', A = g * A') (h4 : b = g * c) (h5 : x = s * c - n * j) : (A * x - b) % m = 0 := by
  obtain ⟨A', hA⟩ := h3
  have : A * x - b = m * (i * c - A' * j) := by
    rw [h5, Int.mul_sub, ← Int.mul_assoc, h1, h4]
    have e : A * (n * j) = m * (A' * j) := by rw [hA, h2]; grind
    rw [e]; grind
  rw [this]; exact Int.mul_emod_right _ _
end Go.Proofs.YtbcbghbmjgcbmaaDoor.M
