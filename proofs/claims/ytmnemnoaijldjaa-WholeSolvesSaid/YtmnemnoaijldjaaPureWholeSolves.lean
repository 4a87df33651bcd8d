/- The law WholeSolves over numbers and lists: what the law's functions tell, and that the law holds. -/
import Derived.Test.YtmnemnoaijldjaaPWholeSolvesx3
import Derived.Test.YtmnemnoaijldjaaM
namespace Go.Proofs.Ytmnemnoaijldjaa.Pure
open Go.RowKit Go.Proofs.Ytmnemnoaijldjaa.PWholeSolves Go.Proofs.YtmnemnoaijldjaaW.PrintWords Go.Proofs.YtmnemnoaijldjaaW.PrintLast Go.Proofs.Ytmnemnoaijldjaa.M
set_option linter.unusedVariables false
set_option linter.unusedSimpArgs false
theorem ephemerisref1_Size_f {a : Int} (h0 : -9223372036854775808 ≤ a) (h1 : a ≤ 9223372036854775807) : ephemerisref1_Size.f a = some (ab a) := by
  unfold ephemerisref1_Size.f ab
  by_cases c : a < 0
  · rw [if_pos c, if_pos c, w64_id (n := a + 1) (by omega) (by omega), w64_id (n := -(a + 1)) (by omega) (by omega), u64_id (n := -(a + 1)) (by omega) (by omega), u64_id (by omega) (by omega)]
    congr 1; omega
  · rw [if_neg c, if_neg c, u64_id (by omega) (by omega)]

theorem shl_gcd (g t : Nat) (h : g * 2 ^ t < 18446744073709551616) (ht : t ≤ 64) : shl .u64 (g : Int) (t : Int) = ((g * 2 ^ t : Nat) : Int) := by
  unfold shl
  rw [show ((t : Int).toNat) = t from by omega, Nat.min_eq_left (by simp [IntKind.bits]; omega)]
  rw [show (g : Int) * 2 ^ t = ((g * 2 ^ t : Nat) : Int) from by simp]
  exact u64_id (by omega) (by omega)
theorem gcd_half {x y : Nat} (hx : x % 2 = 0) (hy : y % 2 = 1) : Nat.gcd (x / 2) y = Nat.gcd x y := by
  have hc : Nat.Coprime 2 y := by
    unfold Nat.Coprime
    rw [Nat.gcd_rec, hy]; rfl
  have := Nat.Coprime.gcd_mul_left_cancel (k := 2) (n := y) (x / 2) hc
  rw [show 2 * (x / 2) = x from by omega] at this
  exact this.symm
theorem ephemerisref1_Gcd_l1 : ∀ (n k x y t : Nat), x + y ≤ n → n < k → 0 < x → 0 < y → x < 18446744073709551616 → y < 18446744073709551616 → (x % 2 = 1 ∨ y % 2 = 1) →
    ephemerisref1_Gcd.l1 k (x : Int) (y : Int) (t : Int) = some (shl .u64 (Nat.gcd x y : Int) (t : Int)) := by
  intro n
  induction n with
  | zero => intro k x y t h; omega
  | succ n ih =>
    intro k x y t h hk hx hy hx1 hy1 ho
    obtain ⟨k, rfl⟩ : ∃ m, k = m + 1 := ⟨k - 1, by omega⟩
    simp only [ephemerisref1_Gcd.l1]
    by_cases c : x = y
    · subst c
      rw [if_pos rfl, if_pos (by omega), Nat.gcd_self]
    rw [if_neg (by omega), and_one _ (by omega) (by omega), and_one _ (by omega) (by omega)]
    by_cases c1 : x % 2 = 0
    · rw [if_pos (by omega), show (x : Int) / 2 = ((x / 2 : Nat) : Int) from by omega, ih k (x / 2) y t (by omega) (by omega) (by omega) hy (by omega) hy1 (by omega), gcd_half c1 (by omega)]
    rw [if_neg (by omega)]
    by_cases c2 : y % 2 = 0
    · rw [if_pos (by omega), show (y : Int) / 2 = ((y / 2 : Nat) : Int) from by omega, ih k x (y / 2) t (by omega) (by omega) hx (by omega) hx1 (by omega) (by omega), Nat.gcd_comm x, gcd_half c2 (by omega), Nat.gcd_comm y]
    rw [if_neg (by omega)]
    by_cases c3 : x > y
    · rw [if_pos (by omega), u64_id (by omega) (by omega), show (x : Int) - y = ((x - y : Nat) : Int) from by omega, ih k (x - y) y t (by omega) (by omega) (by omega) hy (by omega) hy1 (by omega)]
      have := Nat.gcd_add_self_left (m := y) (n := x - y)
      rw [show x - y + y = x from by omega] at this
      rw [this]
    · rw [if_neg (by omega), u64_id (by omega) (by omega), show (y : Int) - x = ((y - x : Nat) : Int) from by omega, ih k x (y - x) t (by omega) (by omega) hx (by omega) hx1 (by omega) (by omega)]
      have := Nat.gcd_add_self_left (m := x) (n := y - x)
      rw [show y - x + x = y from by omega] at this
      rw [Nat.gcd_comm x, ← this, Nat.gcd_comm y]
theorem ephemerisref1_Gcd_l0 : ∀ (n k x y t : Nat), x + y ≤ n → n + 36893488147419103240 < k → 0 < x → 0 < y → x < 18446744073709551616 → y < 18446744073709551616 → t ≤ 64 → Nat.gcd x y * 2 ^ t < 18446744073709551616 →
    ephemerisref1_Gcd.l0 k (x : Int) (y : Int) (t : Int) = some ((Nat.gcd x y * 2 ^ t : Nat) : Int) := by
  intro n
  induction n with
  | zero => intro k x y t h; omega
  | succ n ih =>
    intro k x y t h hk hx hy hx1 hy1 ht hg
    obtain ⟨k, rfl⟩ : ∃ m, k = m + 1 := ⟨k - 1, by omega⟩
    simp only [ephemerisref1_Gcd.l0]
    rw [and_one _ (by omega) (by omega), and_one _ (by omega) (by omega)]
    have last : (x % 2 = 1 ∨ y % 2 = 1) → ephemerisref1_Gcd.j2 k (x : Int) (y : Int) (t : Int) = some ((Nat.gcd x y * 2 ^ t : Nat) : Int) := fun ho => by
      obtain ⟨k, rfl⟩ : ∃ m, k = m + 1 := ⟨k - 1, by omega⟩
      simp only [ephemerisref1_Gcd.j2]
      rw [ephemerisref1_Gcd_l1 36893488147419103232 k x y t (by omega) (by omega) hx hy hx1 hy1 ho, shl_gcd _ _ hg ht]
    by_cases c1 : x % 2 = 0
    · rw [if_pos (by omega)]
      by_cases c2 : y % 2 = 0
      · have e : Nat.gcd x y = 2 * Nat.gcd (x / 2) (y / 2) := by
          rw [← Nat.gcd_mul_left, show 2 * (x / 2) = x from by omega, show 2 * (y / 2) = y from by omega]
        have e2 : Nat.gcd x y * 2 ^ t = Nat.gcd (x / 2) (y / 2) * 2 ^ (t + 1) := by
          rw [e, Nat.pow_succ, Nat.mul_comm 2, Nat.mul_assoc, Nat.mul_comm 2]
        have hp : 0 < Nat.gcd (x / 2) (y / 2) := Nat.gcd_pos_of_pos_left _ (by omega)
        have ht1 : t + 1 ≤ 64 := by
          rcases Nat.lt_or_ge (t + 1) 65 with h | h
          · omega
          · exfalso
            have h1 : 2 ^ 65 ≤ 2 ^ (t + 1) := Nat.pow_le_pow_right (by decide) h
            have h2 : 1 * 2 ^ (t + 1) ≤ Nat.gcd (x / 2) (y / 2) * 2 ^ (t + 1) := Nat.mul_le_mul_right _ hp
            have h3 : (2 : Nat) ^ 65 = 36893488147419103232 := by decide
            omega
        rw [if_pos (by omega), w64_id (by omega) (by omega), show (x : Int) / 2 = ((x / 2 : Nat) : Int) from by omega, show (y : Int) / 2 = ((y / 2 : Nat) : Int) from by omega, show (t : Int) + 1 = ((t + 1 : Nat) : Int) from by omega]
        rw [ih k (x / 2) (y / 2) (t + 1) (by omega) (by omega) (by omega) (by omega) (by omega) (by omega) ht1 (by omega), e2]
      · rw [if_neg (by omega)]; exact last (by omega)
    · rw [if_neg (by omega)]; exact last (by omega)
theorem gcdr_ab (a b : Int) : Nat.gcd (ab a).toNat (ab b).toNat = Int.gcd a b := by
  have h : ∀ c : Int, (ab c).toNat = c.natAbs := fun c => by unfold ab; split <;> omega
  rw [h, h]; rfl
theorem ephemerisref1_Gcd_f {a b : Int} (k : Nat) (hk : 100000000000000000000 ≤ k) (ha : -9223372036854775808 ≤ a) (ha1 : a ≤ 9223372036854775807) (hb : -9223372036854775808 ≤ b) (hb1 : b ≤ 9223372036854775807) :
    ephemerisref1_Gcd.f k a b = some (Int.gcd a b : Int) := by
  obtain ⟨k, rfl⟩ : ∃ m, k = m + 1 := ⟨k - 1, by omega⟩
  unfold ephemerisref1_Gcd.f
  rw [ephemerisref1_Size_f ha ha1, ephemerisref1_Size_f hb hb1]
  simp only [Option.bind_some]
  have e1 := ab_nonneg a
  have e2 := ab_nonneg b
  have e3 := ab_le ha ha1
  have e4 := ab_le hb hb1
  have hg := gcdr_ab a b
  by_cases c : ab a = 0
  · rw [if_pos c]
    simp only [ephemerisref1_Gcd.j0, if_true]
    rw [u64_id (by omega) (by omega)]
    rw [c] at hg
    simp only [Int.toNat_zero, Nat.gcd_zero_left] at hg
    congr 1; omega
  rw [if_neg c]
  simp only [ephemerisref1_Gcd.j0, beq_iff_eq]
  by_cases c2 : ab b = 0
  · rw [if_pos c2, u64_id (by omega) (by omega)]
    rw [c2] at hg
    simp only [Int.toNat_zero, Nat.gcd_zero_right] at hg
    congr 1; omega
  rw [if_neg c2]
  have hle := Nat.gcd_le_left (ab b).toNat (show 0 < (ab a).toNat by omega)
  have := ephemerisref1_Gcd_l0 36893488147419103232 k (ab a).toNat (ab b).toNat 0 (by omega) (by omega) (by omega) (by omega) (by omega) (by omega) (by omega) (by omega)
  rw [hg, Int.toNat_of_nonneg e1, Int.toNat_of_nonneg e2, Nat.pow_zero, Nat.mul_one] at this
  exact this

theorem ephemerisref1_In_f (x lo hi : Int) : ephemerisref1_In.f x lo hi = some (decide (lo ≤ x ∧ x ≤ hi)) := by
  unfold ephemerisref1_In.f
  by_cases h : x ≥ lo
  · rw [if_pos h]; congr 1; simp; omega
  · rw [if_neg h]; congr 1; simp; omega

theorem ephemerisref1_Num_f (x : Int) : ephemerisref1_Num.f x = some (decide (-2147483647 ≤ x ∧ x ≤ 2147483647)) := by
  unfold ephemerisref1_Num.f
  rw [ephemerisref1_In_f]; rfl

theorem ephemerisref1_Div_l0 (X Y : Int) (hX : 0 ≤ X) (hX1 : X < 18446744073709551616) (hY : 0 < Y) (hY1 : Y ≤ 9223372036854775808) :
    ∀ (n k : Nat), n ≤ 64 → n < k → ephemerisref1_Div.l0 k X Y (X / 2 ^ n / Y * 2 ^ n) (X / 2 ^ n % Y) ((n : Int) - 1) = some (X / Y, X % Y) := by
  intro n
  induction n with
  | zero =>
    intro k _ hk
    obtain ⟨k, rfl⟩ : ∃ m, k = m + 1 := ⟨k - 1, by omega⟩
    simp only [ephemerisref1_Div.l0]
    rw [if_neg (by omega)]
    simp
  | succ n ih =>
    intro k hn hk
    obtain ⟨k, rfl⟩ : ∃ m, k = m + 1 := ⟨k - 1, by omega⟩
    have ih := ih k (by omega) (by omega)
    have hhp := half_pow X n
    have hpow : (2 : Int) ^ (n + 1) = 2 * 2 ^ n := by rw [Int.pow_succ, Int.mul_comm]
    have hpp := pow_pos' n
    have hp63 := pow_le_63 n (by omega)
    have hd1 := div_pow_le X Y (n + 1) hX hY
    have hd0 := div_pow_le X Y n hX hY
    have hz : 0 ≤ X / 2 ^ n := Int.ediv_nonneg hX (by omega)
    obtain ⟨s1, s2⟩ := long_step (X / 2 ^ n) Y hz hY
    rw [← hhp] at s1 s2
    have r0 := Int.emod_nonneg (X / 2 ^ (n + 1)) (b := Y) (by omega)
    have r1 := Int.emod_lt_of_pos (X / 2 ^ (n + 1)) hY
    have hshr : shr .u64 X ((n : Int) + 1 - 1) = X / 2 ^ n := by
      rw [show (n : Int) + 1 - 1 = n from by omega]; exact shr_pow X n (by omega)
    have hshl : shl .u64 1 ((n : Int) + 1 - 1) = 2 ^ n := by
      rw [show (n : Int) + 1 - 1 = n from by omega]; exact shl_one n (by omega)
    have hzx : X / 2 ^ n ≤ X := Int.ediv_le_self _ hX
    have hmod : (X / 2 ^ (n + 1) / Y * 2 ^ (n + 1)) % 2 ^ (n + 1) = 0 := Int.mul_emod_left _ _
    have hor : Go.bits .or .u64 (X / 2 ^ (n + 1) / Y * 2 ^ (n + 1)) (2 ^ n) = X / 2 ^ (n + 1) / Y * 2 ^ (n + 1) + 2 ^ n :=
      or_join (n + 1) _ _ hd1.1 (by omega) hmod (by omega) (by omega) (by omega)
    have q2 : X / 2 ^ (n + 1) / Y * 2 ^ (n + 1) = 2 * (X / 2 ^ (n + 1) / Y) * 2 ^ n := by
      rw [hpow, Int.mul_comm 2 (X / (2 * 2 ^ n) / Y), Int.mul_assoc]
    generalize hR : X / 2 ^ (n + 1) % Y = R at *
    generalize hQ : X / 2 ^ (n + 1) / Y * 2 ^ (n + 1) = Q at *
    simp only [ephemerisref1_Div.l0]
    rw [show (((n + 1 : Nat) : Int) - 1) = (n : Int) + 1 - 1 from by omega]
    rw [if_pos (by omega), hshr, hshl, hor, w64_id (n := (n : Int) + 1 - 1 - 1) (by omega) (by omega), show (n : Int) + 1 - 1 - 1 = (n : Int) - 1 from by omega]
    rw [and_one _ hz (by omega), u64_id (n := R * 2) (by omega) (by omega)]
    have hbit := Int.emod_nonneg (X / 2 ^ n) (b := 2) (by omega)
    have hbit1 := Int.emod_lt_of_pos (X / 2 ^ n) (b := 2) (by omega)
    rw [or_join 1 (R * 2) _ (by omega) (by omega) (by simp only [Int.reducePow]; omega) hbit (by simp only [Int.reducePow]; omega) (by omega)]
    rw [if_neg (by omega)]
    rw [show R * 2 + X / 2 ^ n % 2 = 2 * R + X / 2 ^ n % 2 from by omega]
    by_cases c : Y ≤ 2 * R + X / 2 ^ n % 2
    · rw [if_pos c, u64_id (by omega) (by omega)]
      have e := s1 c
      rw [e.1, e.2, Int.add_mul, Int.one_mul, ← q2] at ih
      exact ih
    · rw [if_neg c]
      have e := s2 c
      rw [e.1, e.2, ← q2] at ih
      exact ih
theorem ephemerisref1_Div_f {a b : Int} (k : Nat) (hk : 65 ≤ k) (ha : -9223372036854775808 ≤ a) (ha1 : a ≤ 9223372036854775807) (hb : -9223372036854775808 ≤ b) (hb1 : b ≤ 9223372036854775807) : ephemerisref1_Div.f k a b = some (divs a b) := by
  unfold ephemerisref1_Div.f
  by_cases c : b = 0
  · rw [if_pos c]; unfold divs; rw [if_pos c]
  rw [if_neg c, ephemerisref1_Size_f ha ha1, ephemerisref1_Size_f hb hb1]
  simp only [Option.bind_some]
  have hX := ab_nonneg a
  have hX1 := ab_le ha ha1
  have hY1 := ab_le hb hb1
  have hY : 0 < ab b := by unfold ab; split <;> omega
  have h64 := ephemerisref1_Div_l0 (ab a) (ab b) hX (by omega) hY hY1 64 k (by omega) (by omega)
  have hz : ab a / 2 ^ 64 = 0 := Int.ediv_eq_zero_of_lt hX (by simp only [Int.reducePow]; omega)
  rw [hz] at h64
  simp only [Int.zero_ediv, Int.zero_mul, Int.zero_emod] at h64
  rw [show (((64 : Nat) : Int) - 1) = 63 from by omega] at h64
  rw [h64]
  simp only [Option.bind_some, Option.some.injEq]
  have h1 := Int.mul_ediv_add_emod (ab a) (ab b)
  have h2 := Int.emod_nonneg (ab a) (b := ab b) (by omega)
  have h3 := Int.emod_lt_of_pos (ab a) hY
  have h4 : ab a / ab b ≤ ab a := Int.ediv_le_self _ hX
  have h5 : 0 ≤ ab a / ab b := Int.ediv_nonneg hX (by omega)
  have h6 : 2 ≤ ab b → ab a / ab b ≤ 4611686018427387904 := fun h => by
    have : ab a / ab b ≤ ab a / 2 := by
      have := Int.ediv_le_ediv (c := 2) (by omega) (a := ab a / ab b * 2) (b := ab a) (by
        have : ab a / ab b * 2 ≤ ab a / ab b * ab b := Int.mul_le_mul_of_nonneg_left h h5
        rw [Int.mul_comm (ab b)] at h1
        omega)
      omega
    omega
  have h7 : ab b = 1 → ab a / ab b = ab a ∧ ab a % ab b = 0 := fun h => by rw [h]; omega
  have uniq : ∀ {q r : Int}, a = b * q + r → (0 < b → 0 ≤ r ∧ r < b) → (b < 0 → b < r ∧ r ≤ 0) → ¬ (a = -9223372036854775808 ∧ b = -1) → divs a b = (q, r, 0) := by
    intro q r e1 e2 e3 e4
    have := fd_uniq e1 e2 e3 c
    unfold divs
    rw [if_neg c, if_neg e4, this.1, this.2]
  generalize hq : ab a / ab b = q at *
  generalize hr : ab a % ab b = r at *
  clear h64 hz
  have eY : ∀ s : Int, (-(ab b)) * s = -(ab b * s) := fun s => by rw [Int.neg_mul]
  by_cases sa : a < 0 <;> by_cases sb : b < 0
  · have xa : a = -(ab a) := by unfold ab; rw [if_pos sa]; omega
    have xb : b = -(ab b) := by unfold ab; rw [if_pos sb]; omega
    simp only [ephemerisref1_Div.e0, ephemerisref1_Div.e1, sa, sb, decide_true, bne_self_eq_false, Bool.false_eq_true, false_and, if_false, true_and, if_true]
    by_cases c2 : q > 9223372036854775807
    · rw [if_pos c2]
      unfold divs
      have : ab b = 1 := by
        by_cases h : 2 ≤ ab b
        · have := h6 h; omega
        · omega
      rw [if_neg c, if_pos (by omega)]
    · rw [if_neg c2, w64_id (by omega) (by omega), u64_def, w64_def]
      rw [uniq (q := q) (r := -r) (by rw [xb, eY]; omega) (by omega) (by omega) (fun h => by have := h7 (by omega); omega)]
      congr 2; omega
  · have xa : a = -(ab a) := by unfold ab; rw [if_pos sa]; omega
    have xb : b = ab b := by unfold ab; rw [if_neg sb]
    simp only [ephemerisref1_Div.e0, ephemerisref1_Div.e1, sa, sb, decide_true, decide_false, Bool.bne_false, Bool.false_eq_true, true_and, if_true, Bool.true_eq_false, false_and, if_false]
    by_cases c2 : r = 0
    · rw [if_neg (fun h => h c2), u64_def, w64_def, w64_id (by omega) (by omega)]
      rw [uniq (q := -q) (r := 0) (by rw [xb, Int.mul_neg]; omega) (by omega) (by omega) (by omega)]
      rw [c2]
      congr 1; omega
    · rw [if_pos c2, u64_id (n := q + 1) (by omega) (by omega), u64_id (n := ab b - r) (by omega) (by omega), u64_def, w64_def, w64_id (by omega) (by omega)]
      have : q ≤ 9223372036854775807 := by
        by_cases h : 2 ≤ ab b
        · have := h6 h; omega
        · have := h7 (by omega); omega
      have eb : b * q = ab b * q := by rw [← xb]
      rw [uniq (q := -(q + 1)) (r := ab b - r) (by rw [Int.mul_neg, Int.mul_add, Int.mul_one, eb]; omega) (by omega) (by omega) (by omega)]
      congr 1; omega
  · have xa : a = ab a := by unfold ab; rw [if_neg sa]
    have xb : b = -(ab b) := by unfold ab; rw [if_pos sb]; omega
    simp only [ephemerisref1_Div.e0, ephemerisref1_Div.e1, sa, sb, decide_true, decide_false, Bool.bne_true, Bool.not_false, Bool.false_eq_true, true_and, if_true, Bool.true_eq_false, false_and, if_false]
    by_cases c2 : r = 0
    · rw [if_neg (fun h => h c2), u64_def, w64_def, u64_def, w64_def]
      rw [uniq (q := -q) (r := 0) (by rw [xb, eY, Int.mul_neg]; omega) (by omega) (by omega) (by omega)]
      rw [c2]
      congr 1
      omega
    · rw [if_pos c2, u64_id (n := q + 1) (by omega) (by omega), u64_id (n := ab b - r) (by omega) (by omega), u64_def, w64_def, u64_def, w64_def]
      have eb := eY q
      rw [← xb] at eb
      rw [uniq (q := -(q + 1)) (r := -(ab b - r)) (by rw [Int.mul_neg, Int.mul_add, Int.mul_one, eb]; omega) (by omega) (by omega) (by omega)]
      congr 1
      · omega
      · congr 1; omega
  · have xa : a = ab a := by unfold ab; rw [if_neg sa]
    have xb : b = ab b := by unfold ab; rw [if_neg sb]
    simp only [ephemerisref1_Div.e0, ephemerisref1_Div.e1, sa, sb, decide_false, bne_self_eq_false, Bool.false_eq_true, false_and, if_false, true_and]
    rw [if_neg (by omega), w64_id (by omega) (by omega), w64_id (by omega) (by omega)]
    rw [uniq (q := q) (r := r) (by rw [xb]; omega) (by omega) (by omega) (by omega)]

theorem ephemerisref1_Mod_f {a b : Int} (k : Nat) (hk : 65 ≤ k) (ha : -9223372036854775808 ≤ a) (ha1 : a ≤ 9223372036854775807) (hb : 0 < b) (hb1 : b ≤ 9223372036854775807) : ephemerisref1_Mod.f k a b = some (a % b) := by
  unfold ephemerisref1_Mod.f
  rw [ephemerisref1_Div_f k hk ha ha1 (by omega) hb1, divs_pos hb]
  rfl

theorem whole_Mod_f {a m : Int} (hm : 0 < m) (hm1 : m ≤ 9223372036854775807) : whole_Mod.f a m = some (a % m) := by
  unfold whole_Mod.f
  rw [if_neg (by omega)]
  obtain ⟨h1, h2⟩ := tmod_emod a m hm
  have h3 := Int.emod_nonneg a (b := m) (by omega)
  have h4 := Int.emod_lt_of_pos a hm
  by_cases c : Int.tmod a m < 0
  · rw [if_pos c, h1 c, w64_id (by omega) (by omega)]
  · rw [if_neg c, h2 c]

theorem whole_within_f (k : Nat) (hk : 3 ≤ k) (a b : Int) : whole_within.f k [a, b] = some (decide ((-2147483647 ≤ a ∧ a ≤ 2147483647) ∧ (-2147483647 ≤ b ∧ b ≤ 2147483647))) := by
  obtain ⟨k, rfl⟩ : ∃ m, k = m + 3 := ⟨k - 3, by omega⟩
  unfold whole_within.f
  simp only [whole_within.l0, List.length_cons, List.length_nil, rd, w64_id (n := 0 + 1) (by omega) (by omega), w64_id (n := 0 + 1 + 1) (by omega) (by omega)]
  simp only [show (0 : Int) < ((0 + 1 + 1 : Nat) : Int) from by omega, show (0 : Int) + 1 < ((0 + 1 + 1 : Nat) : Int) from by omega, show ¬ ((0 : Int) + 1 + 1 < ((0 + 1 + 1 : Nat) : Int)) from by omega, show (0 : Int) ≤ 0 from by omega, show (0 : Int) ≤ 0 + 1 from by omega, if_true, if_false]
  rw [show [a, b].getD (0 : Int).toNat 0 = a from rfl, show [a, b].getD ((0 : Int) + 1).toNat 0 = b from rfl]
  by_cases h1 : a < -2147483647
  · rw [if_pos h1]; simp; omega
  rw [if_neg h1]
  by_cases h2 : a > 2147483647
  · rw [if_pos h2]; simp; omega
  rw [if_neg h2]
  by_cases h3 : b < -2147483647
  · rw [if_pos h3]; simp; omega
  rw [if_neg h3]
  by_cases h4 : b > 2147483647
  · rw [if_pos h4]; simp; omega
  rw [if_neg h4]
  simp; omega

/-- What the loop keeps: both rests are multiples of A modulo M; the factors have opposite signs. -/
def Bez (A M g h s t : Int) : Prop := (∃ i, A * s = g + M * i) ∧ (∃ i, A * t = h + M * i) ∧ ((0 ≤ s ∧ t ≤ 0 ∧ s * h - t * g = M) ∨ (s ≤ 0 ∧ 0 ≤ t ∧ t * g - s * h = M)) ∧ (-M ≤ s ∧ s ≤ M) ∧ (-M ≤ t ∧ t ≤ M)
theorem bez_step {A M g h s t : Int} (hM : 0 < M) (hg : 0 ≤ g) (hh : 0 < h) (H : Bez A M g h s t) : Bez A M h (g - g / h * h) t (s - g / h * t) ∧ (-M ≤ g / h * t ∧ g / h * t ≤ M) := by
  obtain ⟨⟨i, hi⟩, ⟨j, hj⟩, hs, ⟨b1, b2⟩, ⟨b3, b4⟩⟩ := H
  have hq : 0 ≤ g / h := Int.ediv_nonneg hg (by omega)
  have hr0 : 0 ≤ g - g / h * h := by have := Int.ediv_mul_le g (b := h) (by omega); omega
  generalize g / h = q at *
  have e3 : A * (s - q * t) = (g - q * h) + M * (i - q * j) := by
    rw [Int.mul_sub, hi, Int.mul_left_comm, hj]; grind
  rcases hs with ⟨s0, t0, e⟩ | ⟨s0, t0, e⟩
  · have p1 : 0 ≤ q * -t := Int.mul_nonneg hq (by omega)
    have p1' : q * -t = -(q * t) := Int.mul_neg _ _
    have id' : (s - q * t) * h - t * (g - q * h) = M := by rw [← e]; grind
    have p2 : 0 ≤ (s - q * t) := by omega
    have p3 : 0 ≤ -t * (g - q * h) := Int.mul_nonneg (by omega) hr0
    have p3' : -t * (g - q * h) = -(t * (g - q * h)) := Int.neg_mul _ _
    have p4 : (s - q * t) * 1 ≤ (s - q * t) * h := Int.mul_le_mul_of_nonneg_left (by omega) p2
    refine ⟨⟨⟨j, hj⟩, ⟨_, e3⟩, .inr ⟨t0, p2, id'⟩, ⟨b3, b4⟩, by omega⟩, by omega⟩
  · have p1 : 0 ≤ q * t := Int.mul_nonneg hq t0
    have id' : t * (g - q * h) - (s - q * t) * h = M := by rw [← e]; grind
    have p2 : 0 ≤ -(s - q * t) := by omega
    have p3 : 0 ≤ t * (g - q * h) := Int.mul_nonneg t0 hr0
    have p4 : -(s - q * t) * 1 ≤ -(s - q * t) * h := Int.mul_le_mul_of_nonneg_left (by omega) p2
    have p5 : -(s - q * t) * h = -((s - q * t) * h) := Int.neg_mul _ _
    refine ⟨⟨⟨j, hj⟩, ⟨_, e3⟩, .inl ⟨t0, by omega, id'⟩, ⟨b3, b4⟩, by omega⟩, by omega⟩
theorem whole_extended_l0 (A M : Int) (hM : 0 < M) (hM1 : M ≤ 2147483647) : ∀ (n k : Nat) (g h : Nat) (s t : Int), h ≤ n → n < k → (g : Int) ≤ M → (h : Int) ≤ M → Bez A M g h s t →
    ∃ r, whole_extended.l0 k g h s t = some ((Nat.gcd g h : Int), r) ∧ (-M ≤ r ∧ r ≤ M) ∧ ∃ i, A * r = (Nat.gcd g h : Int) + M * i := by
  have last : ∀ (k : Nat) (g : Nat) (s t : Int), Bez A M g (0 : Nat) s t → ∃ r, whole_extended.l0 (k + 1) g (0 : Nat) s t = some ((Nat.gcd g 0 : Int), r) ∧ (-M ≤ r ∧ r ≤ M) ∧ ∃ i, A * r = (Nat.gcd g 0 : Int) + M * i := fun k g s t H => by
    simp only [whole_extended.l0]
    rw [if_pos (by omega), Nat.gcd_zero_right]
    exact ⟨s, rfl, H.2.2.2.1, H.1⟩
  intro n
  induction n with
  | zero =>
    intro k g h s t hh hk _ _ H
    obtain ⟨k, rfl⟩ : ∃ m, k = m + 1 := ⟨k - 1, by omega⟩
    obtain rfl : h = 0 := by omega
    exact last k g s t H
  | succ n ih =>
    intro k g h s t hh hk hg1 hh1 H
    obtain ⟨k, rfl⟩ : ∃ m, k = m + 1 := ⟨k - 1, by omega⟩
    by_cases c : h = 0
    · subst c; exact last k g s t H
    obtain ⟨H2, b1, b2⟩ := bez_step hM (by omega) (by omega) H
    have hm : g % h < h := Nat.mod_lt _ (by omega)
    have hq0 : 0 ≤ (g : Int) / h := Int.ediv_nonneg (by omega) (by omega)
    have hq1 : (g : Int) / h ≤ g := Int.ediv_le_self _ (by omega)
    have hqh : (g : Int) / h * h ≤ g := Int.ediv_mul_le _ (by omega)
    have hqh0 : 0 ≤ (g : Int) / h * h := Int.mul_nonneg hq0 (by omega)
    have e1 : (g : Int) - (g : Int) / h * h = ((g % h : Nat) : Int) := by
      have := Int.mul_ediv_add_emod (g : Int) h
      rw [Int.mul_comm] at this
      rw [Int.natCast_emod]; omega
    obtain ⟨_, _, _, ⟨b3, b4⟩, ⟨b5, b6⟩⟩ := H
    simp only [whole_extended.l0]
    rw [if_neg (by omega), Int.tdiv_eq_ediv_of_nonneg (by omega), w64_id (n := (g : Int) / h) (by omega) (by omega), w64_id (n := (g : Int) / h * h) (by omega) (by omega), w64_id (n := (g : Int) / h * t) (by omega) (by omega), w64_id (n := (g : Int) - (g : Int) / h * h) (by omega) (by omega), w64_id (n := s - (g : Int) / h * t) (by omega) (by omega)]
    rw [e1] at H2 ⊢
    obtain ⟨r, hr, h2⟩ := ih k h (g % h) t (s - (g : Int) / h * t) (by omega) (by omega) hh1 (by omega) H2
    have eg : Nat.gcd h (g % h) = Nat.gcd g h := by rw [Nat.gcd_comm h, ← Nat.gcd_rec, Nat.gcd_comm]
    rw [eg] at hr h2
    exact ⟨r, hr, h2⟩
theorem whole_extended_f {a m : Int} (k : Nat) (hk : 2147483650 ≤ k) (ha : 0 ≤ a) (ham : a < m) (hm : m ≤ 2147483647) :
    ∃ r, whole_extended.f k a m = some ((Int.gcd a m : Int), r) ∧ (-m ≤ r ∧ r ≤ m) ∧ ∃ i, a * r = (Int.gcd a m : Int) + m * i := by
  unfold whole_extended.f
  have := whole_extended_l0 a m (by omega) hm m.toNat k a.toNat m.toNat 1 0 (by omega) (by omega) (by omega) (by omega) (by
    rw [Int.toNat_of_nonneg ha, Int.toNat_of_nonneg (show 0 ≤ m by omega)]
    exact ⟨⟨0, by omega⟩, ⟨-1, by omega⟩, .inl ⟨by omega, by omega, by omega⟩, by omega, by omega⟩)
  rw [Int.toNat_of_nonneg ha, Int.toNat_of_nonneg (show 0 ≤ m by omega)] at this
  have eg : Nat.gcd a.toNat m.toNat = Int.gcd a m := by
    show _ = Nat.gcd a.natAbs m.natAbs
    rw [show a.natAbs = a.toNat from by omega, show m.natAbs = m.toNat from by omega]
  rw [eg] at this
  exact this

theorem whole_Solve_f (a b m : Int) (k : Nat) (hk : 2147483700 ≤ k) :
    (¬ (1 ≤ m ∧ m ≤ 2147483647) → whole_Solve.f k a b m = some (0, 1)) ∧
    ((1 ≤ m ∧ m ≤ 2147483647) → ¬ ((-2147483647 ≤ a ∧ a ≤ 2147483647) ∧ (-2147483647 ≤ b ∧ b ≤ 2147483647)) → whole_Solve.f k a b m = some (0, 3)) ∧
    ((1 ≤ m ∧ m ≤ 2147483647) → ((-2147483647 ≤ a ∧ a ≤ 2147483647) ∧ (-2147483647 ≤ b ∧ b ≤ 2147483647)) → ¬ b % (Int.gcd a m : Int) = 0 → whole_Solve.f k a b m = some (0, 6)) ∧
    ((1 ≤ m ∧ m ≤ 2147483647) → ((-2147483647 ≤ a ∧ a ≤ 2147483647) ∧ (-2147483647 ≤ b ∧ b ≤ 2147483647)) → b % (Int.gcd a m : Int) = 0 → ∃ x, whole_Solve.f k a b m = some (x, 0) ∧ 0 ≤ x ∧ x < m / (Int.gcd a m : Int) ∧ (a % m * x - b) % m = 0) := by
  obtain ⟨k, rfl⟩ : ∃ m, k = m + 1 := ⟨k - 1, by omega⟩
  unfold whole_Solve.f
  refine ⟨fun h => ?_, ?_⟩
  · by_cases c : m < 1
    · rw [if_pos c]; simp only [whole_Solve.j0, if_true]
    · rw [if_neg c, decide_eq_true (show m > 2147483647 by omega)]; simp only [whole_Solve.j0, if_true]
  have hj : (1 ≤ m ∧ m ≤ 2147483647) → (if m < 1 then (whole_Solve.j0 (k + 1) a b m true) else (whole_Solve.j0 (k + 1) a b m (decide (m > 2147483647)))) = whole_Solve.j0 (k + 1) a b m false := fun h => by
    rw [if_neg (by omega), decide_eq_false (by omega)]
  refine ⟨fun hm h => ?_, fun hm h h2 => ?_, fun hm h h2 => ?_⟩
  · rw [hj hm]
    simp only [whole_Solve.j0, Bool.false_eq_true, if_false]
    rw [whole_within_f k (by omega), decide_eq_false h]
    simp
  all_goals
    rw [hj hm]
    simp only [whole_Solve.j0, Bool.false_eq_true, if_false]
    rw [whole_within_f k (by omega), decide_eq_true h]
    have hA0 := Int.emod_nonneg a (b := m) (by omega)
    have hA1 := Int.emod_lt_of_pos a (b := m) (by omega)
    obtain ⟨r, hr, hrb, i, hi⟩ := whole_extended_f (a := a % m) (m := m) k (by omega) hA0 hA1 (by omega)
    rw [whole_Mod_f (by omega) (by omega)]
    simp only [Option.bind_some, if_true]
    rw [hr]
    simp only [Option.bind_some]
    rw [gcd_emod] at hi ⊢
    obtain ⟨hg0, hg1⟩ := gcd_pos_le a (m := m) (by omega)
    have hdm := Int.gcd_dvd_right a m
    have hdA := Int.gcd_dvd_left (a % m) m
    rw [gcd_emod] at hdA
    generalize (Int.gcd a m : Int) = g at *
    rw [if_neg (by omega)]
  · rw [if_neg (fun h => h2 ((tmod_zero_iff b hg0).1 h))]
  · rw [if_pos ((tmod_zero_iff b hg0).2 h2)]
    obtain ⟨n, hn⟩ := hdm
    obtain ⟨c, hc⟩ := Int.dvd_of_emod_eq_zero h2
    obtain ⟨hn0, hn1⟩ := mul_pos_of hg0 hn (by omega)
    have hmn : m / g = n := by rw [hn]; exact Int.mul_ediv_cancel_left n (by omega)
    have hcb : -2147483647 ≤ c ∧ c ≤ 2147483647 := by
      have h1 : c.natAbs ≤ b.natAbs := by
        rw [hc, Int.natAbs_mul]; exact Nat.le_mul_of_pos_left _ (by omega)
      omega
    have s0 := Int.emod_nonneg r (b := n) (by omega)
    have s1 := Int.emod_lt_of_pos r hn0
    have c0 := Int.emod_nonneg c (b := n) (by omega)
    have c1 := Int.emod_lt_of_pos c hn0
    have hp := mul_lt (n := 2147483647) (m := 2147483647) s0 (by omega) c0 (by omega)
    rw [tdiv_exact (by omega) hn, tdiv_exact (by omega) hc, w64_id (n := n) (by omega) (by omega), w64_id (n := c) (by omega) (by omega), whole_Mod_f (by omega) (by omega), whole_Mod_f (by omega) (by omega)]
    simp only [Option.bind_some]
    rw [w64_id (by omega) (by omega), whole_Mod_f (by omega) (by omega)]
    simp only [Option.bind_some]
    obtain ⟨j, hj⟩ := prod_emod r c n
    exact ⟨_, rfl, Int.emod_nonneg _ (by omega), by rw [hmn]; exact Int.emod_lt_of_pos _ hn0, solve_math hi hn hdA hc hj⟩

theorem solves_first (k : Nat) (hk : 100000000000000000000 ≤ k) : whole_Solve.f (k + 2) 3 2 7 = some (3, 0) := by
  obtain ⟨x, hx, h0, h1, h2⟩ := (whole_Solve_f 3 2 7 (k + 2) (by omega)).2.2.2 (by omega) (by omega) (by decide)
  have : (7 : Int) / (Int.gcd 3 7 : Int) = 7 := by decide
  rw [this] at h1
  rw [show (3 : Int) % 7 = 3 from by decide] at h2
  rw [hx]; congr 2; omega
theorem WholeSolves : ephemerislaw1_WholeSolves.Pure := by
  intro a b m ha hb hm
  obtain ⟨ha0, ha1⟩ := wf_i64 ha
  obtain ⟨hb0, hb1⟩ := wf_i64 hb
  obtain ⟨hm0, hm1⟩ := wf_i64 hm
  obtain ⟨k, hk⟩ : ∃ k : Nat, 100000000000000000000 ≤ k := ⟨_, Nat.le_refl _⟩
  refine ⟨k + 2, ?_⟩
  unfold ephemerislaw1_WholeSolves.f
  rw [solves_first k hk]
  simp only [Option.bind_some, if_true, bne_self_eq_false, ephemerislaw1_WholeSolves.j0, Bool.false_eq_true, if_false]
  obtain ⟨f1, f2, f3, f4⟩ := whole_Solve_f a b m (k + 1) (by omega)
  rw [ephemerisref1_In_f, ephemerisref1_Num_f, ephemerisref1_Num_f]
  simp only [Option.bind_some, decide_eq_true_eq]
  by_cases c1 : 1 ≤ m ∧ m ≤ 2147483647
  · simp only [if_pos c1]
    by_cases c2 : -2147483647 ≤ a ∧ a ≤ 2147483647
    · simp only [if_pos c2]
      by_cases c3 : -2147483647 ≤ b ∧ b ≤ 2147483647
      · rw [decide_eq_true c3]
        obtain ⟨hg0, hg1⟩ := gcd_pos_le a (m := m) (by omega)
        by_cases c4 : b % (Int.gcd a m : Int) = 0
        · obtain ⟨x, hx, h0, h1, h2⟩ := f4 c1 ⟨c2, c3⟩ c4
          rw [hx]
          simp only [Option.bind_some, ephemerislaw1_WholeSolves.j1, Bool.not_true, Bool.false_eq_true, if_false, if_true]
          have hA0 := Int.emod_nonneg a (b := m) (by omega)
          have hA1 := Int.emod_lt_of_pos a (b := m) (by omega)
          have hle : m / (Int.gcd a m : Int) ≤ m := Int.ediv_le_self _ (by omega)
          have hp := mul_lt (n := 2147483647) (m := 2147483647) hA0 (by omega) h0 (by omega)
          rw [ephemerisref1_Gcd_f k hk ha0 ha1 hm0 hm1, Option.bind_some]
          rw [w64_id (n := (Int.gcd a m : Int)) (by omega) (by omega), ephemerisref1_Mod_f k (by omega) hb0 hb1 (by omega) (by omega)]
          simp only [Option.bind_some]
          rw [if_pos c4, if_neg (by omega), Int.tdiv_eq_ediv_of_nonneg (by omega), w64_id (n := m / (Int.gcd a m : Int)) (by omega) (by omega), w64_id (n := m / (Int.gcd a m : Int) - 1) (by omega) (by omega), ephemerisref1_In_f]
          simp only [Option.bind_some, decide_eq_true_eq]
          rw [if_pos (by omega), ephemerisref1_Mod_f k (by omega) ha0 ha1 (by omega) (by omega)]
          simp only [Option.bind_some]
          rw [w64_id (n := a % m * x) (by omega) (by omega), w64_id (n := a % m * x - b) (by omega) (by omega), ephemerisref1_Mod_f k (by omega) (by omega) (by omega) (by omega) (by omega), h2]
          rfl
        · rw [f3 c1 ⟨c2, c3⟩ c4]
          simp only [Option.bind_some, ephemerislaw1_WholeSolves.j1, Bool.not_true, Bool.false_eq_true, if_false]
          rw [ephemerisref1_Gcd_f k hk ha0 ha1 hm0 hm1, Option.bind_some]
          rw [w64_id (n := (Int.gcd a m : Int)) (by omega) (by omega), ephemerisref1_Mod_f k (by omega) hb0 hb1 (by omega) (by omega)]
          simp only [Option.bind_some]
          rw [if_neg c4]; rfl
      · rw [f2 c1 (fun h => c3 h.2), decide_eq_false c3]
        simp [ephemerislaw1_WholeSolves.j1]
    · simp only [if_neg c2]
      rw [f2 c1 (fun h => c2 h.1)]
      simp [ephemerislaw1_WholeSolves.j1]
  · rw [f1 c1]
    simp only [Option.bind_some, if_neg c1]
    rfl
end Go.Proofs.Ytmnemnoaijldjaa.Pure
