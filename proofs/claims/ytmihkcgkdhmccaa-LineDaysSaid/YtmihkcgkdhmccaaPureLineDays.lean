/- The law LineDays over numbers and lists: what the law's functions tell, and that the law holds. -/
import Derived.Test.YtmihkcgkdhmccaaPLineDaysx4
import Derived.Test.YtmihkcgkdhmccaaM
import Derived.Test.YtmihkcgkdhmccaaG
import Derived.Test.YtmihkcgkdhmccaaO
namespace Go.Proofs.Ytmihkcgkdhmccaa.Pure
open Go.RowKit Go.Proofs.Ytmihkcgkdhmccaa.PLineDays Go.Proofs.YtmihkcgkdhmccaaW.PrintWords Go.Proofs.YtmihkcgkdhmccaaW.PrintLast Go.Proofs.Ytmihkcgkdhmccaa.M Go.Proofs.Ytmihkcgkdhmccaa.G Go.Proofs.Ytmihkcgkdhmccaa.O
set_option linter.unusedVariables false
set_option linter.unusedSimpArgs false
/-- The law over numbers and lists. -/
def ephemerislaw1_LineDays.Pure : Prop := ∀ (a0_0 : Int) (a0_1 : Int) (a0_2 : Int), (Lit.int .i64 a0_0).wf = true → (Lit.int .i64 a0_1).wf = true → (Lit.int .i64 a0_2).wf = true → ∃ k, ephemerislaw1_LineDays.f k a0_0 a0_1 a0_2 = some true

theorem line_leap_f (y : Int) : line_leap.f y = some (leapY y) := by
  unfold line_leap.f leapY
  have h4 := tmod_zero_iff y (g := 4) (by omega)
  have h100 := tmod_zero_iff y (g := 100) (by omega)
  have h400 := tmod_zero_iff y (g := 400) (by omega)
  by_cases c4 : y % 4 = 0
  · rw [if_pos (h4.2 c4)]
    by_cases c1 : y % 100 = 0
    · rw [if_pos (h100.2 c1)]
      congr 1
      by_cases c0 : y % 400 = 0
      · rw [beq_iff_eq.2 (h400.2 c0), decide_eq_true ⟨c4, .inr c0⟩]
      · rw [beq_eq_false_iff_ne.2 (fun h => c0 (h400.1 h)), decide_eq_false (fun h => h.2.elim (fun x => x c1) c0)]
    · rw [if_neg (fun h => c1 (h100.1 h)), decide_eq_true ⟨c4, .inl c1⟩]
  · rw [if_neg (fun h => c4 (h4.1 h)), decide_eq_false (fun h => c4 h.1)]

theorem line_length_f (y m : Int) : line_length.f y m = some (lenM y m) := by
  unfold line_length.f lenM
  by_cases c2 : m = 2
  · rw [if_pos c2, if_pos c2, line_leap_f, Option.bind_some]
    cases leapY y <;> rfl
  rw [if_neg c2, if_neg c2]
  by_cases c4 : m = 4
  · rw [if_pos c4, if_pos (.inl c4)]
  rw [if_neg c4]
  by_cases c6 : m = 6
  · rw [if_pos c6, if_pos (.inr (.inl c6))]
  rw [if_neg c6]
  by_cases c9 : m = 9
  · rw [if_pos c9, if_pos (.inr (.inr (.inl c9)))]
  rw [if_neg c9]
  by_cases c11 : m = 11
  · rw [if_pos c11, if_pos (.inr (.inr (.inr c11)))]
  rw [if_neg c11, if_neg (fun h => h.elim c4 (fun h => h.elim c6 (fun h => h.elim c9 c11)))]

theorem whole_Div_f {a b : Int} (k : Nat) (hk : 1 ≤ k) (ha : -9223372036854775808 ≤ a) (ha1 : a ≤ 9223372036854775807) (hb : -9223372036854775808 ≤ b) (hb1 : b ≤ 9223372036854775807) : whole_Div.f k a b = some (divs a b) := by
  obtain ⟨k, rfl⟩ : ∃ m, k = m + 1 := ⟨k - 1, by omega⟩
  unfold whole_Div.f divs
  by_cases c : b = 0
  · rw [if_pos c, if_pos c]
  rw [if_neg c, if_neg c]
  by_cases d : a = -9223372036854775808 ∧ b = -1
  · rw [if_pos d.1, if_pos d, d.2]; simp [whole_Div.j0]
  have e : (if a = (-9223372036854775808) then (whole_Div.j0 (k + 1) a b (b == (-1))) else (whole_Div.j0 (k + 1) a b false)) = whole_Div.j0 (k + 1) a b false := by
    by_cases c1 : a = -9223372036854775808
    · rw [if_pos c1, show (b == -1) = false from beq_eq_false_iff_ne.2 (fun h => d ⟨c1, h⟩)]
    · rw [if_neg c1]
  rw [e, if_neg d]
  simp only [whole_Div.j0, Bool.false_eq_true, if_false]
  rw [if_neg c]
  obtain ⟨b1, b2⟩ := tdiv_bound a b c ha ha1 d
  obtain ⟨g1, g2, g3⟩ := fd_of_t a b c
  obtain ⟨t0, t1, t2, t3, t4⟩ := tdm a b c
  rw [w64_id b1 b2]
  by_cases hz : Int.tmod a b = 0
  · rw [if_pos hz, (g1 hz).1, (g1 hz).2, hz]
  · rw [if_neg hz]
    cases hs : (decide (Int.tmod a b < 0) != decide (b < 0)) with
    | true =>
      have hq : fd a b = Int.tdiv a b - 1 := (g2 hz hs).1
      have hfs := fd_spec a b c
      have hlow : -9223372036854775808 ≤ Int.tdiv a b - 1 := by
        by_cases hm : Int.tdiv a b = -9223372036854775808
        · exfalso
          have h9 : (Int.tdiv a b).natAbs = a.natAbs / b.natAbs := Int.natAbs_tdiv a b
          rw [hm] at h9
          have h10 : a.natAbs / b.natAbs ≤ a.natAbs := Nat.div_le_self _ _
          by_cases hb2 : b.natAbs = 1
          · have : b = 1 ∨ b = -1 := by omega
            rcases this with rfl | rfl
            · exact hz (by rw [Int.tmod_one])
            · exact hz (by rw [Int.tmod_neg, Int.tmod_one])
          · have : a.natAbs / b.natAbs ≤ a.natAbs / 2 := Nat.div_le_div_left (by omega) (by omega)
            omega
        · omega
      have hss : (Int.tmod a b < 0 ∧ 0 < b) ∨ (0 < Int.tmod a b ∧ b < 0) := by
        by_cases hx : Int.tmod a b < 0 <;> by_cases hy : b < 0 <;> simp [hx, hy] at hs
        · exact .inl ⟨hx, by omega⟩
        · exact .inr ⟨by omega, hy⟩
      simp only [if_true]
      rw [(g2 hz hs).1, (g2 hz hs).2, w64_id hlow (by omega), w64_id (n := Int.tmod a b + b) (by omega) (by omega)]
    | false =>
      simp only [Bool.false_eq_true, if_false]
      rw [(g3 hz hs).1, (g3 hz hs).2]

theorem line_begin_f (y : Int) (h : -1000000000000 ≤ y ∧ y ≤ 1000000000000) (k : Nat) (hk : 1 ≤ k) : line_begin.f k y = some (beg y) := by
  unfold line_begin.f beg
  rw [w64_id (n := y - 1) (by omega) (by omega)]
  rw [whole_Div_f k hk (by omega) (by omega) (by omega) (by omega), whole_Div_f k hk (by omega) (by omega) (by omega) (by omega), whole_Div_f k hk (by omega) (by omega) (by omega) (by omega), divs_pos (by omega), divs_pos (by omega), divs_pos (by omega)]
  rw [Option.bind_some, Option.bind_some, Option.bind_some]
  simp only
  have b1 : 365 * (y - 1) + (y - 1) / 4 = 365 * (y - 1) + (y - 1) / 4 := rfl
  rw [w64_id (n := 365 * (y - 1)) (by omega) (by omega), w64_id (n := 365 * (y - 1) + (y - 1) / 4) (by omega) (by omega), w64_id (n := 365 * (y - 1) + (y - 1) / 4 - (y - 1) / 100) (by omega) (by omega), w64_id (n := 365 * (y - 1) + (y - 1) / 4 - (y - 1) / 100 + (y - 1) / 400) (by omega) (by omega)]

theorem line_Day_l0 (Y M D : Int) (hY : -100000 ≤ Y ∧ Y ≤ 100000) (hM : 1 ≤ M ∧ M ≤ 12) (hD : -100000 ≤ D ∧ D ≤ 100000) : ∀ (d k : Nat) (m : Int), m + d = M → 1 ≤ m → d < k →
    line_Day.l0 k (beg Y + D + cumM Y m) m Y M D = some (dayOf Y M D, 0) := by
  intro d
  induction d with
  | zero =>
    intro k m hm h1 hk
    obtain ⟨k, rfl⟩ : ∃ m, k = m + 1 := ⟨k - 1, by omega⟩
    obtain rfl : m = M := by omega
    conv => lhs; unfold line_Day.l0
    rw [if_neg (by omega)]
    unfold dayOf
    rw [show beg Y + D + cumM Y m = beg Y + cumM Y m + D from by omega]
  | succ d ih =>
    intro k m hm h1 hk
    obtain ⟨k, rfl⟩ : ∃ m, k = m + 1 := ⟨k - 1, by omega⟩
    have hs := cum_succ Y m h1 (by omega)
    have hl := len_pos Y m
    have hc := cum_le Y m h1 (by omega)
    have h366 : (if leapY Y = true then (366 : Int) else 365) ≤ 366 := by split <;> omega
    have hb : -40000000 ≤ beg Y ∧ beg Y ≤ 40000000 := by unfold beg; omega
    conv => lhs; unfold line_Day.l0
    rw [if_pos (by omega), line_length_f, Option.bind_some, w64_id (n := beg Y + D + cumM Y m + lenM Y m) (by omega) (by omega), w64_id (n := m + 1) (by omega) (by omega), show beg Y + D + cumM Y m + lenM Y m = beg Y + D + cumM Y (m + 1) from by omega]
    exact ih k (m + 1) (by omega) (by omega) (by omega)
theorem line_Day_f (Y M D : Int) (k : Nat) (hk : 50 ≤ k) : line_Day.f k Y M D = some (if -10000 ≤ Y ∧ Y ≤ 10000 then (if (1 ≤ M ∧ M ≤ 12) ∧ (1 ≤ D ∧ D ≤ lenM Y M) then (dayOf Y M D, 0) else (0, 1)) else (0, 3)) := by
  obtain ⟨k, rfl⟩ : ∃ m, k = m + 2 := ⟨k - 2, by omega⟩
  have hj : line_Day.f (k + 2) Y M D = line_Day.j0 (k + 2) (decide (¬ (-10000 ≤ Y ∧ Y ≤ 10000))) Y M D := by
    unfold line_Day.f
    by_cases c1 : Y < -10000
    · rw [if_pos c1, decide_eq_true (show ¬ (-10000 ≤ Y ∧ Y ≤ 10000) by omega)]
    rw [if_neg c1]
    by_cases c2 : Y > 10000
    · rw [decide_eq_true c2, decide_eq_true (show ¬ (-10000 ≤ Y ∧ Y ≤ 10000) by omega)]
    · rw [decide_eq_false c2, decide_eq_false (show ¬ ¬ (-10000 ≤ Y ∧ Y ≤ 10000) by omega)]
  rw [hj]
  simp only [line_Day.j0, decide_eq_true_eq]
  by_cases h1 : -10000 ≤ Y ∧ Y ≤ 10000
  · rw [if_neg (fun h => h h1), if_pos h1]
    have ht : line_Day.j1 (k + 1) true Y M D = some (0, 1) := by simp only [line_Day.j1, if_true]
    by_cases c1 : M < 1
    · rw [if_pos c1, ht, if_neg (by omega)]
    rw [if_neg c1]
    by_cases c2 : M > 12
    · rw [if_pos c2, ht, if_neg (by omega)]
    rw [if_neg c2]
    by_cases c3 : D < 1
    · rw [if_pos c3, ht, if_neg (by omega)]
    rw [if_neg c3, line_length_f, Option.bind_some]
    by_cases c4 : D > lenM Y M
    · rw [decide_eq_true c4, ht, if_neg (by omega)]
    have hl := len_pos Y M
    have hb : -40000000 ≤ beg Y ∧ beg Y ≤ 40000000 := by unfold beg; omega
    rw [decide_eq_false c4, if_pos (by omega)]
    simp only [line_Day.j1, Bool.false_eq_true, if_false]
    rw [line_begin_f _ (by omega) k (by omega), Option.bind_some, w64_id (by omega) (by omega)]
    have := line_Day_l0 Y M D (by omega) (by omega) (by omega) (M - 1).toNat k 1 (by omega) (by omega) (by omega)
    rw [show cumM Y 1 = 0 from by unfold cumM; rw [if_pos (by omega)], Int.add_zero] at this
    exact this
  · rw [if_pos h1, if_neg h1]

theorem ephemerisref1_In_f (x lo hi : Int) : ephemerisref1_In.f x lo hi = some (decide (lo ≤ x ∧ x ≤ hi)) := by
  unfold ephemerisref1_In.f
  by_cases h : x ≥ lo
  · rw [if_pos h]; congr 1; simp; omega
  · rw [if_neg h]; congr 1; simp; omega

theorem ephemerisref1_Size_f {a : Int} (h0 : -9223372036854775808 ≤ a) (h1 : a ≤ 9223372036854775807) : ephemerisref1_Size.f a = some (ab a) := by
  unfold ephemerisref1_Size.f ab
  by_cases c : a < 0
  · rw [if_pos c, if_pos c, w64_id (n := a + 1) (by omega) (by omega), w64_id (n := -(a + 1)) (by omega) (by omega), u64_id (n := -(a + 1)) (by omega) (by omega), u64_id (by omega) (by omega)]
    congr 1; omega
  · rw [if_neg c, if_neg c, u64_id (by omega) (by omega)]

theorem ephemerisref1_Div_l0 (X Y : Int) (hX : 0 ≤ X) (hX1 : X < 18446744073709551616) (hY : 0 < Y) (hY1 : Y ≤ 9223372036854775808) :
    ∀ (n k : Nat), n ≤ 64 → n < k → ephemerisref1_Div.l0 k X Y (X / 2 ^ n / Y * 2 ^ n) (X / 2 ^ n % Y) ((n : Int) - 1) = some (X / Y, X % Y) := by
  intro n
  induction n with
  | zero =>
    intro k _ hk
    obtain ⟨k, rfl⟩ : ∃ m, k = m + 1 := ⟨k - 1, by omega⟩
    simp only [ephemerisref1_Div.l0]
    rw [if_neg (by omega)]
    simp
  | succ n ih =>
    intro k hn hk
    obtain ⟨k, rfl⟩ : ∃ m, k = m + 1 := ⟨k - 1, by omega⟩
    have ih := ih k (by omega) (by omega)
    have hhp := half_pow X n
    have hpow : (2 : Int) ^ (n + 1) = 2 * 2 ^ n := by rw [Int.pow_succ, Int.mul_comm]
    have hpp := pow_pos' n
    have hp63 := pow_le_63 n (by omega)
    have hd1 := div_pow_le X Y (n + 1) hX hY
    have hd0 := div_pow_le X Y n hX hY
    have hz : 0 ≤ X / 2 ^ n := Int.ediv_nonneg hX (by omega)
    obtain ⟨s1, s2⟩ := long_step (X / 2 ^ n) Y hz hY
    rw [← hhp] at s1 s2
    have r0 := Int.emod_nonneg (X / 2 ^ (n + 1)) (b := Y) (by omega)
    have r1 := Int.emod_lt_of_pos (X / 2 ^ (n + 1)) hY
    have hshr : shr .u64 X ((n : Int) + 1 - 1) = X / 2 ^ n := by
      rw [show (n : Int) + 1 - 1 = n from by omega]; exact shr_pow X n (by omega)
    have hshl : shl .u64 1 ((n : Int) + 1 - 1) = 2 ^ n := by
      rw [show (n : Int) + 1 - 1 = n from by omega]; exact shl_one n (by omega)
    have hzx : X / 2 ^ n ≤ X := Int.ediv_le_self _ hX
    have hmod : (X / 2 ^ (n + 1) / Y * 2 ^ (n + 1)) % 2 ^ (n + 1) = 0 := Int.mul_emod_left _ _
    have hor : Go.bits .or .u64 (X / 2 ^ (n + 1) / Y * 2 ^ (n + 1)) (2 ^ n) = X / 2 ^ (n + 1) / Y * 2 ^ (n + 1) + 2 ^ n :=
      or_join (n + 1) _ _ hd1.1 (by omega) hmod (by omega) (by omega) (by omega)
    have q2 : X / 2 ^ (n + 1) / Y * 2 ^ (n + 1) = 2 * (X / 2 ^ (n + 1) / Y) * 2 ^ n := by
      rw [hpow, Int.mul_comm 2 (X / (2 * 2 ^ n) / Y), Int.mul_assoc]
    generalize hR : X / 2 ^ (n + 1) % Y = R at *
    generalize hQ : X / 2 ^ (n + 1) / Y * 2 ^ (n + 1) = Q at *
    simp only [ephemerisref1_Div.l0]
    rw [show (((n + 1 : Nat) : Int) - 1) = (n : Int) + 1 - 1 from by omega]
    rw [if_pos (by omega), hshr, hshl, hor, w64_id (n := (n : Int) + 1 - 1 - 1) (by omega) (by omega), show (n : Int) + 1 - 1 - 1 = (n : Int) - 1 from by omega]
    rw [and_one _ hz (by omega), u64_id (n := R * 2) (by omega) (by omega)]
    have hbit := Int.emod_nonneg (X / 2 ^ n) (b := 2) (by omega)
    have hbit1 := Int.emod_lt_of_pos (X / 2 ^ n) (b := 2) (by omega)
    rw [or_join 1 (R * 2) _ (by omega) (by omega) (by simp only [Int.reducePow]; omega) hbit (by simp only [Int.reducePow]; omega) (by omega)]
    rw [if_neg (by omega)]
    rw [show R * 2 + X / 2 ^ n % 2 = 2 * R + X / 2 ^ n % 2 from by omega]
    by_cases c : Y ≤ 2 * R + X / 2 ^ n % 2
    · rw [if_pos c, u64_id (by omega) (by omega)]
      have e := s1 c
      rw [e.1, e.2, Int.add_mul, Int.one_mul, ← q2] at ih
      exact ih
    · rw [if_neg c]
      have e := s2 c
      rw [e.1, e.2, ← q2] at ih
      exact ih
theorem ephemerisref1_Div_f {a b : Int} (k : Nat) (hk : 65 ≤ k) (ha : -9223372036854775808 ≤ a) (ha1 : a ≤ 9223372036854775807) (hb : -9223372036854775808 ≤ b) (hb1 : b ≤ 9223372036854775807) : ephemerisref1_Div.f k a b = some (divs a b) := by
  unfold ephemerisref1_Div.f
  by_cases c : b = 0
  · rw [if_pos c]; unfold divs; rw [if_pos c]
  rw [if_neg c, ephemerisref1_Size_f ha ha1, ephemerisref1_Size_f hb hb1]
  simp only [Option.bind_some]
  have hX := ab_nonneg a
  have hX1 := ab_le ha ha1
  have hY1 := ab_le hb hb1
  have hY : 0 < ab b := by unfold ab; split <;> omega
  have h64 := ephemerisref1_Div_l0 (ab a) (ab b) hX (by omega) hY hY1 64 k (by omega) (by omega)
  have hz : ab a / 2 ^ 64 = 0 := Int.ediv_eq_zero_of_lt hX (by simp only [Int.reducePow]; omega)
  rw [hz] at h64
  simp only [Int.zero_ediv, Int.zero_mul, Int.zero_emod] at h64
  rw [show (((64 : Nat) : Int) - 1) = 63 from by omega] at h64
  rw [h64]
  simp only [Option.bind_some, Option.some.injEq]
  have h1 := Int.mul_ediv_add_emod (ab a) (ab b)
  have h2 := Int.emod_nonneg (ab a) (b := ab b) (by omega)
  have h3 := Int.emod_lt_of_pos (ab a) hY
  have h4 : ab a / ab b ≤ ab a := Int.ediv_le_self _ hX
  have h5 : 0 ≤ ab a / ab b := Int.ediv_nonneg hX (by omega)
  have h6 : 2 ≤ ab b → ab a / ab b ≤ 4611686018427387904 := fun h => by
    have : ab a / ab b ≤ ab a / 2 := by
      have := Int.ediv_le_ediv (c := 2) (by omega) (a := ab a / ab b * 2) (b := ab a) (by
        have : ab a / ab b * 2 ≤ ab a / ab b * ab b := Int.mul_le_mul_of_nonneg_left h h5
        rw [Int.mul_comm (ab b)] at h1
        omega)
      omega
    omega
  have h7 : ab b = 1 → ab a / ab b = ab a ∧ ab a % ab b = 0 := fun h => by rw [h]; omega
  have uniq : ∀ {q r : Int}, a = b * q + r → (0 < b → 0 ≤ r ∧ r < b) → (b < 0 → b < r ∧ r ≤ 0) → ¬ (a = -9223372036854775808 ∧ b = -1) → divs a b = (q, r, 0) := by
    intro q r e1 e2 e3 e4
    have := fd_uniq e1 e2 e3 c
    unfold divs
    rw [if_neg c, if_neg e4, this.1, this.2]
  generalize hq : ab a / ab b = q at *
  generalize hr : ab a % ab b = r at *
  clear h64 hz
  have eY : ∀ s : Int, (-(ab b)) * s = -(ab b * s) := fun s => by rw [Int.neg_mul]
  by_cases sa : a < 0 <;> by_cases sb : b < 0
  · have xa : a = -(ab a) := by unfold ab; rw [if_pos sa]; omega
    have xb : b = -(ab b) := by unfold ab; rw [if_pos sb]; omega
    simp only [ephemerisref1_Div.e0, ephemerisref1_Div.e1, sa, sb, decide_true, bne_self_eq_false, Bool.false_eq_true, false_and, if_false, true_and, if_true]
    by_cases c2 : q > 9223372036854775807
    · rw [if_pos c2]
      unfold divs
      have : ab b = 1 := by
        by_cases h : 2 ≤ ab b
        · have := h6 h; omega
        · omega
      rw [if_neg c, if_pos (by omega)]
    · rw [if_neg c2, w64_id (by omega) (by omega), u64_def, w64_def]
      rw [uniq (q := q) (r := -r) (by rw [xb, eY]; omega) (by omega) (by omega) (fun h => by have := h7 (by omega); omega)]
      congr 2; omega
  · have xa : a = -(ab a) := by unfold ab; rw [if_pos sa]; omega
    have xb : b = ab b := by unfold ab; rw [if_neg sb]
    simp only [ephemerisref1_Div.e0, ephemerisref1_Div.e1, sa, sb, decide_true, decide_false, Bool.bne_false, Bool.false_eq_true, true_and, if_true, Bool.true_eq_false, false_and, if_false]
    by_cases c2 : r = 0
    · rw [if_neg (fun h => h c2), u64_def, w64_def, w64_id (by omega) (by omega)]
      rw [uniq (q := -q) (r := 0) (by rw [xb, Int.mul_neg]; omega) (by omega) (by omega) (by omega)]
      rw [c2]
      congr 1; omega
    · rw [if_pos c2, u64_id (n := q + 1) (by omega) (by omega), u64_id (n := ab b - r) (by omega) (by omega), u64_def, w64_def, w64_id (by omega) (by omega)]
      have : q ≤ 9223372036854775807 := by
        by_cases h : 2 ≤ ab b
        · have := h6 h; omega
        · have := h7 (by omega); omega
      have eb : b * q = ab b * q := by rw [← xb]
      rw [uniq (q := -(q + 1)) (r := ab b - r) (by rw [Int.mul_neg, Int.mul_add, Int.mul_one, eb]; omega) (by omega) (by omega) (by omega)]
      congr 1; omega
  · have xa : a = ab a := by unfold ab; rw [if_neg sa]
    have xb : b = -(ab b) := by unfold ab; rw [if_pos sb]; omega
    simp only [ephemerisref1_Div.e0, ephemerisref1_Div.e1, sa, sb, decide_true, decide_false, Bool.bne_true, Bool.not_false, Bool.false_eq_true, true_and, if_true, Bool.true_eq_false, false_and, if_false]
    by_cases c2 : r = 0
    · rw [if_neg (fun h => h c2), u64_def, w64_def, u64_def, w64_def]
      rw [uniq (q := -q) (r := 0) (by rw [xb, eY, Int.mul_neg]; omega) (by omega) (by omega) (by omega)]
      rw [c2]
      congr 1
      omega
    · rw [if_pos c2, u64_id (n := q + 1) (by omega) (by omega), u64_id (n := ab b - r) (by omega) (by omega), u64_def, w64_def, u64_def, w64_def]
      have eb := eY q
      rw [← xb] at eb
      rw [uniq (q := -(q + 1)) (r := -(ab b - r)) (by rw [Int.mul_neg, Int.mul_add, Int.mul_one, eb]; omega) (by omega) (by omega) (by omega)]
      congr 1
      · omega
      · congr 1; omega
  · have xa : a = ab a := by unfold ab; rw [if_neg sa]
    have xb : b = ab b := by unfold ab; rw [if_neg sb]
    simp only [ephemerisref1_Div.e0, ephemerisref1_Div.e1, sa, sb, decide_false, bne_self_eq_false, Bool.false_eq_true, false_and, if_false, true_and]
    rw [if_neg (by omega), w64_id (by omega) (by omega), w64_id (by omega) (by omega)]
    rw [uniq (q := q) (r := r) (by rw [xb]; omega) (by omega) (by omega) (by omega)]

theorem ephemerisref1_Floor_f {a b : Int} (k : Nat) (hk : 65 ≤ k) (ha : -9223372036854775808 ≤ a) (ha1 : a ≤ 9223372036854775807) (hb : 0 < b) (hb1 : b ≤ 9223372036854775807) : ephemerisref1_Floor.f k a b = some (a / b) := by
  unfold ephemerisref1_Floor.f
  rw [ephemerisref1_Div_f k hk ha ha1 (by omega) hb1, divs_pos hb]
  rfl

theorem ephemerisref1_Greg_f (day : Int) (h : -1000000000000 ≤ day ∧ day ≤ 1000000000000) (k : Nat) (hk : 65 ≤ k) : ephemerisref1_Greg.f k day = some (greg day) := by
  obtain ⟨e, he⟩ : ∃ e, e = (day + 305) / 146097 := ⟨_, rfl⟩
  obtain ⟨n, hn⟩ : ∃ n, n = (day + 305) % 146097 := ⟨_, rfl⟩
  have hen : day + 305 - e * 146097 = n := by omega
  have hb : (0 ≤ n ∧ n ≤ 146096) ∧ (-10000000 ≤ e ∧ e ≤ 10000000) := by omega
  obtain ⟨⟨n0, n1⟩, e0, e1⟩ := hb
  obtain ⟨d, q, y3, s, b1, b2, b3, h1, h2, h3, h4, hy⟩ := era_split n n0 n1
  have hr := march_rest n d q y3 s b1 b2 b3 h1
  unfold ephemerisref1_Greg.f greg
  rw [w64_id (n := day + 305) (by omega) (by omega), ephemerisref1_Floor_f k hk (by omega) (by omega) (by omega) (by omega), Option.bind_some]
  simp only [← he, ← hn]
  have g2 : wrap64 (e * 146097) = e * 146097 := w64_id (by omega) (by omega)
  have g3 : wrap64 (day + 305 - e * 146097) = n := by rw [hen]; exact w64_id (by omega) (by omega)
  clear he hn
  rw [g2, g3]
  have t1 : Int.tdiv n 1460 = n / 1460 := Int.tdiv_eq_ediv_of_nonneg n0
  have t2 : Int.tdiv n 36524 = n / 36524 := Int.tdiv_eq_ediv_of_nonneg n0
  have t3 : Int.tdiv n 146096 = n / 146096 := Int.tdiv_eq_ediv_of_nonneg n0
  have q1 : 0 ≤ n / 1460 ∧ n / 1460 ≤ 101 := by clear hy hr; omega
  have q2 : 0 ≤ n / 36524 ∧ n / 36524 ≤ 4 := by clear hy hr; omega
  have q3 : 0 ≤ n / 146096 ∧ n / 146096 ≤ 1 := by clear hy hr; omega
  have q4 : 0 ≤ n - n / 1460 + n / 36524 - n / 146096 := by clear hy hr; omega
  rw [t1, t2, t3]
  generalize n / 1460 = c1 at *
  generalize n / 36524 = c2 at *
  generalize n / 146096 = c3 at *
  clear t1 t2 t3
  have w1 : wrap64 c1 = c1 := w64_id (by omega) (by omega)
  have w2 : wrap64 c2 = c2 := w64_id (by omega) (by omega)
  have w3 : wrap64 c3 = c3 := w64_id (by omega) (by omega)
  have w4 : wrap64 (n - c1) = n - c1 := w64_id (by omega) (by omega)
  have w5 : wrap64 (n - c1 + c2) = n - c1 + c2 := w64_id (by omega) (by omega)
  have w6 : wrap64 (n - c1 + c2 - c3) = n - c1 + c2 - c3 := w64_id (by omega) (by omega)
  have t4 : Int.tdiv (n - c1 + c2 - c3) 365 = 100 * d + 4 * q + y3 := by rw [Int.tdiv_eq_ediv_of_nonneg q4, hy]
  rw [w1, w2, w3, w4, w5, w6, t4]
  simp only [hy]
  clear w1 w2 w3 w4 w5 w6 t4 hy q1 q2 q3 q4
  generalize hY : 100 * d + 4 * q + y3 = Y at *
  have hY0 : 0 ≤ Y ∧ Y ≤ 399 := by omega
  have t5 : Int.tdiv Y 4 = Y / 4 := Int.tdiv_eq_ediv_of_nonneg hY0.1
  have t6 : Int.tdiv Y 100 = Y / 100 := Int.tdiv_eq_ediv_of_nonneg hY0.1
  have v1 : wrap64 Y = Y := w64_id (by omega) (by omega)
  have v2 : wrap64 (365 * Y) = 365 * Y := w64_id (by omega) (by omega)
  have v3 : wrap64 (Y / 4) = Y / 4 := w64_id (by omega) (by omega)
  have v4 : wrap64 (Y / 100) = Y / 100 := w64_id (by omega) (by omega)
  have v5 : wrap64 (365 * Y + Y / 4) = 365 * Y + Y / 4 := w64_id (by omega) (by omega)
  have v6 : wrap64 (365 * Y + Y / 4 - Y / 100) = 365 * Y + Y / 4 - Y / 100 := w64_id (by omega) (by omega)
  have v7 : wrap64 (n - (365 * Y + Y / 4 - Y / 100)) = s := by rw [hr]; exact w64_id (by omega) (by omega)
  rw [v1, v2, t5, t6, v3, v4, v5, v6, v7, hr]
  clear v1 v2 v3 v4 v5 v6 v7 hr t5 t6
  obtain ⟨m, hm⟩ : ∃ m, m = (5 * s + 2) / 153 := ⟨_, rfl⟩
  obtain ⟨hm0, hms⟩ := march_month s m h2 h3 hm
  have x1 : wrap64 (5 * s) = 5 * s := w64_id (by omega) (by omega)
  have x2 : wrap64 (5 * s + 2) = 5 * s + 2 := w64_id (by omega) (by omega)
  have x3 : Int.tdiv (5 * s + 2) 153 = m := by rw [hm]; exact Int.tdiv_eq_ediv_of_nonneg (by omega)
  have x4 : wrap64 m = m := w64_id (by omega) (by omega)
  have x5 : wrap64 (m + 3) = m + 3 := w64_id (by omega) (by omega)
  have x6 : wrap64 (153 * m) = 153 * m := w64_id (by omega) (by omega)
  have x7 : wrap64 (153 * m + 2) = 153 * m + 2 := w64_id (by omega) (by omega)
  have x8 : Int.tdiv (153 * m + 2) 5 = (153 * m + 2) / 5 := Int.tdiv_eq_ediv_of_nonneg (by omega)
  have x9 : wrap64 ((153 * m + 2) / 5) = (153 * m + 2) / 5 := w64_id (by omega) (by omega)
  have x10 : wrap64 (s - (153 * m + 2) / 5) = s - (153 * m + 2) / 5 := w64_id (by omega) (by omega)
  have x11 : wrap64 (s - (153 * m + 2) / 5 + 1) = s - (153 * m + 2) / 5 + 1 := w64_id (by omega) (by omega)
  have x12 : wrap64 (400 * e) = 400 * e := w64_id (by omega) (by omega)
  have x13 : wrap64 (Y + 400 * e) = Y + 400 * e := w64_id (by omega) (by omega)
  have x14 : wrap64 (Y + 400 * e + 1) = Y + 400 * e + 1 := w64_id (by omega) (by omega)
  have x15 : wrap64 (m + 3 - 12) = m + 3 - 12 := w64_id (by omega) (by omega)
  rw [← hm]
  clear hm
  simp only [x1, x2, x3, x4, x5, x6, x7, x8, x9, x10, x11, x12, x13, x14, x15]
  by_cases c : m + 3 > 12
  · rw [if_pos c, if_pos c]
  · rw [if_neg c, if_neg c]

theorem gregDay_step (G j Y M D : Int) (k : Nat) (hG : -100000000000 ≤ G ∧ G ≤ 100000000000) (hj : 0 ≤ j ∧ j < 12) (hk : 65 ≤ k) :
    ephemerisref1_GregDay.l0 (k + 1) G j Y M D = if greg (G + j) = (Y, M, D) then some (G + j) else ephemerisref1_GregDay.l0 k G (j + 1) Y M D := by
  conv => lhs; unfold ephemerisref1_GregDay.l0
  rw [if_pos hj.2, w64_id (n := G + j) (by omega) (by omega), ephemerisref1_Greg_f _ (by omega) k hk, Option.bind_some, w64_id (n := j + 1) (by omega) (by omega)]
  by_cases c : greg (G + j) = (Y, M, D)
  · rw [if_pos c, c, if_pos (by simp)]
  · rw [if_neg c, if_neg]
    intro h
    simp only [Bool.and_eq_true, beq_iff_eq] at h
    exact c (Prod.ext h.1 (Prod.ext h.2.1 h.2.2))
theorem gregDay_hit (G Y M D : Int) (hG : -100000000000 ≤ G ∧ G ≤ 100000000000) (ho : okDate Y M D) : ∀ (d k : Nat) (j : Int), G + j + d = dayOf Y M D → 0 ≤ j → j + d < 12 → 65 + d < k →
    ephemerisref1_GregDay.l0 k G j Y M D = some (dayOf Y M D) := by
  intro d
  induction d with
  | zero =>
    intro k j h h0 h1 hk
    obtain ⟨k, rfl⟩ : ∃ m, k = m + 1 := ⟨k - 1, by omega⟩
    have : G + j = dayOf Y M D := by omega
    rw [gregDay_step G j Y M D k hG (by omega) (by omega), this, dayOf_greg ho, if_pos rfl]
  | succ d ih =>
    intro k j h h0 h1 hk
    obtain ⟨k, rfl⟩ : ∃ m, k = m + 1 := ⟨k - 1, by omega⟩
    rw [gregDay_step G j Y M D k hG (by omega) (by omega), if_neg, ih k (j + 1) (by omega) (by omega) (by omega) (by omega)]
    intro c
    have := (greg_ok (G + j)).2
    rw [c] at this
    simp only at this
    omega
theorem gregDay_miss (G Y M D : Int) (hG : -100000000000 ≤ G ∧ G ≤ 100000000000) (ho : ¬ okDate Y M D) : ∀ (d k : Nat) (j : Int), j + d = 12 → 0 ≤ j → 65 + d < k →
    ephemerisref1_GregDay.l0 k G j Y M D = some (-1099511627776) := by
  intro d
  induction d with
  | zero =>
    intro k j h h0 hk
    obtain ⟨k, rfl⟩ : ∃ m, k = m + 1 := ⟨k - 1, by omega⟩
    conv => lhs; unfold ephemerisref1_GregDay.l0
    rw [if_neg (by omega)]
  | succ d ih =>
    intro k j h h0 hk
    obtain ⟨k, rfl⟩ : ∃ m, k = m + 1 := ⟨k - 1, by omega⟩
    rw [gregDay_step G j Y M D k hG (by omega) (by omega), if_neg, ih k (j + 1) (by omega) (by omega) (by omega)]
    intro c
    have := (greg_ok (G + j)).1
    rw [c] at this
    exact ho this
theorem ephemerisref1_GregDay_f (Y M D : Int) (hY : -10000 ≤ Y ∧ Y ≤ 10000) (hM : 1 ≤ M ∧ M ≤ 12) (hD : 1 ≤ D ∧ D ≤ 31) (k : Nat) (hk : 100 ≤ k) : ephemerisref1_GregDay.f k Y M D = some (if D ≤ lenM Y M then dayOf Y M D else -1099511627776) := by
  unfold ephemerisref1_GregDay.f
  have hb : -40000000 ≤ beg Y ∧ beg Y ≤ 40000000 := by unfold beg; omega
  have e : beg Y = 365 * (Y - 1) + (Y - 1) / 4 - (Y - 1) / 100 + (Y - 1) / 400 := rfl
  rw [w64_id (n := Y - 1) (by omega) (by omega), ephemerisref1_Floor_f k (by omega) (by omega) (by omega) (by omega) (by omega), ephemerisref1_Floor_f k (by omega) (by omega) (by omega) (by omega) (by omega), ephemerisref1_Floor_f k (by omega) (by omega) (by omega) (by omega) (by omega), Option.bind_some, Option.bind_some, Option.bind_some]
  rw [w64_id (n := 365 * (Y - 1)) (by omega) (by omega), w64_id (n := 365 * (Y - 1) + (Y - 1) / 4) (by omega) (by omega), w64_id (n := 365 * (Y - 1) + (Y - 1) / 4 - (Y - 1) / 100) (by omega) (by omega), w64_id (n := 365 * (Y - 1) + (Y - 1) / 4 - (Y - 1) / 100 + (Y - 1) / 400) (by omega) (by omega), ← e]
  rw [w64_id (n := M - 1) (by omega) (by omega), w64_id (n := 30 * (M - 1)) (by omega) (by omega), w64_id (n := beg Y + 30 * (M - 1)) (by omega) (by omega), w64_id (n := beg Y + 30 * (M - 1) + D) (by omega) (by omega), w64_id (n := beg Y + 30 * (M - 1) + D - 3) (by omega) (by omega)]
  clear e
  have hc : -1 ≤ cumM Y M - 30 * (M - 1) ∧ cumM Y M - 30 * (M - 1) ≤ 6 := by
    have : M = 1 ∨ M = 2 ∨ M = 3 ∨ M = 4 ∨ M = 5 ∨ M = 6 ∨ M = 7 ∨ M = 8 ∨ M = 9 ∨ M = 10 ∨ M = 11 ∨ M = 12 := by omega
    unfold cumM
    cases leapY Y <;> simp only [if_true, Bool.false_eq_true, if_false] <;> rcases this with rfl | rfl | rfl | rfl | rfl | rfl | rfl | rfl | rfl | rfl | rfl | rfl <;> decide
  by_cases c : D ≤ lenM Y M
  · rw [if_pos c]
    have ed : dayOf Y M D = beg Y + cumM Y M + D := rfl
    exact gregDay_hit (beg Y + 30 * (M - 1) + D - 3) Y M D (by omega) ⟨hM, hD.1, c⟩ (cumM Y M - 30 * (M - 1) + 3).toNat k 0 (by omega) (by omega) (by omega) (by omega)
  · rw [if_neg c]
    exact gregDay_miss (beg Y + 30 * (M - 1) + D - 3) Y M D (by omega) (fun h => c h.2.2) 12 k 0 (by omega) (by omega) (by omega)

theorem ephemerisref1_GregExists_f (Y M D : Int) (hY : -10000 ≤ Y ∧ Y ≤ 10000) (hD : 1 ≤ D ∧ D ≤ 31) (k : Nat) (hk : 100 ≤ k) : ephemerisref1_GregExists.f k Y M D = some (decide ((1 ≤ M ∧ M ≤ 12) ∧ D ≤ lenM Y M)) := by
  unfold ephemerisref1_GregExists.f
  by_cases c1 : M ≥ 1
  · rw [if_pos c1]
    by_cases c2 : M ≤ 12
    · rw [if_pos c2, ephemerisref1_GregDay_f Y M D hY ⟨c1, c2⟩ hD k hk, Option.bind_some]
      congr 1
      by_cases c : D ≤ lenM Y M
      · have hb : -40000000 ≤ beg Y ∧ beg Y ≤ 40000000 := by unfold beg; omega
        have hc := cum_le Y M c1 c2
        have ed : dayOf Y M D = beg Y + cumM Y M + D := rfl
        rw [if_pos c, decide_eq_true (show (1 ≤ M ∧ M ≤ 12) ∧ D ≤ lenM Y M from ⟨⟨c1, c2⟩, c⟩), decide_eq_true (by omega)]
      · rw [if_neg c, decide_eq_false (show ¬ ((1 ≤ M ∧ M ≤ 12) ∧ D ≤ lenM Y M) from fun h => c h.2)]; rfl
    · rw [if_neg c2, decide_eq_false (by omega)]
  · rw [if_neg c1, decide_eq_false (by omega)]

theorem LineDays : ephemerislaw1_LineDays.Pure := by
  intro Y M D _ _ _
  refine ⟨201, ?_⟩
  unfold ephemerislaw1_LineDays.f
  rw [line_Day_f _ _ _ 201 (by omega), if_pos (by omega), if_pos (by decide), show dayOf 2024 2 29 = 738945 from by decide, Option.bind_some, if_pos rfl]
  simp only [bne_self_eq_false, ephemerislaw1_LineDays.j0, Bool.false_eq_true, if_false]
  rw [line_Day_f _ _ _ 200 (by omega), ephemerisref1_In_f, ephemerisref1_In_f, Option.bind_some, Option.bind_some, Option.bind_some]
  simp only [decide_eq_true_eq]
  by_cases h1 : -10000 ≤ Y ∧ Y ≤ 10000
  · rw [if_pos h1, if_pos h1]
    have hl := len_pos Y M
    by_cases h2 : 1 ≤ D ∧ D ≤ 31
    · rw [if_pos h2, ephemerisref1_GregExists_f Y M D h1 h2 200 (by omega), Option.bind_some]
      simp only [decide_eq_true_eq]
      by_cases h3 : (1 ≤ M ∧ M ≤ 12) ∧ D ≤ lenM Y M
      · have h4 : (1 ≤ M ∧ M ≤ 12) ∧ (1 ≤ D ∧ D ≤ lenM Y M) := ⟨h3.1, h2.1, h3.2⟩
        rw [if_pos h3, if_pos h4, if_pos rfl, ephemerisref1_GregDay_f Y M D h1 h3.1 h2 200 (by omega), Option.bind_some, if_pos h3.2]
        simp
      · have h4 : ¬ ((1 ≤ M ∧ M ≤ 12) ∧ (1 ≤ D ∧ D ≤ lenM Y M)) := fun h => h3 ⟨h.1, h.2.2⟩
        rw [if_neg h3, if_neg h4]; rfl
    · have h4 : ¬ ((1 ≤ M ∧ M ≤ 12) ∧ (1 ≤ D ∧ D ≤ lenM Y M)) := fun h => h2 ⟨h.2.1, by omega⟩
      rw [if_neg h2, if_neg h4]; rfl
  · rw [if_neg h1, if_neg h1]; rfl
end Go.Proofs.Ytmihkcgkdhmccaa.Pure
