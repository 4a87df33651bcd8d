/- The law LineDates over numbers and lists: what the law's functions tell, and that the law holds. -/
import Derived.Test.YtmihkcgkdhmccaaPLineDatesx4
import Derived.Test.YtmihkcgkdhmccaaM
import Derived.Test.YtmihkcgkdhmccaaG
namespace Go.Proofs.Ytmihkcgkdhmccaa.Pure
open Go.RowKit Go.Proofs.Ytmihkcgkdhmccaa.PLineDates Go.Proofs.YtmihkcgkdhmccaaW.PrintWords Go.Proofs.YtmihkcgkdhmccaaW.PrintLast Go.Proofs.Ytmihkcgkdhmccaa.M Go.Proofs.Ytmihkcgkdhmccaa.G
set_option linter.unusedVariables false
set_option linter.unusedSimpArgs false
theorem line_leap_f (y : Int) : line_leap.f y = some (leapY y) := by
  unfold line_leap.f leapY
  have h4 := tmod_zero_iff y (g := 4) (by omega)
  have h100 := tmod_zero_iff y (g := 100) (by omega)
  have h400 := tmod_zero_iff y (g := 400) (by omega)
  by_cases c4 : y % 4 = 0
  · rw [if_pos (h4.2 c4)]
    by_cases c1 : y % 100 = 0
    · rw [if_pos (h100.2 c1)]
      congr 1
      by_cases c0 : y % 400 = 0
      · rw [beq_iff_eq.2 (h400.2 c0), decide_eq_true ⟨c4, .inr c0⟩]
      · rw [beq_eq_false_iff_ne.2 (fun h => c0 (h400.1 h)), decide_eq_false (fun h => h.2.elim (fun x => x c1) c0)]
    · rw [if_neg (fun h => c1 (h100.1 h)), decide_eq_true ⟨c4, .inl c1⟩]
  · rw [if_neg (fun h => c4 (h4.1 h)), decide_eq_false (fun h => c4 h.1)]

theorem line_length_f (y m : Int) : line_length.f y m = some (lenM y m) := by
  unfold line_length.f lenM
  by_cases c2 : m = 2
  · rw [if_pos c2, if_pos c2, line_leap_f, Option.bind_some]
    cases leapY y <;> rfl
  rw [if_neg c2, if_neg c2]
  by_cases c4 : m = 4
  · rw [if_pos c4, if_pos (.inl c4)]
  rw [if_neg c4]
  by_cases c6 : m = 6
  · rw [if_pos c6, if_pos (.inr (.inl c6))]
  rw [if_neg c6]
  by_cases c9 : m = 9
  · rw [if_pos c9, if_pos (.inr (.inr (.inl c9)))]
  rw [if_neg c9]
  by_cases c11 : m = 11
  · rw [if_pos c11, if_pos (.inr (.inr (.inr c11)))]
  rw [if_neg c11, if_neg (fun h => h.elim c4 (fun h => h.elim c6 (fun h => h.elim c9 c11)))]

theorem whole_Div_f {a b : Int} (k : Nat) (hk : 1 ≤ k) (ha : -9223372036854775808 ≤ a) (ha1 : a ≤ 9223372036854775807) (hb : -9223372036854775808 ≤ b) (hb1 : b ≤ 9223372036854775807) : whole_Div.f k a b = some (divs a b) := by
  obtain ⟨k, rfl⟩ : ∃ m, k = m + 1 := ⟨k - 1, by omega⟩
  unfold whole_Div.f divs
  by_cases c : b = 0
  · rw [if_pos c, if_pos c]
  rw [if_neg c, if_neg c]
  by_cases d : a = -9223372036854775808 ∧ b = -1
  · rw [if_pos d.1, if_pos d, d.2]; simp [whole_Div.j0]
  have e : (if a = (-9223372036854775808) then (whole_Div.j0 (k + 1) a b (b == (-1))) else (whole_Div.j0 (k + 1) a b false)) = whole_Div.j0 (k + 1) a b false := by
    by_cases c1 : a = -9223372036854775808
    · rw [if_pos c1, show (b == -1) = false from beq_eq_false_iff_ne.2 (fun h => d ⟨c1, h⟩)]
    · rw [if_neg c1]
  rw [e, if_neg d]
  simp only [whole_Div.j0, Bool.false_eq_true, if_false]
  rw [if_neg c]
  obtain ⟨b1, b2⟩ := tdiv_bound a b c ha ha1 d
  obtain ⟨g1, g2, g3⟩ := fd_of_t a b c
  obtain ⟨t0, t1, t2, t3, t4⟩ := tdm a b c
  rw [w64_id b1 b2]
  by_cases hz : Int.tmod a b = 0
  · rw [if_pos hz, (g1 hz).1, (g1 hz).2, hz]
  · rw [if_neg hz]
    cases hs : (decide (Int.tmod a b < 0) != decide (b < 0)) with
    | true =>
      have hq : fd a b = Int.tdiv a b - 1 := (g2 hz hs).1
      have hfs := fd_spec a b c
      have hlow : -9223372036854775808 ≤ Int.tdiv a b - 1 := by
        by_cases hm : Int.tdiv a b = -9223372036854775808
        · exfalso
          have h9 : (Int.tdiv a b).natAbs = a.natAbs / b.natAbs := Int.natAbs_tdiv a b
          rw [hm] at h9
          have h10 : a.natAbs / b.natAbs ≤ a.natAbs := Nat.div_le_self _ _
          by_cases hb2 : b.natAbs = 1
          · have : b = 1 ∨ b = -1 := by omega
            rcases this with rfl | rfl
            · exact hz (by rw [Int.tmod_one])
            · exact hz (by rw [Int.tmod_neg, Int.tmod_one])
          · have : a.natAbs / b.natAbs ≤ a.natAbs / 2 := Nat.div_le_div_left (by omega) (by omega)
            omega
        · omega
      have hss : (Int.tmod a b < 0 ∧ 0 < b) ∨ (0 < Int.tmod a b ∧ b < 0) := by
        by_cases hx : Int.tmod a b < 0 <;> by_cases hy : b < 0 <;> simp [hx, hy] at hs
        · exact .inl ⟨hx, by omega⟩
        · exact .inr ⟨by omega, hy⟩
      simp only [if_true]
      rw [(g2 hz hs).1, (g2 hz hs).2, w64_id hlow (by omega), w64_id (n := Int.tmod a b + b) (by omega) (by omega)]
    | false =>
      simp only [Bool.false_eq_true, if_false]
      rw [(g3 hz hs).1, (g3 hz hs).2]

theorem line_begin_f (y : Int) (h : -1000000000000 ≤ y ∧ y ≤ 1000000000000) (k : Nat) (hk : 1 ≤ k) : line_begin.f k y = some (beg y) := by
  unfold line_begin.f beg
  rw [w64_id (n := y - 1) (by omega) (by omega)]
  rw [whole_Div_f k hk (by omega) (by omega) (by omega) (by omega), whole_Div_f k hk (by omega) (by omega) (by omega) (by omega), whole_Div_f k hk (by omega) (by omega) (by omega) (by omega), divs_pos (by omega), divs_pos (by omega), divs_pos (by omega)]
  rw [Option.bind_some, Option.bind_some, Option.bind_some]
  simp only
  have b1 : 365 * (y - 1) + (y - 1) / 4 = 365 * (y - 1) + (y - 1) / 4 := rfl
  rw [w64_id (n := 365 * (y - 1)) (by omega) (by omega), w64_id (n := 365 * (y - 1) + (y - 1) / 4) (by omega) (by omega), w64_id (n := 365 * (y - 1) + (y - 1) / 4 - (y - 1) / 100) (by omega) (by omega), w64_id (n := 365 * (y - 1) + (y - 1) / 4 - (y - 1) / 100 + (y - 1) / 400) (by omega) (by omega)]

theorem line_Check_f (x : Int) : line_Check.f x = some (if -4000000 ≤ x ∧ x ≤ 4000000 then 0 else 3) := by
  unfold line_Check.f
  by_cases h : x < -4000000
  · rw [if_pos h, if_neg (by omega)]
  · rw [if_neg h]
    by_cases h2 : x > 4000000
    · rw [if_pos h2, if_neg (by omega)]
    · rw [if_neg h2, if_pos (by omega)]

theorem line_Date_l2 (x Y : Int) (hx : -4000000 ≤ x ∧ x ≤ 4000000) (hY : -100000 ≤ Y ∧ Y ≤ 100000) : ∀ (d k : Nat) (m : Int), m + d = 12 → 1 ≤ m → d < k → 1 ≤ x - beg Y - cumM Y m → x - beg Y ≤ (if leapY Y = true then 366 else 365) →
    ∃ m' r, line_Date.l2 k Y (x - beg Y - cumM Y m) m = some (Y, m', r, 0) ∧ okDate Y m' r ∧ dayOf Y m' r = x := by
  intro d
  induction d with
  | zero =>
    intro k m hm h1 hk hr hle
    obtain ⟨k, rfl⟩ : ∃ m, k = m + 1 := ⟨k - 1, by omega⟩
    obtain rfl : m = 12 := by omega
    have he := cum_end Y
    conv => enter [1, m', 1, r, 1]; unfold line_Date.l2
    rw [line_length_f, Option.bind_some, if_neg (by omega)]
    exact ⟨12, _, rfl, ⟨by omega, by omega⟩, by unfold dayOf; omega⟩
  | succ d ih =>
    intro k m hm h1 hk hr hle
    obtain ⟨k, rfl⟩ : ∃ m, k = m + 1 := ⟨k - 1, by omega⟩
    have hs := cum_succ Y m h1 (by omega)
    have hl := len_pos Y m
    have hc := cum_le Y m h1 (by omega)
    have h366 : (if leapY Y = true then (366 : Int) else 365) ≤ 366 := by split <;> omega
    conv => enter [1, m', 1, r, 1]; unfold line_Date.l2
    rw [line_length_f, Option.bind_some]
    by_cases c : x - beg Y - cumM Y m > lenM Y m
    · rw [if_pos c, Option.bind_some, w64_id (n := x - beg Y - cumM Y m - lenM Y m) (by omega) (by omega), w64_id (n := m + 1) (by omega) (by omega), show x - beg Y - cumM Y m - lenM Y m = x - beg Y - cumM Y (m + 1) from by omega]
      exact ih k (m + 1) (by omega) (by omega) (by omega) (by omega) hle
    · rw [if_neg c]
      exact ⟨m, _, rfl, ⟨by omega, by omega⟩, by unfold dayOf; omega⟩
theorem beg_low (y : Int) : 400 * beg y ≤ 146097 * (y - 1) + 396 := by unfold beg; omega
theorem beg_high (y : Int) : 146097 * (y - 1) - 699 ≤ 400 * beg y := by unfold beg; omega
theorem line_Date_l1 (x Y : Int) (hx : -4000000 ≤ x ∧ x ≤ 4000000) (hY : -100000 ≤ Y ∧ Y ≤ 100000) (k : Nat) (hk : 30 ≤ k) (h0 : beg Y < x) (h1 : x ≤ beg (Y + 1)) :
    ∃ m' r, line_Date.l1 k x Y = some (Y, m', r, 0) ∧ okDate Y m' r ∧ dayOf Y m' r = x := by
  obtain ⟨k, rfl⟩ : ∃ m, k = m + 1 := ⟨k - 1, by omega⟩
  have hb := beg_low Y
  have hb' := beg_high Y
  have hs := beg_succ Y
  have hc0 : cumM Y 1 = 0 := by unfold cumM; rw [if_pos (by omega)]
  conv => enter [1, m', 1, r, 1]; unfold line_Date.l1
  rw [w64_id (n := Y + 1) (by omega) (by omega), line_begin_f _ (by omega) k (by omega), line_begin_f _ (by omega) k (by omega), Option.bind_some, if_neg (by omega), Option.bind_some, w64_id (n := x - beg Y) (by omega) (by omega)]
  have := line_Date_l2 x Y hx hY 11 k 1 (by omega) (by omega) (by omega) (by omega) (by omega)
  rw [hc0, Int.sub_zero] at this
  exact this
theorem line_Date_f (x : Int) (k : Nat) (hk : 50 ≤ k) : line_Date.f k x = some (if -4000000 ≤ x ∧ x ≤ 4000000 then ((greg x).1, (greg x).2.1, (greg x).2.2, 0) else (0, 0, 0, 3)) := by
  unfold line_Date.f
  rw [line_Check_f, Option.bind_some]
  by_cases hx : -4000000 ≤ x ∧ x ≤ 4000000
  · rw [if_pos hx, if_pos rfl, if_pos hx, w64_id (n := x - 1) (by omega) (by omega), w64_id (n := 400 * (x - 1)) (by omega) (by omega), whole_Div_f k (by omega) (by omega) (by omega) (by omega) (by omega), divs_pos (by omega), Option.bind_some]
    simp only
    obtain ⟨g, hg⟩ : ∃ g, g = 400 * (x - 1) / 146097 + 1 := ⟨_, rfl⟩
    have hgb : 146097 * (g - 1) ≤ 400 * (x - 1) ∧ 400 * (x - 1) < 146097 * g := by omega
    rw [← hg, w64_id (n := g) (by omega) (by omega)]
    clear hg
    have fin : ∀ Y : Int, (∃ m' r, line_Date.l0 k x g = some (Y, m', r, 0) ∧ okDate Y m' r ∧ dayOf Y m' r = x) → line_Date.l0 k x g = some ((greg x).1, (greg x).2.1, (greg x).2.2, 0) := by
      rintro Y ⟨m', r, h1, h2, h3⟩
      have := dayOf_greg h2
      rw [h3] at this
      rw [h1, this]
    obtain ⟨k, rfl⟩ : ∃ m, k = m + 2 := ⟨k - 2, by omega⟩
    have low1 := beg_low (g - 1)
    have low0 := beg_low g
    have high0 := beg_high g
    have high1 := beg_high (g + 1)
    have high2 := beg_high (g + 2)
    have st : ∀ (j : Nat) (Y : Int), 1 ≤ j → -100000 ≤ Y → Y ≤ 100000 → beg Y < x → line_Date.l0 (j + 1) x Y = line_Date.l1 j x Y := by
      intro j Y hj hY0 hY1 h
      conv => lhs; unfold line_Date.l0
      rw [line_begin_f _ (by omega) j hj, Option.bind_some, if_neg (by omega)]
    by_cases c0 : beg g ≥ x
    · apply fin (g - 1)
      have e : line_Date.l0 (k + 2) x g = line_Date.l1 k x (g - 1) := by
        rw [show k + 2 = (k + 1) + 1 from rfl]
        conv => lhs; unfold line_Date.l0
        rw [line_begin_f _ (by omega) (k + 1) (by omega), Option.bind_some, if_pos c0, w64_id (n := g - 1) (by omega) (by omega)]
        exact st k (g - 1) (by omega) (by omega) (by omega) (by omega)
      rw [e]
      exact line_Date_l1 x (g - 1) hx (by omega) k (by omega) (by omega) (by rw [show g - 1 + 1 = g from by omega]; omega)
    · have e : line_Date.l0 (k + 2) x g = line_Date.l1 (k + 1) x g := st (k + 1) g (by omega) (by omega) (by omega) (by omega)
      by_cases c1 : beg (g + 1) < x
      · apply fin (g + 1)
        rw [e]
        have e2 : line_Date.l1 (k + 1) x g = line_Date.l1 k x (g + 1) := by
          conv => lhs; unfold line_Date.l1
          rw [w64_id (n := g + 1) (by omega) (by omega), line_begin_f _ (by omega) k (by omega), Option.bind_some, if_pos c1]
        rw [e2]
        exact line_Date_l1 x (g + 1) hx (by omega) k (by omega) c1 (by rw [show g + 1 + 1 = g + 2 from by omega]; omega)
      · apply fin g
        rw [e]
        exact line_Date_l1 x g hx (by omega) (k + 1) (by omega) (by omega) (by omega)
  · rw [if_neg hx, if_neg (by omega), if_neg hx]

theorem ephemerisref1_In_f (x lo hi : Int) : ephemerisref1_In.f x lo hi = some (decide (lo ≤ x ∧ x ≤ hi)) := by
  unfold ephemerisref1_In.f
  by_cases h : x ≥ lo
  · rw [if_pos h]; congr 1; simp; omega
  · rw [if_neg h]; congr 1; simp; omega

theorem ephemerisref1_Day_f (x : Int) : ephemerisref1_Day.f x = some (decide (-4000000 ≤ x ∧ x ≤ 4000000)) := by
  unfold ephemerisref1_Day.f
  rw [ephemerisref1_In_f]; rfl

theorem ephemerisref1_Size_f {a : Int} (h0 : -9223372036854775808 ≤ a) (h1 : a ≤ 9223372036854775807) : ephemerisref1_Size.f a = some (ab a) := by
  unfold ephemerisref1_Size.f ab
  by_cases c : a < 0
  · rw [if_pos c, if_pos c, w64_id (n := a + 1) (by omega) (by omega), w64_id (n := -(a + 1)) (by omega) (by omega), u64_id (n := -(a + 1)) (by omega) (by omega), u64_id (by omega) (by omega)]
    congr 1; omega
  · rw [if_neg c, if_neg c, u64_id (by omega) (by omega)]

theorem ephemerisref1_Div_l0 (X Y : Int) (hX : 0 ≤ X) (hX1 : X < 18446744073709551616) (hY : 0 < Y) (hY1 : Y ≤ 9223372036854775808) :
    ∀ (n k : Nat), n ≤ 64 → n < k → ephemerisref1_Div.l0 k X Y (X / 2 ^ n / Y * 2 ^ n) (X / 2 ^ n % Y) ((n : Int) - 1) = some (X / Y, X % Y) := by
  intro n
  induction n with
  | zero =>
    intro k _ hk
    obtain ⟨k, rfl⟩ : ∃ m, k = m + 1 := ⟨k - 1, by omega⟩
    simp only [ephemerisref1_Div.l0]
    rw [if_neg (by omega)]
    simp
  | succ n ih =>
    intro k hn hk
    obtain ⟨k, rfl⟩ : ∃ m, k = m + 1 := ⟨k - 1, by omega⟩
    have ih := ih k (by omega) (by omega)
    have hhp := half_pow X n
    have hpow : (2 : Int) ^ (n + 1) = 2 * 2 ^ n := by rw [Int.pow_succ, Int.mul_comm]
    have hpp := pow_pos' n
    have hp63 := pow_le_63 n (by omega)
    have hd1 := div_pow_le X Y (n + 1) hX hY
    have hd0 := div_pow_le X Y n hX hY
    have hz : 0 ≤ X / 2 ^ n := Int.ediv_nonneg hX (by omega)
    obtain ⟨s1, s2⟩ := long_step (X / 2 ^ n) Y hz hY
    rw [← hhp] at s1 s2
    have r0 := Int.emod_nonneg (X / 2 ^ (n + 1)) (b := Y) (by omega)
    have r1 := Int.emod_lt_of_pos (X / 2 ^ (n + 1)) hY
    have hshr : shr .u64 X ((n : Int) + 1 - 1) = X / 2 ^ n := by
      rw [show (n : Int) + 1 - 1 = n from by omega]; exact shr_pow X n (by omega)
    have hshl : shl .u64 1 ((n : Int) + 1 - 1) = 2 ^ n := by
      rw [show (n : Int) + 1 - 1 = n from by omega]; exact shl_one n (by omega)
    have hzx : X / 2 ^ n ≤ X := Int.ediv_le_self _ hX
    have hmod : (X / 2 ^ (n + 1) / Y * 2 ^ (n + 1)) % 2 ^ (n + 1) = 0 := Int.mul_emod_left _ _
    have hor : Go.bits .or .u64 (X / 2 ^ (n + 1) / Y * 2 ^ (n + 1)) (2 ^ n) = X / 2 ^ (n + 1) / Y * 2 ^ (n + 1) + 2 ^ n :=
      or_join (n + 1) _ _ hd1.1 (by omega) hmod (by omega) (by omega) (by omega)
    have q2 : X / 2 ^ (n + 1) / Y * 2 ^ (n + 1) = 2 * (X / 2 ^ (n + 1) / Y) * 2 ^ n := by
      rw [hpow, Int.mul_comm 2 (X / (2 * 2 ^ n) / Y), Int.mul_assoc]
    generalize hR : X / 2 ^ (n + 1) % Y = R at *
    generalize hQ : X / 2 ^ (n + 1) / Y * 2 ^ (n + 1) = Q at *
    simp only [ephemerisref1_Div.l0]
    rw [show (((n + 1 : Nat) : Int) - 1) = (n : Int) + 1 - 1 from by omega]
    rw [if_pos (by omega), hshr, hshl, hor, w64_id (n := (n : Int) + 1 - 1 - 1) (by omega) (by omega), show (n : Int) + 1 - 1 - 1 = (n : Int) - 1 from by omega]
    rw [and_one _ hz (by omega), u64_id (n := R * 2) (by omega) (by omega)]
    have hbit := Int.emod_nonneg (X / 2 ^ n) (b := 2) (by omega)
    have hbit1 := Int.emod_lt_of_pos (X / 2 ^ n) (b := 2) (by omega)
    rw [or_join 1 (R * 2) _ (by omega) (by omega) (by simp only [Int.reducePow]; omega) hbit (by simp only [Int.reducePow]; omega) (by omega)]
    rw [if_neg (by omega)]
    rw [show R * 2 + X / 2 ^ n % 2 = 2 * R + X / 2 ^ n % 2 from by omega]
    by_cases c : Y ≤ 2 * R + X / 2 ^ n % 2
    · rw [if_pos c, u64_id (by omega) (by omega)]
      have e := s1 c
      rw [e.1, e.2, Int.add_mul, Int.one_mul, ← q2] at ih
      exact ih
    · rw [if_neg c]
      have e := s2 c
      rw [e.1, e.2, ← q2] at ih
      exact ih
theorem ephemerisref1_Div_f {a b : Int} (k : Nat) (hk : 65 ≤ k) (ha : -9223372036854775808 ≤ a) (ha1 : a ≤ 9223372036854775807) (hb : -9223372036854775808 ≤ b) (hb1 : b ≤ 9223372036854775807) : ephemerisref1_Div.f k a b = some (divs a b) := by
  unfold ephemerisref1_Div.f
  by_cases c : b = 0
  · rw [if_pos c]; unfold divs; rw [if_pos c]
  rw [if_neg c, ephemerisref1_Size_f ha ha1, ephemerisref1_Size_f hb hb1]
  simp only [Option.bind_some]
  have hX := ab_nonneg a
  have hX1 := ab_le ha ha1
  have hY1 := ab_le hb hb1
  have hY : 0 < ab b := by unfold ab; split <;> omega
  have h64 := ephemerisref1_Div_l0 (ab a) (ab b) hX (by omega) hY hY1 64 k (by omega) (by omega)
  have hz : ab a / 2 ^ 64 = 0 := Int.ediv_eq_zero_of_lt hX (by simp only [Int.reducePow]; omega)
  rw [hz] at h64
  simp only [Int.zero_ediv, Int.zero_mul, Int.zero_emod] at h64
  rw [show (((64 : Nat) : Int) - 1) = 63 from by omega] at h64
  rw [h64]
  simp only [Option.bind_some, Option.some.injEq]
  have h1 := Int.mul_ediv_add_emod (ab a) (ab b)
  have h2 := Int.emod_nonneg (ab a) (b := ab b) (by omega)
  have h3 := Int.emod_lt_of_pos (ab a) hY
  have h4 : ab a / ab b ≤ ab a := Int.ediv_le_self _ hX
  have h5 : 0 ≤ ab a / ab b := Int.ediv_nonneg hX (by omega)
  have h6 : 2 ≤ ab b → ab a / ab b ≤ 4611686018427387904 := fun h => by
    have : ab a / ab b ≤ ab a / 2 := by
      have := Int.ediv_le_ediv (c := 2) (by omega) (a := ab a / ab b * 2) (b := ab a) (by
        have : ab a / ab b * 2 ≤ ab a / ab b * ab b := Int.mul_le_mul_of_nonneg_left h h5
        rw [Int.mul_comm (ab b)] at h1
        omega)
      omega
    omega
  have h7 : ab b = 1 → ab a / ab b = ab a ∧ ab a % ab b = 0 := fun h => by rw [h]; omega
  have uniq : ∀ {q r : Int}, a = b * q + r → (0 < b → 0 ≤ r ∧ r < b) → (b < 0 → b < r ∧ r ≤ 0) → ¬ (a = -9223372036854775808 ∧ b = -1) → divs a b = (q, r, 0) := by
    intro q r e1 e2 e3 e4
    have := fd_uniq e1 e2 e3 c
    unfold divs
    rw [if_neg c, if_neg e4, this.1, this.2]
  generalize hq : ab a / ab b = q at *
  generalize hr : ab a % ab b = r at *
  clear h64 hz
  have eY : ∀ s : Int, (-(ab b)) * s = -(ab b * s) := fun s => by rw [Int.neg_mul]
  by_cases sa : a < 0 <;> by_cases sb : b < 0
  · have xa : a = -(ab a) := by unfold ab; rw [if_pos sa]; omega
    have xb : b = -(ab b) := by unfold ab; rw [if_pos sb]; omega
    simp only [ephemerisref1_Div.e0, ephemerisref1_Div.e1, sa, sb, decide_true, bne_self_eq_false, Bool.false_eq_true, false_and, if_false, true_and, if_true]
    by_cases c2 : q > 9223372036854775807
    · rw [if_pos c2]
      unfold divs
      have : ab b = 1 := by
        by_cases h : 2 ≤ ab b
        · have := h6 h; omega
        · omega
      rw [if_neg c, if_pos (by omega)]
    · rw [if_neg c2, w64_id (by omega) (by omega), u64_def, w64_def]
      rw [uniq (q := q) (r := -r) (by rw [xb, eY]; omega) (by omega) (by omega) (fun h => by have := h7 (by omega); omega)]
      congr 2; omega
  · have xa : a = -(ab a) := by unfold ab; rw [if_pos sa]; omega
    have xb : b = ab b := by unfold ab; rw [if_neg sb]
    simp only [ephemerisref1_Div.e0, ephemerisref1_Div.e1, sa, sb, decide_true, decide_false, Bool.bne_false, Bool.false_eq_true, true_and, if_true, Bool.true_eq_false, false_and, if_false]
    by_cases c2 : r = 0
    · rw [if_neg (fun h => h c2), u64_def, w64_def, w64_id (by omega) (by omega)]
      rw [uniq (q := -q) (r := 0) (by rw [xb, Int.mul_neg]; omega) (by omega) (by omega) (by omega)]
      rw [c2]
      congr 1; omega
    · rw [if_pos c2, u64_id (n := q + 1) (by omega) (by omega), u64_id (n := ab b - r) (by omega) (by omega), u64_def, w64_def, w64_id (by omega) (by omega)]
      have : q ≤ 9223372036854775807 := by
        by_cases h : 2 ≤ ab b
        · have := h6 h; omega
        · have := h7 (by omega); omega
      have eb : b * q = ab b * q := by rw [← xb]
      rw [uniq (q := -(q + 1)) (r := ab b - r) (by rw [Int.mul_neg, Int.mul_add, Int.mul_one, eb]; omega) (by omega) (by omega) (by omega)]
      congr 1; omega
  · have xa : a = ab a := by unfold ab; rw [if_neg sa]
    have xb : b = -(ab b) := by unfold ab; rw [if_pos sb]; omega
    simp only [ephemerisref1_Div.e0, ephemerisref1_Div.e1, sa, sb, decide_true, decide_false, Bool.bne_true, Bool.not_false, Bool.false_eq_true, true_and, if_true, Bool.true_eq_false, false_and, if_false]
    by_cases c2 : r = 0
    · rw [if_neg (fun h => h c2), u64_def, w64_def, u64_def, w64_def]
      rw [uniq (q := -q) (r := 0) (by rw [xb, eY, Int.mul_neg]; omega) (by omega) (by omega) (by omega)]
      rw [c2]
      congr 1
      omega
    · rw [if_pos c2, u64_id (n := q + 1) (by omega) (by omega), u64_id (n := ab b - r) (by omega) (by omega), u64_def, w64_def, u64_def, w64_def]
      have eb := eY q
      rw [← xb] at eb
      rw [uniq (q := -(q + 1)) (r := -(ab b - r)) (by rw [Int.mul_neg, Int.mul_add, Int.mul_one, eb]; omega) (by omega) (by omega) (by omega)]
      congr 1
      · omega
      · congr 1; omega
  · have xa : a = ab a := by unfold ab; rw [if_neg sa]
    have xb : b = ab b := by unfold ab; rw [if_neg sb]
    simp only [ephemerisref1_Div.e0, ephemerisref1_Div.e1, sa, sb, decide_false, bne_self_eq_false, Bool.false_eq_true, false_and, if_false, true_and]
    rw [if_neg (by omega), w64_id (by omega) (by omega), w64_id (by omega) (by omega)]
    rw [uniq (q := q) (r := r) (by rw [xb]; omega) (by omega) (by omega) (by omega)]

theorem ephemerisref1_Floor_f {a b : Int} (k : Nat) (hk : 65 ≤ k) (ha : -9223372036854775808 ≤ a) (ha1 : a ≤ 9223372036854775807) (hb : 0 < b) (hb1 : b ≤ 9223372036854775807) : ephemerisref1_Floor.f k a b = some (a / b) := by
  unfold ephemerisref1_Floor.f
  rw [ephemerisref1_Div_f k hk ha ha1 (by omega) hb1, divs_pos hb]
  rfl

theorem ephemerisref1_Greg_f (day : Int) (h : -1000000000000 ≤ day ∧ day ≤ 1000000000000) (k : Nat) (hk : 65 ≤ k) : ephemerisref1_Greg.f k day = some (greg day) := by
  obtain ⟨e, he⟩ : ∃ e, e = (day + 305) / 146097 := ⟨_, rfl⟩
  obtain ⟨n, hn⟩ : ∃ n, n = (day + 305) % 146097 := ⟨_, rfl⟩
  have hen : day + 305 - e * 146097 = n := by omega
  have hb : (0 ≤ n ∧ n ≤ 146096) ∧ (-10000000 ≤ e ∧ e ≤ 10000000) := by omega
  obtain ⟨⟨n0, n1⟩, e0, e1⟩ := hb
  obtain ⟨d, q, y3, s, b1, b2, b3, h1, h2, h3, h4, hy⟩ := era_split n n0 n1
  have hr := march_rest n d q y3 s b1 b2 b3 h1
  unfold ephemerisref1_Greg.f greg
  rw [w64_id (n := day + 305) (by omega) (by omega), ephemerisref1_Floor_f k hk (by omega) (by omega) (by omega) (by omega), Option.bind_some]
  simp only [← he, ← hn]
  have g2 : wrap64 (e * 146097) = e * 146097 := w64_id (by omega) (by omega)
  have g3 : wrap64 (day + 305 - e * 146097) = n := by rw [hen]; exact w64_id (by omega) (by omega)
  clear he hn
  rw [g2, g3]
  have t1 : Int.tdiv n 1460 = n / 1460 := Int.tdiv_eq_ediv_of_nonneg n0
  have t2 : Int.tdiv n 36524 = n / 36524 := Int.tdiv_eq_ediv_of_nonneg n0
  have t3 : Int.tdiv n 146096 = n / 146096 := Int.tdiv_eq_ediv_of_nonneg n0
  have q1 : 0 ≤ n / 1460 ∧ n / 1460 ≤ 101 := by clear hy hr; omega
  have q2 : 0 ≤ n / 36524 ∧ n / 36524 ≤ 4 := by clear hy hr; omega
  have q3 : 0 ≤ n / 146096 ∧ n / 146096 ≤ 1 := by clear hy hr; omega
  have q4 : 0 ≤ n - n / 1460 + n / 36524 - n / 146096 := by clear hy hr; omega
  rw [t1, t2, t3]
  generalize n / 1460 = c1 at *
  generalize n / 36524 = c2 at *
  generalize n / 146096 = c3 at *
  clear t1 t2 t3
  have w1 : wrap64 c1 = c1 := w64_id (by omega) (by omega)
  have w2 : wrap64 c2 = c2 := w64_id (by omega) (by omega)
  have w3 : wrap64 c3 = c3 := w64_id (by omega) (by omega)
  have w4 : wrap64 (n - c1) = n - c1 := w64_id (by omega) (by omega)
  have w5 : wrap64 (n - c1 + c2) = n - c1 + c2 := w64_id (by omega) (by omega)
  have w6 : wrap64 (n - c1 + c2 - c3) = n - c1 + c2 - c3 := w64_id (by omega) (by omega)
  have t4 : Int.tdiv (n - c1 + c2 - c3) 365 = 100 * d + 4 * q + y3 := by rw [Int.tdiv_eq_ediv_of_nonneg q4, hy]
  rw [w1, w2, w3, w4, w5, w6, t4]
  simp only [hy]
  clear w1 w2 w3 w4 w5 w6 t4 hy q1 q2 q3 q4
  generalize hY : 100 * d + 4 * q + y3 = Y at *
  have hY0 : 0 ≤ Y ∧ Y ≤ 399 := by omega
  have t5 : Int.tdiv Y 4 = Y / 4 := Int.tdiv_eq_ediv_of_nonneg hY0.1
  have t6 : Int.tdiv Y 100 = Y / 100 := Int.tdiv_eq_ediv_of_nonneg hY0.1
  have v1 : wrap64 Y = Y := w64_id (by omega) (by omega)
  have v2 : wrap64 (365 * Y) = 365 * Y := w64_id (by omega) (by omega)
  have v3 : wrap64 (Y / 4) = Y / 4 := w64_id (by omega) (by omega)
  have v4 : wrap64 (Y / 100) = Y / 100 := w64_id (by omega) (by omega)
  have v5 : wrap64 (365 * Y + Y / 4) = 365 * Y + Y / 4 := w64_id (by omega) (by omega)
  have v6 : wrap64 (365 * Y + Y / 4 - Y / 100) = 365 * Y + Y / 4 - Y / 100 := w64_id (by omega) (by omega)
  have v7 : wrap64 (n - (365 * Y + Y / 4 - Y / 100)) = s := by rw [hr]; exact w64_id (by omega) (by omega)
  rw [v1, v2, t5, t6, v3, v4, v5, v6, v7, hr]
  clear v1 v2 v3 v4 v5 v6 v7 hr t5 t6
  obtain ⟨m, hm⟩ : ∃ m, m = (5 * s + 2) / 153 := ⟨_, rfl⟩
  obtain ⟨hm0, hms⟩ := march_month s m h2 h3 hm
  have x1 : wrap64 (5 * s) = 5 * s := w64_id (by omega) (by omega)
  have x2 : wrap64 (5 * s + 2) = 5 * s + 2 := w64_id (by omega) (by omega)
  have x3 : Int.tdiv (5 * s + 2) 153 = m := by rw [hm]; exact Int.tdiv_eq_ediv_of_nonneg (by omega)
  have x4 : wrap64 m = m := w64_id (by omega) (by omega)
  have x5 : wrap64 (m + 3) = m + 3 := w64_id (by omega) (by omega)
  have x6 : wrap64 (153 * m) = 153 * m := w64_id (by omega) (by omega)
  have x7 : wrap64 (153 * m + 2) = 153 * m + 2 := w64_id (by omega) (by omega)
  have x8 : Int.tdiv (153 * m + 2) 5 = (153 * m + 2) / 5 := Int.tdiv_eq_ediv_of_nonneg (by omega)
  have x9 : wrap64 ((153 * m + 2) / 5) = (153 * m + 2) / 5 := w64_id (by omega) (by omega)
  have x10 : wrap64 (s - (153 * m + 2) / 5) = s - (153 * m + 2) / 5 := w64_id (by omega) (by omega)
  have x11 : wrap64 (s - (153 * m + 2) / 5 + 1) = s - (153 * m + 2) / 5 + 1 := w64_id (by omega) (by omega)
  have x12 : wrap64 (400 * e) = 400 * e := w64_id (by omega) (by omega)
  have x13 : wrap64 (Y + 400 * e) = Y + 400 * e := w64_id (by omega) (by omega)
  have x14 : wrap64 (Y + 400 * e + 1) = Y + 400 * e + 1 := w64_id (by omega) (by omega)
  have x15 : wrap64 (m + 3 - 12) = m + 3 - 12 := w64_id (by omega) (by omega)
  rw [← hm]
  clear hm
  simp only [x1, x2, x3, x4, x5, x6, x7, x8, x9, x10, x11, x12, x13, x14, x15]
  by_cases c : m + 3 > 12
  · rw [if_pos c, if_pos c]
  · rw [if_neg c, if_neg c]

theorem LineDates : ephemerislaw1_LineDates.Pure := by
  intro x hx
  refine ⟨101, ?_⟩
  unfold ephemerislaw1_LineDates.f
  rw [line_Date_f _ 101 (by omega), if_pos (by omega), show greg 738945 = (2024, 2, 29) from by decide, Option.bind_some, if_neg (by decide)]
  simp only [bne_self_eq_false, ephemerislaw1_LineDates.j0, Bool.false_eq_true, if_false]
  rw [line_Date_f _ 100 (by omega), ephemerisref1_Day_f, Option.bind_some, Option.bind_some]
  simp only [decide_eq_true_eq]
  by_cases h : -4000000 ≤ x ∧ x ≤ 4000000
  · rw [if_pos h, if_pos h, if_pos rfl, ephemerisref1_Greg_f _ (by omega) 100 (by omega), Option.bind_some]
    simp
  · rw [if_neg h, if_neg h, if_pos (by decide)]; rfl
end Go.Proofs.Ytmihkcgkdhmccaa.Pure
