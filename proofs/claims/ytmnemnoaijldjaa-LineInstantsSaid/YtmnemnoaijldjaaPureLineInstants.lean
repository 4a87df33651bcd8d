/- The law LineInstants over numbers and lists: what the law's functions tell, and that the law holds. -/
import Derived.Test.YtmnemnoaijldjaaPLineInstantsx2
import Derived.Test.YtmnemnoaijldjaaM
namespace Go.Proofs.Ytmnemnoaijldjaa.Pure
open Go.RowKit Go.Proofs.Ytmnemnoaijldjaa.PLineInstants Go.Proofs.YtmnemnoaijldjaaW.PrintWords Go.Proofs.YtmnemnoaijldjaaW.PrintLast Go.Proofs.Ytmnemnoaijldjaa.M
set_option linter.unusedVariables false
set_option linter.unusedSimpArgs false
theorem ephemerisref1_In_f (x lo hi : Int) : ephemerisref1_In.f x lo hi = some (decide (lo ≤ x ∧ x ≤ hi)) := by
  unfold ephemerisref1_In.f
  by_cases h : x ≥ lo
  · rw [if_pos h]; congr 1; simp; omega
  · rw [if_neg h]; congr 1; simp; omega

theorem ephemerisref1_Day_f (x : Int) : ephemerisref1_Day.f x = some (decide (-4000000 ≤ x ∧ x ≤ 4000000)) := by
  unfold ephemerisref1_Day.f
  rw [ephemerisref1_In_f]; rfl

theorem ephemerisref1_Size_f {a : Int} (h0 : -9223372036854775808 ≤ a) (h1 : a ≤ 9223372036854775807) : ephemerisref1_Size.f a = some (ab a) := by
  unfold ephemerisref1_Size.f ab
  by_cases c : a < 0
  · rw [if_pos c, if_pos c, w64_id (n := a + 1) (by omega) (by omega), w64_id (n := -(a + 1)) (by omega) (by omega), u64_id (n := -(a + 1)) (by omega) (by omega), u64_id (by omega) (by omega)]
    congr 1; omega
  · rw [if_neg c, if_neg c, u64_id (by omega) (by omega)]

theorem ephemerisref1_Div_l0 (X Y : Int) (hX : 0 ≤ X) (hX1 : X < 18446744073709551616) (hY : 0 < Y) (hY1 : Y ≤ 9223372036854775808) :
    ∀ (n k : Nat), n ≤ 64 → n < k → ephemerisref1_Div.l0 k X Y (X / 2 ^ n / Y * 2 ^ n) (X / 2 ^ n % Y) ((n : Int) - 1) = some (X / Y, X % Y) := by
  intro n
  induction n with
  | zero =>
    intro k _ hk
    obtain ⟨k, rfl⟩ : ∃ m, k = m + 1 := ⟨k - 1, by omega⟩
    simp only [ephemerisref1_Div.l0]
    rw [if_neg (by omega)]
    simp
  | succ n ih =>
    intro k hn hk
    obtain ⟨k, rfl⟩ : ∃ m, k = m + 1 := ⟨k - 1, by omega⟩
    have ih := ih k (by omega) (by omega)
    have hhp := half_pow X n
    have hpow : (2 : Int) ^ (n + 1) = 2 * 2 ^ n := by rw [Int.pow_succ, Int.mul_comm]
    have hpp := pow_pos' n
    have hp63 := pow_le_63 n (by omega)
    have hd1 := div_pow_le X Y (n + 1) hX hY
    have hd0 := div_pow_le X Y n hX hY
    have hz : 0 ≤ X / 2 ^ n := Int.ediv_nonneg hX (by omega)
    obtain ⟨s1, s2⟩ := long_step (X / 2 ^ n) Y hz hY
    rw [← hhp] at s1 s2
    have r0 := Int.emod_nonneg (X / 2 ^ (n + 1)) (b := Y) (by omega)
    have r1 := Int.emod_lt_of_pos (X / 2 ^ (n + 1)) hY
    have hshr : shr .u64 X ((n : Int) + 1 - 1) = X / 2 ^ n := by
      rw [show (n : Int) + 1 - 1 = n from by omega]; exact shr_pow X n (by omega)
    have hshl : shl .u64 1 ((n : Int) + 1 - 1) = 2 ^ n := by
      rw [show (n : Int) + 1 - 1 = n from by omega]; exact shl_one n (by omega)
    have hzx : X / 2 ^ n ≤ X := Int.ediv_le_self _ hX
    have hmod : (X / 2 ^ (n + 1) / Y * 2 ^ (n + 1)) % 2 ^ (n + 1) = 0 := Int.mul_emod_left _ _
    have hor : Go.bits .or .u64 (X / 2 ^ (n + 1) / Y * 2 ^ (n + 1)) (2 ^ n) = X / 2 ^ (n + 1) / Y * 2 ^ (n + 1) + 2 ^ n :=
      or_join (n + 1) _ _ hd1.1 (by omega) hmod (by omega) (by omega) (by omega)
    have q2 : X / 2 ^ (n + 1) / Y * 2 ^ (n + 1) = 2 * (X / 2 ^ (n + 1) / Y) * 2 ^ n := by
      rw [hpow, Int.mul_comm 2 (X / (2 * 2 ^ n) / Y), Int.mul_assoc]
    generalize hR : X / 2 ^ (n + 1) % Y = R at *
    generalize hQ : X / 2 ^ (n + 1) / Y * 2 ^ (n + 1) = Q at *
    simp only [ephemerisref1_Div.l0]
    rw [show (((n + 1 : Nat) : Int) - 1) = (n : Int) + 1 - 1 from by omega]
    rw [if_pos (by omega), hshr, hshl, hor, w64_id (n := (n : Int) + 1 - 1 - 1) (by omega) (by omega), show (n : Int) + 1 - 1 - 1 = (n : Int) - 1 from by omega]
    rw [and_one _ hz (by omega), u64_id (n := R * 2) (by omega) (by omega)]
    have hbit := Int.emod_nonneg (X / 2 ^ n) (b := 2) (by omega)
    have hbit1 := Int.emod_lt_of_pos (X / 2 ^ n) (b := 2) (by omega)
    rw [or_join 1 (R * 2) _ (by omega) (by omega) (by simp only [Int.reducePow]; omega) hbit (by simp only [Int.reducePow]; omega) (by omega)]
    rw [if_neg (by omega)]
    rw [show R * 2 + X / 2 ^ n % 2 = 2 * R + X / 2 ^ n % 2 from by omega]
    by_cases c : Y ≤ 2 * R + X / 2 ^ n % 2
    · rw [if_pos c, u64_id (by omega) (by omega)]
      have e := s1 c
      rw [e.1, e.2, Int.add_mul, Int.one_mul, ← q2] at ih
      exact ih
    · rw [if_neg c]
      have e := s2 c
      rw [e.1, e.2, ← q2] at ih
      exact ih
theorem ephemerisref1_Div_f {a b : Int} (k : Nat) (hk : 65 ≤ k) (ha : -9223372036854775808 ≤ a) (ha1 : a ≤ 9223372036854775807) (hb : -9223372036854775808 ≤ b) (hb1 : b ≤ 9223372036854775807) : ephemerisref1_Div.f k a b = some (divs a b) := by
  unfold ephemerisref1_Div.f
  by_cases c : b = 0
  · rw [if_pos c]; unfold divs; rw [if_pos c]
  rw [if_neg c, ephemerisref1_Size_f ha ha1, ephemerisref1_Size_f hb hb1]
  simp only [Option.bind_some]
  have hX := ab_nonneg a
  have hX1 := ab_le ha ha1
  have hY1 := ab_le hb hb1
  have hY : 0 < ab b := by unfold ab; split <;> omega
  have h64 := ephemerisref1_Div_l0 (ab a) (ab b) hX (by omega) hY hY1 64 k (by omega) (by omega)
  have hz : ab a / 2 ^ 64 = 0 := Int.ediv_eq_zero_of_lt hX (by simp only [Int.reducePow]; omega)
  rw [hz] at h64
  simp only [Int.zero_ediv, Int.zero_mul, Int.zero_emod] at h64
  rw [show (((64 : Nat) : Int) - 1) = 63 from by omega] at h64
  rw [h64]
  simp only [Option.bind_some, Option.some.injEq]
  have h1 := Int.mul_ediv_add_emod (ab a) (ab b)
  have h2 := Int.emod_nonneg (ab a) (b := ab b) (by omega)
  have h3 := Int.emod_lt_of_pos (ab a) hY
  have h4 : ab a / ab b ≤ ab a := Int.ediv_le_self _ hX
  have h5 : 0 ≤ ab a / ab b := Int.ediv_nonneg hX (by omega)
  have h6 : 2 ≤ ab b → ab a / ab b ≤ 4611686018427387904 := fun h => by
    have : ab a / ab b ≤ ab a / 2 := by
      have := Int.ediv_le_ediv (c := 2) (by omega) (a := ab a / ab b * 2) (b := ab a) (by
        have : ab a / ab b * 2 ≤ ab a / ab b * ab b := Int.mul_le_mul_of_nonneg_left h h5
        rw [Int.mul_comm (ab b)] at h1
        omega)
      omega
    omega
  have h7 : ab b = 1 → ab a / ab b = ab a ∧ ab a % ab b = 0 := fun h => by rw [h]; omega
  have uniq : ∀ {q r : Int}, a = b * q + r → (0 < b → 0 ≤ r ∧ r < b) → (b < 0 → b < r ∧ r ≤ 0) → ¬ (a = -9223372036854775808 ∧ b = -1) → divs a b = (q, r, 0) := by
    intro q r e1 e2 e3 e4
    have := fd_uniq e1 e2 e3 c
    unfold divs
    rw [if_neg c, if_neg e4, this.1, this.2]
  generalize hq : ab a / ab b = q at *
  generalize hr : ab a % ab b = r at *
  clear h64 hz
  have eY : ∀ s : Int, (-(ab b)) * s = -(ab b * s) := fun s => by rw [Int.neg_mul]
  by_cases sa : a < 0 <;> by_cases sb : b < 0
  · have xa : a = -(ab a) := by unfold ab; rw [if_pos sa]; omega
    have xb : b = -(ab b) := by unfold ab; rw [if_pos sb]; omega
    simp only [ephemerisref1_Div.e0, ephemerisref1_Div.e1, sa, sb, decide_true, bne_self_eq_false, Bool.false_eq_true, false_and, if_false, true_and, if_true]
    by_cases c2 : q > 9223372036854775807
    · rw [if_pos c2]
      unfold divs
      have : ab b = 1 := by
        by_cases h : 2 ≤ ab b
        · have := h6 h; omega
        · omega
      rw [if_neg c, if_pos (by omega)]
    · rw [if_neg c2, w64_id (by omega) (by omega), u64_def, w64_def]
      rw [uniq (q := q) (r := -r) (by rw [xb, eY]; omega) (by omega) (by omega) (fun h => by have := h7 (by omega); omega)]
      congr 2; omega
  · have xa : a = -(ab a) := by unfold ab; rw [if_pos sa]; omega
    have xb : b = ab b := by unfold ab; rw [if_neg sb]
    simp only [ephemerisref1_Div.e0, ephemerisref1_Div.e1, sa, sb, decide_true, decide_false, Bool.bne_false, Bool.false_eq_true, true_and, if_true, Bool.true_eq_false, false_and, if_false]
    by_cases c2 : r = 0
    · rw [if_neg (fun h => h c2), u64_def, w64_def, w64_id (by omega) (by omega)]
      rw [uniq (q := -q) (r := 0) (by rw [xb, Int.mul_neg]; omega) (by omega) (by omega) (by omega)]
      rw [c2]
      congr 1; omega
    · rw [if_pos c2, u64_id (n := q + 1) (by omega) (by omega), u64_id (n := ab b - r) (by omega) (by omega), u64_def, w64_def, w64_id (by omega) (by omega)]
      have : q ≤ 9223372036854775807 := by
        by_cases h : 2 ≤ ab b
        · have := h6 h; omega
        · have := h7 (by omega); omega
      have eb : b * q = ab b * q := by rw [← xb]
      rw [uniq (q := -(q + 1)) (r := ab b - r) (by rw [Int.mul_neg, Int.mul_add, Int.mul_one, eb]; omega) (by omega) (by omega) (by omega)]
      congr 1; omega
  · have xa : a = ab a := by unfold ab; rw [if_neg sa]
    have xb : b = -(ab b) := by unfold ab; rw [if_pos sb]; omega
    simp only [ephemerisref1_Div.e0, ephemerisref1_Div.e1, sa, sb, decide_true, decide_false, Bool.bne_true, Bool.not_false, Bool.false_eq_true, true_and, if_true, Bool.true_eq_false, false_and, if_false]
    by_cases c2 : r = 0
    · rw [if_neg (fun h => h c2), u64_def, w64_def, u64_def, w64_def]
      rw [uniq (q := -q) (r := 0) (by rw [xb, eY, Int.mul_neg]; omega) (by omega) (by omega) (by omega)]
      rw [c2]
      congr 1
      omega
    · rw [if_pos c2, u64_id (n := q + 1) (by omega) (by omega), u64_id (n := ab b - r) (by omega) (by omega), u64_def, w64_def, u64_def, w64_def]
      have eb := eY q
      rw [← xb] at eb
      rw [uniq (q := -(q + 1)) (r := -(ab b - r)) (by rw [Int.mul_neg, Int.mul_add, Int.mul_one, eb]; omega) (by omega) (by omega) (by omega)]
      congr 1
      · omega
      · congr 1; omega
  · have xa : a = ab a := by unfold ab; rw [if_neg sa]
    have xb : b = ab b := by unfold ab; rw [if_neg sb]
    simp only [ephemerisref1_Div.e0, ephemerisref1_Div.e1, sa, sb, decide_false, bne_self_eq_false, Bool.false_eq_true, false_and, if_false, true_and]
    rw [if_neg (by omega), w64_id (by omega) (by omega), w64_id (by omega) (by omega)]
    rw [uniq (q := q) (r := r) (by rw [xb]; omega) (by omega) (by omega) (by omega)]

theorem ephemerisref1_Mod_f {a b : Int} (k : Nat) (hk : 65 ≤ k) (ha : -9223372036854775808 ≤ a) (ha1 : a ≤ 9223372036854775807) (hb : 0 < b) (hb1 : b ≤ 9223372036854775807) : ephemerisref1_Mod.f k a b = some (a % b) := by
  unfold ephemerisref1_Mod.f
  rw [ephemerisref1_Div_f k hk ha ha1 (by omega) hb1, divs_pos hb]
  rfl

theorem line_Check_f (x : Int) : line_Check.f x = some (if -4000000 ≤ x ∧ x ≤ 4000000 then 0 else 3) := by
  unfold line_Check.f
  by_cases h : x < -4000000
  · rw [if_pos h, if_neg (by omega)]
  · rw [if_neg h]
    by_cases h2 : x > 4000000
    · rw [if_pos h2, if_neg (by omega)]
    · rw [if_neg h2, if_pos (by omega)]

theorem line_Instant_f {x m : Int} : line_Instant.f x m = some (if -4000000 ≤ x ∧ x ≤ 4000000 then (if 0 ≤ m ∧ m ≤ 86399999 then (x * 86400000 + m, 0) else (0, 1)) else (0, 3)) := by
  unfold line_Instant.f
  rw [line_Check_f]
  simp only [Option.bind_some]
  by_cases h : -4000000 ≤ x ∧ x ≤ 4000000
  · rw [if_pos h, if_pos h, if_pos rfl]
    by_cases h1 : m < 0
    · rw [if_pos h1, if_neg (by omega)]
    rw [if_neg h1]
    by_cases h2 : m ≥ 86400000
    · rw [if_pos h2, if_neg (by omega)]
    rw [if_neg h2, if_pos (by omega), w64_id (n := x * 86400000) (by omega) (by omega), w64_id (by omega) (by omega)]
  · rw [if_neg h, if_neg h, if_neg (by omega)]

theorem whole_Div_f {a b : Int} (k : Nat) (hk : 1 ≤ k) (ha : -9223372036854775808 ≤ a) (ha1 : a ≤ 9223372036854775807) (hb : -9223372036854775808 ≤ b) (hb1 : b ≤ 9223372036854775807) : whole_Div.f k a b = some (divs a b) := by
  obtain ⟨k, rfl⟩ : ∃ m, k = m + 1 := ⟨k - 1, by omega⟩
  unfold whole_Div.f divs
  by_cases c : b = 0
  · rw [if_pos c, if_pos c]
  rw [if_neg c, if_neg c]
  by_cases d : a = -9223372036854775808 ∧ b = -1
  · rw [if_pos d.1, if_pos d, d.2]; simp [whole_Div.j0]
  have e : (if a = (-9223372036854775808) then (whole_Div.j0 (k + 1) a b (b == (-1))) else (whole_Div.j0 (k + 1) a b false)) = whole_Div.j0 (k + 1) a b false := by
    by_cases c1 : a = -9223372036854775808
    · rw [if_pos c1, show (b == -1) = false from beq_eq_false_iff_ne.2 (fun h => d ⟨c1, h⟩)]
    · rw [if_neg c1]
  rw [e, if_neg d]
  simp only [whole_Div.j0, Bool.false_eq_true, if_false]
  rw [if_neg c]
  obtain ⟨b1, b2⟩ := tdiv_bound a b c ha ha1 d
  obtain ⟨g1, g2, g3⟩ := fd_of_t a b c
  obtain ⟨t0, t1, t2, t3, t4⟩ := tdm a b c
  rw [w64_id b1 b2]
  by_cases hz : Int.tmod a b = 0
  · rw [if_pos hz, (g1 hz).1, (g1 hz).2, hz]
  · rw [if_neg hz]
    cases hs : (decide (Int.tmod a b < 0) != decide (b < 0)) with
    | true =>
      have hq : fd a b = Int.tdiv a b - 1 := (g2 hz hs).1
      have hfs := fd_spec a b c
      have hlow : -9223372036854775808 ≤ Int.tdiv a b - 1 := by
        by_cases hm : Int.tdiv a b = -9223372036854775808
        · exfalso
          have h9 : (Int.tdiv a b).natAbs = a.natAbs / b.natAbs := Int.natAbs_tdiv a b
          rw [hm] at h9
          have h10 : a.natAbs / b.natAbs ≤ a.natAbs := Nat.div_le_self _ _
          by_cases hb2 : b.natAbs = 1
          · have : b = 1 ∨ b = -1 := by omega
            rcases this with rfl | rfl
            · exact hz (by rw [Int.tmod_one])
            · exact hz (by rw [Int.tmod_neg, Int.tmod_one])
          · have : a.natAbs / b.natAbs ≤ a.natAbs / 2 := Nat.div_le_div_left (by omega) (by omega)
            omega
        · omega
      have hss : (Int.tmod a b < 0 ∧ 0 < b) ∨ (0 < Int.tmod a b ∧ b < 0) := by
        by_cases hx : Int.tmod a b < 0 <;> by_cases hy : b < 0 <;> simp [hx, hy] at hs
        · exact .inl ⟨hx, by omega⟩
        · exact .inr ⟨by omega, hy⟩
      simp only [if_true]
      rw [(g2 hz hs).1, (g2 hz hs).2, w64_id hlow (by omega), w64_id (n := Int.tmod a b + b) (by omega) (by omega)]
    | false =>
      simp only [Bool.false_eq_true, if_false]
      rw [(g3 hz hs).1, (g3 hz hs).2]

theorem line_Split_f {t : Int} (k : Nat) (hk : 1 ≤ k) (h0 : -9223372036854775808 ≤ t) (h1 : t ≤ 9223372036854775807) : line_Split.f k t = some (if -4000000 ≤ t / 86400000 ∧ t / 86400000 ≤ 4000000 then (t / 86400000, t % 86400000, 0) else (0, 0, 3)) := by
  unfold line_Split.f
  rw [whole_Div_f k hk h0 h1 (by omega) (by omega), divs_pos (by omega)]
  simp only [Option.bind_some]
  rw [line_Check_f]
  simp only [Option.bind_some]
  by_cases h : -4000000 ≤ t / 86400000 ∧ t / 86400000 ≤ 4000000
  · rw [if_pos h, if_pos h, if_pos rfl]
  · rw [if_neg h, if_neg h, if_neg (by omega)]

theorem ephemerisref1_Floor_f {a b : Int} (k : Nat) (hk : 65 ≤ k) (ha : -9223372036854775808 ≤ a) (ha1 : a ≤ 9223372036854775807) (hb : 0 < b) (hb1 : b ≤ 9223372036854775807) : ephemerisref1_Floor.f k a b = some (a / b) := by
  unfold ephemerisref1_Floor.f
  rw [ephemerisref1_Div_f k hk ha ha1 (by omega) hb1, divs_pos hb]
  rfl

theorem ephemerisref1_Instant_f {t : Int} (k : Nat) (hk : 65 ≤ k) (h0 : -9223372036854775808 ≤ t) (h1 : t ≤ 9223372036854775807) : ephemerisref1_Instant.f k t = some (decide (-4000000 ≤ t / 86400000 ∧ t / 86400000 ≤ 4000000)) := by
  unfold ephemerisref1_Instant.f
  rw [ephemerisref1_Floor_f k hk h0 h1 (by omega) (by omega)]
  simp only [Option.bind_some]
  rw [ephemerisref1_Day_f]; rfl

theorem instants_two {t : Int} (k : Nat) (hk : 70 ≤ k) (h0 : -9223372036854775808 ≤ t) (h1 : t ≤ 9223372036854775807) : ephemerislaw1_LineInstants.j1 k t = some true := by
  obtain ⟨k, rfl⟩ : ∃ m, k = m + 1 := ⟨k - 1, by omega⟩
  simp only [ephemerislaw1_LineInstants.j1]
  rw [line_Split_f k (by omega) h0 h1, ephemerisref1_Instant_f k (by omega) h0 h1, ephemerisref1_Floor_f k (by omega) h0 h1 (by omega) (by omega), ephemerisref1_Mod_f k (by omega) h0 h1 (by omega) (by omega)]
  simp only [Option.bind_some, decide_eq_true_eq]
  by_cases h : -4000000 ≤ t / 86400000 ∧ t / 86400000 ≤ 4000000
  · rw [if_pos h, if_pos h]; simp
  · rw [if_neg h, if_neg h]; rfl
theorem LineInstants : ephemerislaw1_LineInstants.Pure := by
  intro x m t hx hm ht
  obtain ⟨ht0, ht1⟩ := wf_i64 ht
  refine ⟨100, ?_⟩
  unfold ephemerislaw1_LineInstants.f
  rw [line_Instant_f, if_pos (by omega), if_pos (by omega)]
  simp only [Option.bind_some, show ((-1 : Int) * 86400000 + 86399999) = -1 from rfl, if_true, bne_self_eq_false]
  simp only [ephemerislaw1_LineInstants.j0, Bool.false_eq_true, if_false]
  rw [line_Instant_f, ephemerisref1_Day_f, ephemerisref1_In_f, instants_two 99 (by omega) ht0 ht1]
  simp only [Option.bind_some, decide_eq_true_eq]
  by_cases h : -4000000 ≤ x ∧ x ≤ 4000000
  · rw [if_pos h, if_pos h]
    by_cases h2 : 0 ≤ m ∧ m ≤ 86399999
    · rw [if_pos h2, if_pos h2, w64_id (n := 86400000 * x) (by omega) (by omega), w64_id (by omega) (by omega), if_pos rfl, if_pos (by omega)]
    · rw [if_neg h2, if_neg h2]; rfl
  · rw [if_neg h, if_neg h]; rfl
end Go.Proofs.Ytmnemnoaijldjaa.Pure
