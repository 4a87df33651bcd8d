/- The law ForecastChecks over numbers and lists: what the law's functions tell, and that the law holds. -/
import Derived.Test.YtpkgpohjmcoplaaDoorPForecastChecksx3
import Derived.Test.YtpkgpohjmcoplaaDoorM
import Derived.Test.YtpkgpohjmcoplaaDoorT
import Derived.Test.YtpkgpohjmcoplaaDoorZ
import Derived.Test.YtpkgpohjmcoplaaDoorO
namespace Go.Proofs.YtpkgpohjmcoplaaDoor.Pure
open Go.RowKit Go.Proofs.YtpkgpohjmcoplaaDoor.PForecastChecks Go.Proofs.YtpkgpohjmcoplaaDoorW.PrintWords Go.Proofs.YtpkgpohjmcoplaaDoorW.PrintLast Go.Proofs.YtpkgpohjmcoplaaDoor.M Go.Proofs.YtpkgpohjmcoplaaDoor.T Go.Proofs.YtpkgpohjmcoplaaDoor.Z Go.Proofs.YtpkgpohjmcoplaaDoor.O
set_option linter.unusedVariables false
set_option linter.unusedSimpArgs false
/-- The law over numbers and lists. -/
def ephemerislaw1_ForecastChecks.Pure : Prop := ∀ (l0 : List (S25)), (l0.length * 56 ≤ 140737488351232 ∧ l0.length ≤ 9223372036854775807 ∧ ∀ v ∈ l0, ((Lit.int .i64 v.f0).wf = true ∧ (Lit.int .i64 v.f1).wf = true ∧ (Lit.int .i64 v.f2).wf = true ∧ (Lit.int .i64 v.f3).wf = true ∧ (Lit.int .i64 v.f4).wf = true ∧ v.f5.size ≤ 140737488351232)) → ∃ k, ephemerislaw1_ForecastChecks.f k l0 = some true

theorem zone_IsOffset_f (x : Int) : zone_IsOffset.f x = some (okOff x) := by
  unfold zone_IsOffset.f okOff
  rw [tmod_thousand]
  by_cases h1 : x ≥ (-64800000)
  · rw [if_pos h1]
    by_cases h2 : x ≤ 64800000
    · rw [if_pos h2]; congr 1
      by_cases c : x % 1000 = 0
      · rw [decide_eq_true c, decide_eq_true ⟨by omega, h2, c⟩]
      · rw [decide_eq_false c, decide_eq_false (fun h => c h.2.2)]
    · rw [if_neg h2, decide_eq_false (fun h => h2 h.2.1)]
  · rw [if_neg h1, decide_eq_false (fun h => h1 (by omega))]

theorem zone_IsLabel_f (s : ByteArray) : zone_IsLabel.f s = some (isLabel s) := by
  have e : zone_IsLabel.all s.data.toList = caps s.data.toList := rfl
  unfold zone_IsLabel.f isLabel
  rw [e]
  congr 1
  by_cases h1 : (s.size : Int) < 1
  · rw [if_pos h1, decide_eq_false (show ¬ (1 ≤ s.size ∧ s.size ≤ 6) by omega)]; rfl
  rw [if_neg h1]
  by_cases h2 : (s.size : Int) > 6
  · rw [if_pos h2, decide_eq_false (show ¬ (1 ≤ s.size ∧ s.size ≤ 6) by omega)]; rfl
  rw [if_neg h2, decide_eq_true (show 1 ≤ s.size ∧ s.size ≤ 6 by omega)]
  rfl

/-- A rule whose numbers are out of range. -/
def zrBad (r : S25) : Bool := !(decide ((1 ≤ r.f0 ∧ r.f0 ≤ 12) ∧ (1 ≤ r.f1 ∧ r.f1 ≤ 5) ∧ (0 ≤ r.f2 ∧ r.f2 ≤ 6) ∧ (0 ≤ r.f3 ∧ r.f3 ≤ 86399999)) && okOff r.f4)
/-- The first fault of the rules from the i-th on (d of them). -/
def zrErr (l : List S25) : Nat → Nat → Int
  | 0, _ => 0
  | d + 1, i => if zrBad (l.getD i z25) = true then 3 else if isLabel (l.getD i z25).f5 = true then (if 0 < i ∧ (l.getD i z25).f0 ≤ (l.getD (i - 1) z25).f0 then 9 else zrErr l d (i + 1)) else 8
/-- What both checks of rules tell. -/
def zrAll (l : List S25) : Int := if 1 ≤ l.length ∧ l.length ≤ 4 then zrErr l l.length 0 else 2

theorem forecast_Check_j2 (l : List S25) (hl : l.length ≤ 4) (i : Nat) (hi : i < l.length) (k : Nat) :
    forecast_Check.j2 (k + 1) l (i : Int) l (l.length : Int) (i : Int) (zrBad (l.getD i z25)) (l.getD i z25).f0 (l.getD i z25).f1 (l.getD i z25).f2 (l.getD i z25).f3 (l.getD i z25).f4 (l.getD i z25).f5
      = if zrBad (l.getD i z25) = true then some 3 else if isLabel (l.getD i z25).f5 = true then (if 0 < i ∧ (l.getD i z25).f0 ≤ (l.getD (i - 1) z25).f0 then some 9 else forecast_Check.l0 k l l (l.length : Int) ((i + 1 : Nat) : Int)) else some 8 := by
  simp only [forecast_Check.j2]
  by_cases h : zrBad (l.getD i z25) = true
  · rw [if_pos h, if_pos h]
  rw [if_neg h, if_neg h, zone_IsLabel_f, Option.bind_some]
  by_cases h2 : isLabel (l.getD i z25).f5 = true
  · rw [if_pos h2, if_pos h2, w64_id (n := (i : Int) + 1) (by omega) (by omega)]
    by_cases h3 : 0 < i
    · rw [if_pos (by omega), w64_id (n := (i : Int) - 1) (by omega) (by omega), if_pos (by omega), if_pos (by omega)]
      rw [show rd_T25 l ((i : Int) - 1) = l.getD (i - 1) z25 from by unfold rd_T25; rw [show ((i : Int) - 1).toNat = i - 1 by omega]]
      by_cases h4 : (l.getD i z25).f0 ≤ (l.getD (i - 1) z25).f0
      · rw [if_pos h4, if_pos ⟨h3, h4⟩]
      · rw [if_neg h4, if_neg (fun g => h4 g.2)]; rfl
    · rw [if_neg (by omega), if_neg (fun g => h3 g.1)]; rfl
  · rw [if_neg h2, if_neg h2]
theorem forecast_Check_l0 (l : List S25) (hl : l.length ≤ 4) : ∀ (d i k : Nat), i + d = l.length → 2 * d < k → forecast_Check.l0 k l l (l.length : Int) (i : Int) = some (zrErr l d i) := by
  intro d
  induction d with
  | zero =>
    intro i k hi hk
    obtain ⟨k, rfl⟩ : ∃ m, k = m + 1 := ⟨k - 1, by omega⟩
    simp only [forecast_Check.l0]
    rw [if_neg (by omega)]; rfl
  | succ d ih =>
    intro i k hi hk
    obtain ⟨k, rfl⟩ : ∃ m, k = m + 2 := ⟨k - 2, by omega⟩
    rw [show k + 2 = (k + 1) + 1 from rfl]
    simp only [forecast_Check.l0]
    rw [if_pos (by omega), if_pos (by omega), if_pos (by omega), show rd_T25 l (i : Int) = l.getD i z25 from rfl, zone_IsOffset_f, Option.bind_some]
    have hj := forecast_Check_j2 l hl i (by omega) k
    rw [ih (i + 1) k (by omega) (by omega)] at hj
    unfold zrErr
    generalize hr : l.getD i z25 = r at hj ⊢
    have hb : ∀ t, t = zrBad r → forecast_Check.j2 (k + 1) l (i : Int) l (l.length : Int) (i : Int) t r.f0 r.f1 r.f2 r.f3 r.f4 r.f5 = some (if zrBad r = true then 3 else if isLabel r.f5 = true then (if 0 < i ∧ r.f0 ≤ (l.getD (i - 1) z25).f0 then 9 else zrErr l d (i + 1)) else 8) := by
      intro t ht
      subst ht
      rw [hj]
      split
      · rfl
      · split
        · split
          · rfl
          · rfl
        · rfl
    have bad : ¬ ((1 ≤ r.f0 ∧ r.f0 ≤ 12) ∧ (1 ≤ r.f1 ∧ r.f1 ≤ 5) ∧ (0 ≤ r.f2 ∧ r.f2 ≤ 6) ∧ (0 ≤ r.f3 ∧ r.f3 ≤ 86399999)) → true = zrBad r := by
      intro h; unfold zrBad; rw [decide_eq_false h]; rfl
    by_cases c1 : r.f0 < 1
    · rw [if_pos c1]; exact hb _ (bad (by omega))
    rw [if_neg c1]
    by_cases c2 : r.f0 > 12
    · rw [if_pos c2]; exact hb _ (bad (by omega))
    rw [if_neg c2]
    by_cases c3 : r.f1 < 1
    · rw [if_pos c3]; exact hb _ (bad (by omega))
    rw [if_neg c3]
    by_cases c4 : r.f1 > 5
    · rw [if_pos c4]; exact hb _ (bad (by omega))
    rw [if_neg c4]
    by_cases c5 : r.f2 < 0
    · rw [if_pos c5]; exact hb _ (bad (by omega))
    rw [if_neg c5]
    by_cases c6 : r.f2 > 6
    · rw [if_pos c6]; exact hb _ (bad (by omega))
    rw [if_neg c6]
    by_cases c7 : r.f3 < 0
    · rw [if_pos c7]; exact hb _ (bad (by omega))
    rw [if_neg c7]
    by_cases c8 : r.f3 ≥ 86400000
    · rw [if_pos c8]; exact hb _ (bad (by omega))
    rw [if_neg c8]
    exact hb _ (by unfold zrBad; rw [decide_eq_true ⟨⟨by omega, by omega⟩, ⟨by omega, by omega⟩, ⟨by omega, by omega⟩, by omega, by omega⟩, Bool.true_and])
theorem forecast_Check_f (l : List S25) (k : Nat) (hk : 20 ≤ k) : forecast_Check.f k l = some (zrAll l) := by
  obtain ⟨k, rfl⟩ : ∃ m, k = m + 1 := ⟨k - 1, by omega⟩
  unfold forecast_Check.f zrAll
  by_cases h1 : (l.length : Int) < 1
  · rw [if_pos h1, if_neg (by omega)]; simp only [forecast_Check.j0, if_true]
  rw [if_neg h1]
  simp only [forecast_Check.j0, decide_eq_true_eq]
  by_cases h2 : (l.length : Int) > 4
  · rw [if_pos h2, if_neg (by omega)]
  · rw [if_neg h2, if_pos (by omega)]
    exact forecast_Check_l0 l (by omega) l.length 0 k (by omega) (by omega)

theorem ephemerisref1_In_f (x lo hi : Int) : ephemerisref1_In.f x lo hi = some (decide (lo ≤ x ∧ x ≤ hi)) := by
  unfold ephemerisref1_In.f
  by_cases h : x ≥ lo
  · rw [if_pos h]; congr 1; simp; omega
  · rw [if_neg h]; congr 1; simp; omega

theorem ephemerisref1_Size_f {a : Int} (h0 : -9223372036854775808 ≤ a) (h1 : a ≤ 9223372036854775807) : ephemerisref1_Size.f a = some (ab a) := by
  unfold ephemerisref1_Size.f ab
  by_cases c : a < 0
  · rw [if_pos c, if_pos c, w64_id (n := a + 1) (by omega) (by omega), w64_id (n := -(a + 1)) (by omega) (by omega), u64_id (n := -(a + 1)) (by omega) (by omega), u64_id (by omega) (by omega)]
    congr 1; omega
  · rw [if_neg c, if_neg c, u64_id (by omega) (by omega)]

theorem ephemerisref1_Div_l0 (X Y : Int) (hX : 0 ≤ X) (hX1 : X < 18446744073709551616) (hY : 0 < Y) (hY1 : Y ≤ 9223372036854775808) :
    ∀ (n k : Nat), n ≤ 64 → n < k → ephemerisref1_Div.l0 k X Y (X / 2 ^ n / Y * 2 ^ n) (X / 2 ^ n % Y) ((n : Int) - 1) = some (X / Y, X % Y) := by
  intro n
  induction n with
  | zero =>
    intro k _ hk
    obtain ⟨k, rfl⟩ : ∃ m, k = m + 1 := ⟨k - 1, by omega⟩
    simp only [ephemerisref1_Div.l0]
    rw [if_neg (by omega)]
    simp
  | succ n ih =>
    intro k hn hk
    obtain ⟨k, rfl⟩ : ∃ m, k = m + 1 := ⟨k - 1, by omega⟩
    have ih := ih k (by omega) (by omega)
    have hhp := half_pow X n
    have hpow : (2 : Int) ^ (n + 1) = 2 * 2 ^ n := by rw [Int.pow_succ, Int.mul_comm]
    have hpp := pow_pos' n
    have hp63 := pow_le_63 n (by omega)
    have hd1 := div_pow_le X Y (n + 1) hX hY
    have hd0 := div_pow_le X Y n hX hY
    have hz : 0 ≤ X / 2 ^ n := Int.ediv_nonneg hX (by omega)
    obtain ⟨s1, s2⟩ := long_step (X / 2 ^ n) Y hz hY
    rw [← hhp] at s1 s2
    have r0 := Int.emod_nonneg (X / 2 ^ (n + 1)) (b := Y) (by omega)
    have r1 := Int.emod_lt_of_pos (X / 2 ^ (n + 1)) hY
    have hshr : shr .u64 X ((n : Int) + 1 - 1) = X / 2 ^ n := by
      rw [show (n : Int) + 1 - 1 = n from by omega]; exact shr_pow X n (by omega)
    have hshl : shl .u64 1 ((n : Int) + 1 - 1) = 2 ^ n := by
      rw [show (n : Int) + 1 - 1 = n from by omega]; exact shl_one n (by omega)
    have hzx : X / 2 ^ n ≤ X := Int.ediv_le_self _ hX
    have hmod : (X / 2 ^ (n + 1) / Y * 2 ^ (n + 1)) % 2 ^ (n + 1) = 0 := Int.mul_emod_left _ _
    have hor : Go.bits .or .u64 (X / 2 ^ (n + 1) / Y * 2 ^ (n + 1)) (2 ^ n) = X / 2 ^ (n + 1) / Y * 2 ^ (n + 1) + 2 ^ n :=
      or_join (n + 1) _ _ hd1.1 (by omega) hmod (by omega) (by omega) (by omega)
    have q2 : X / 2 ^ (n + 1) / Y * 2 ^ (n + 1) = 2 * (X / 2 ^ (n + 1) / Y) * 2 ^ n := by
      rw [hpow, Int.mul_comm 2 (X / (2 * 2 ^ n) / Y), Int.mul_assoc]
    generalize hR : X / 2 ^ (n + 1) % Y = R at *
    generalize hQ : X / 2 ^ (n + 1) / Y * 2 ^ (n + 1) = Q at *
    simp only [ephemerisref1_Div.l0]
    rw [show (((n + 1 : Nat) : Int) - 1) = (n : Int) + 1 - 1 from by omega]
    rw [if_pos (by omega), hshr, hshl, hor, w64_id (n := (n : Int) + 1 - 1 - 1) (by omega) (by omega), show (n : Int) + 1 - 1 - 1 = (n : Int) - 1 from by omega]
    rw [Go.Proofs.YtpkgpohjmcoplaaDoor.M.and_one _ hz (by omega), u64_id (n := R * 2) (by omega) (by omega)]
    have hbit := Int.emod_nonneg (X / 2 ^ n) (b := 2) (by omega)
    have hbit1 := Int.emod_lt_of_pos (X / 2 ^ n) (b := 2) (by omega)
    rw [or_join 1 (R * 2) _ (by omega) (by omega) (by simp only [Int.reducePow]; omega) hbit (by simp only [Int.reducePow]; omega) (by omega)]
    rw [if_neg (by omega)]
    rw [show R * 2 + X / 2 ^ n % 2 = 2 * R + X / 2 ^ n % 2 from by omega]
    by_cases c : Y ≤ 2 * R + X / 2 ^ n % 2
    · rw [if_pos c, u64_id (by omega) (by omega)]
      have e := s1 c
      rw [e.1, e.2, Int.add_mul, Int.one_mul, ← q2] at ih
      exact ih
    · rw [if_neg c]
      have e := s2 c
      rw [e.1, e.2, ← q2] at ih
      exact ih
theorem ephemerisref1_Div_f {a b : Int} (k : Nat) (hk : 65 ≤ k) (ha : -9223372036854775808 ≤ a) (ha1 : a ≤ 9223372036854775807) (hb : -9223372036854775808 ≤ b) (hb1 : b ≤ 9223372036854775807) : ephemerisref1_Div.f k a b = some (divs a b) := by
  unfold ephemerisref1_Div.f
  by_cases c : b = 0
  · rw [if_pos c]; unfold divs; rw [if_pos c]
  rw [if_neg c, ephemerisref1_Size_f ha ha1, ephemerisref1_Size_f hb hb1]
  simp only [Option.bind_some]
  have hX := ab_nonneg a
  have hX1 := ab_le ha ha1
  have hY1 := ab_le hb hb1
  have hY : 0 < ab b := by unfold ab; split <;> omega
  have h64 := ephemerisref1_Div_l0 (ab a) (ab b) hX (by omega) hY hY1 64 k (by omega) (by omega)
  have hz : ab a / 2 ^ 64 = 0 := Int.ediv_eq_zero_of_lt hX (by simp only [Int.reducePow]; omega)
  rw [hz] at h64
  simp only [Int.zero_ediv, Int.zero_mul, Int.zero_emod] at h64
  rw [show (((64 : Nat) : Int) - 1) = 63 from by omega] at h64
  rw [h64]
  simp only [Option.bind_some, Option.some.injEq]
  have h1 := Int.mul_ediv_add_emod (ab a) (ab b)
  have h2 := Int.emod_nonneg (ab a) (b := ab b) (by omega)
  have h3 := Int.emod_lt_of_pos (ab a) hY
  have h4 : ab a / ab b ≤ ab a := Int.ediv_le_self _ hX
  have h5 : 0 ≤ ab a / ab b := Int.ediv_nonneg hX (by omega)
  have h6 : 2 ≤ ab b → ab a / ab b ≤ 4611686018427387904 := fun h => by
    have : ab a / ab b ≤ ab a / 2 := by
      have := Int.ediv_le_ediv (c := 2) (by omega) (a := ab a / ab b * 2) (b := ab a) (by
        have : ab a / ab b * 2 ≤ ab a / ab b * ab b := Int.mul_le_mul_of_nonneg_left h h5
        rw [Int.mul_comm (ab b)] at h1
        omega)
      omega
    omega
  have h7 : ab b = 1 → ab a / ab b = ab a ∧ ab a % ab b = 0 := fun h => by rw [h]; omega
  have uniq : ∀ {q r : Int}, a = b * q + r → (0 < b → 0 ≤ r ∧ r < b) → (b < 0 → b < r ∧ r ≤ 0) → ¬ (a = -9223372036854775808 ∧ b = -1) → divs a b = (q, r, 0) := by
    intro q r e1 e2 e3 e4
    have := fd_uniq e1 e2 e3 c
    unfold divs
    rw [if_neg c, if_neg e4, this.1, this.2]
  generalize hq : ab a / ab b = q at *
  generalize hr : ab a % ab b = r at *
  clear h64 hz
  have eY : ∀ s : Int, (-(ab b)) * s = -(ab b * s) := fun s => by rw [Int.neg_mul]
  by_cases sa : a < 0 <;> by_cases sb : b < 0
  · have xa : a = -(ab a) := by unfold ab; rw [if_pos sa]; omega
    have xb : b = -(ab b) := by unfold ab; rw [if_pos sb]; omega
    simp only [ephemerisref1_Div.e0, ephemerisref1_Div.e1, sa, sb, decide_true, bne_self_eq_false, Bool.false_eq_true, false_and, if_false, true_and, if_true]
    by_cases c2 : q > 9223372036854775807
    · rw [if_pos c2]
      unfold divs
      have : ab b = 1 := by
        by_cases h : 2 ≤ ab b
        · have := h6 h; omega
        · omega
      rw [if_neg c, if_pos (by omega)]
    · rw [if_neg c2, w64_id (by omega) (by omega), u64_def, w64_def]
      rw [uniq (q := q) (r := -r) (by rw [xb, eY]; omega) (by omega) (by omega) (fun h => by have := h7 (by omega); omega)]
      congr 2; omega
  · have xa : a = -(ab a) := by unfold ab; rw [if_pos sa]; omega
    have xb : b = ab b := by unfold ab; rw [if_neg sb]
    simp only [ephemerisref1_Div.e0, ephemerisref1_Div.e1, sa, sb, decide_true, decide_false, Bool.bne_false, Bool.false_eq_true, true_and, if_true, Bool.true_eq_false, false_and, if_false]
    by_cases c2 : r = 0
    · rw [if_neg (fun h => h c2), u64_def, w64_def, w64_id (by omega) (by omega)]
      rw [uniq (q := -q) (r := 0) (by rw [xb, Int.mul_neg]; omega) (by omega) (by omega) (by omega)]
      rw [c2]
      congr 1; omega
    · rw [if_pos c2, u64_id (n := q + 1) (by omega) (by omega), u64_id (n := ab b - r) (by omega) (by omega), u64_def, w64_def, w64_id (by omega) (by omega)]
      have : q ≤ 9223372036854775807 := by
        by_cases h : 2 ≤ ab b
        · have := h6 h; omega
        · have := h7 (by omega); omega
      have eb : b * q = ab b * q := by rw [← xb]
      rw [uniq (q := -(q + 1)) (r := ab b - r) (by rw [Int.mul_neg, Int.mul_add, Int.mul_one, eb]; omega) (by omega) (by omega) (by omega)]
      congr 1; omega
  · have xa : a = ab a := by unfold ab; rw [if_neg sa]
    have xb : b = -(ab b) := by unfold ab; rw [if_pos sb]; omega
    simp only [ephemerisref1_Div.e0, ephemerisref1_Div.e1, sa, sb, decide_true, decide_false, Bool.bne_true, Bool.not_false, Bool.false_eq_true, true_and, if_true, Bool.true_eq_false, false_and, if_false]
    by_cases c2 : r = 0
    · rw [if_neg (fun h => h c2), u64_def, w64_def, u64_def, w64_def]
      rw [uniq (q := -q) (r := 0) (by rw [xb, eY, Int.mul_neg]; omega) (by omega) (by omega) (by omega)]
      rw [c2]
      congr 1
      omega
    · rw [if_pos c2, u64_id (n := q + 1) (by omega) (by omega), u64_id (n := ab b - r) (by omega) (by omega), u64_def, w64_def, u64_def, w64_def]
      have eb := eY q
      rw [← xb] at eb
      rw [uniq (q := -(q + 1)) (r := -(ab b - r)) (by rw [Int.mul_neg, Int.mul_add, Int.mul_one, eb]; omega) (by omega) (by omega) (by omega)]
      congr 1
      · omega
      · congr 1; omega
  · have xa : a = ab a := by unfold ab; rw [if_neg sa]
    have xb : b = ab b := by unfold ab; rw [if_neg sb]
    simp only [ephemerisref1_Div.e0, ephemerisref1_Div.e1, sa, sb, decide_false, bne_self_eq_false, Bool.false_eq_true, false_and, if_false, true_and]
    rw [if_neg (by omega), w64_id (by omega) (by omega), w64_id (by omega) (by omega)]
    rw [uniq (q := q) (r := r) (by rw [xb]; omega) (by omega) (by omega) (by omega)]

theorem ephemerisref1_Mod_f {a b : Int} (k : Nat) (hk : 65 ≤ k) (ha : -9223372036854775808 ≤ a) (ha1 : a ≤ 9223372036854775807) (hb : 0 < b) (hb1 : b ≤ 9223372036854775807) : ephemerisref1_Mod.f k a b = some (a % b) := by
  unfold ephemerisref1_Mod.f
  rw [ephemerisref1_Div_f k hk ha ha1 (by omega) hb1, divs_pos hb]
  rfl

theorem ephemerisref1_Offset_f (x : Int) (k : Nat) (hk : 65 ≤ k) : ephemerisref1_Offset.f k x = some (okOff x) := by
  unfold ephemerisref1_Offset.f okOff
  rw [ephemerisref1_In_f, Option.bind_some]
  by_cases h : -64800000 ≤ x ∧ x ≤ 64800000
  · rw [decide_eq_true h, if_pos rfl, ephemerisref1_Mod_f k hk (by omega) (by omega) (by omega) (by omega), Option.bind_some]
    congr 1
    by_cases c : x % 1000 = 0
    · rw [decide_eq_true ⟨h.1, h.2, c⟩, c]; rfl
    · rw [decide_eq_false (fun g => c g.2.2)]; simpa using c
  · rw [decide_eq_false h, if_neg (by decide), decide_eq_false (fun g => h ⟨g.1, g.2.1⟩)]

theorem ephemerisref1_Label_f (s : ByteArray) : ephemerisref1_Label.f s = some (isLabel s) := by
  unfold ephemerisref1_Label.f isLabel
  rw [ephemerisref1_In_f, Option.bind_some]
  by_cases h : 1 ≤ s.size ∧ s.size ≤ 6
  · rw [decide_eq_true (show (1 : Int) ≤ (s.size : Int) ∧ (s.size : Int) ≤ 6 by omega), if_pos rfl, decide_eq_true h]
    unfold strings_Trim.f
    rw [if_pos ⟨by omega, by decide, by decide⟩, Option.bind_some]
    congr 1
    rw [Bool.true_and, toList_data]
    show (Go.Lib.trimS s.data.toList abc == []) = caps s.data.toList
    by_cases c : caps s.data.toList = true
    · rw [c, (trim_caps _).2 c]; rfl
    · rw [Bool.not_eq_true] at c
      rw [c, beq_eq_false_iff_ne]
      intro e
      rw [(trim_caps _).1 e] at c
      cases c
  · rw [decide_eq_false (show ¬ ((1 : Int) ≤ (s.size : Int) ∧ (s.size : Int) ≤ 6) by omega), if_neg (by decide), decide_eq_false h]; rfl

theorem ephemerisref1_ZoneRulesError_j1 (l : List S25) (hl : l.length ≤ 4) (i : Nat) (hi : i < l.length) (k : Nat) :
    ephemerisref1_ZoneRulesError.j1 (k + 1) l (i : Int) l (l.length : Int) (i : Int) (zrBad (l.getD i z25)) (l.getD i z25).f0 (l.getD i z25).f1 (l.getD i z25).f2 (l.getD i z25).f3 (l.getD i z25).f4 (l.getD i z25).f5
      = if zrBad (l.getD i z25) = true then some 3 else if isLabel (l.getD i z25).f5 = true then (if 0 < i ∧ (l.getD i z25).f0 ≤ (l.getD (i - 1) z25).f0 then some 9 else ephemerisref1_ZoneRulesError.l0 k l l (l.length : Int) ((i + 1 : Nat) : Int)) else some 8 := by
  simp only [ephemerisref1_ZoneRulesError.j1]
  by_cases h : zrBad (l.getD i z25) = true
  · rw [if_pos h, if_pos h]
  rw [if_neg h, if_neg h, ephemerisref1_Label_f, Option.bind_some]
  by_cases h2 : isLabel (l.getD i z25).f5 = true
  · rw [if_pos h2, if_pos h2, w64_id (n := (i : Int) + 1) (by omega) (by omega)]
    by_cases h3 : 0 < i
    · rw [if_pos (by omega), w64_id (n := (i : Int) - 1) (by omega) (by omega), if_pos (by omega), if_pos (by omega)]
      rw [show rd_T25 l ((i : Int) - 1) = l.getD (i - 1) z25 from by unfold rd_T25; rw [show ((i : Int) - 1).toNat = i - 1 by omega]]
      by_cases h4 : (l.getD i z25).f0 ≤ (l.getD (i - 1) z25).f0
      · rw [if_pos (show _ ≥ _ from h4), if_pos ⟨h3, h4⟩]
      · rw [if_neg (show ¬ _ ≥ _ from h4), if_neg (fun g => h4 g.2)]; rfl
    · rw [if_neg (by omega), if_neg (fun g => h3 g.1)]; rfl
  · rw [if_neg h2, if_neg h2]
theorem ephemerisref1_ZoneRulesError_l0 (l : List S25) (hl : l.length ≤ 4) : ∀ (d i k : Nat), i + d = l.length → 2 * d + 70 < k → ephemerisref1_ZoneRulesError.l0 k l l (l.length : Int) (i : Int) = some (zrErr l d i) := by
  intro d
  induction d with
  | zero =>
    intro i k hi hk
    obtain ⟨k, rfl⟩ : ∃ m, k = m + 1 := ⟨k - 1, by omega⟩
    simp only [ephemerisref1_ZoneRulesError.l0]
    rw [if_neg (by omega)]; rfl
  | succ d ih =>
    intro i k hi hk
    obtain ⟨k, rfl⟩ : ∃ m, k = m + 2 := ⟨k - 2, by omega⟩
    rw [show k + 2 = (k + 1) + 1 from rfl]
    simp only [ephemerisref1_ZoneRulesError.l0]
    rw [if_pos (by omega), if_pos (by omega), if_pos (by omega), show rd_T25 l (i : Int) = l.getD i z25 from rfl, ephemerisref1_In_f, Option.bind_some]
    have hj := ephemerisref1_ZoneRulesError_j1 l hl i (by omega) k
    rw [ih (i + 1) k (by omega) (by omega)] at hj
    unfold zrErr
    generalize hr : l.getD i z25 = r at hj ⊢
    have hb : ∀ t, t = zrBad r → ephemerisref1_ZoneRulesError.j1 (k + 1) l (i : Int) l (l.length : Int) (i : Int) t r.f0 r.f1 r.f2 r.f3 r.f4 r.f5 = some (if zrBad r = true then 3 else if isLabel r.f5 = true then (if 0 < i ∧ r.f0 ≤ (l.getD (i - 1) z25).f0 then 9 else zrErr l d (i + 1)) else 8) := by
      intro t ht
      subst ht
      rw [hj]
      split
      · rfl
      · split
        · split
          · rfl
          · rfl
        · rfl
    have bad : ¬ ((1 ≤ r.f0 ∧ r.f0 ≤ 12) ∧ (1 ≤ r.f1 ∧ r.f1 ≤ 5) ∧ (0 ≤ r.f2 ∧ r.f2 ≤ 6) ∧ (0 ≤ r.f3 ∧ r.f3 ≤ 86399999)) → true = zrBad r := by
      intro h; unfold zrBad; rw [decide_eq_false h]; rfl
    by_cases c1 : 1 ≤ r.f0 ∧ r.f0 ≤ 12
    · rw [decide_eq_true c1, if_pos rfl, ephemerisref1_In_f, Option.bind_some]
      by_cases c2 : 1 ≤ r.f1 ∧ r.f1 ≤ 5
      · rw [decide_eq_true c2, if_pos rfl, ephemerisref1_In_f, Option.bind_some]
        by_cases c3 : 0 ≤ r.f2 ∧ r.f2 ≤ 6
        · rw [decide_eq_true c3, if_pos rfl, ephemerisref1_In_f, Option.bind_some]
          by_cases c4 : 0 ≤ r.f3 ∧ r.f3 ≤ 86399999
          · rw [decide_eq_true c4, if_pos rfl, ephemerisref1_Offset_f _ (k + 1) (by omega), Option.bind_some]
            exact hb _ (by unfold zrBad; rw [decide_eq_true ⟨c1, c2, c3, c4⟩, Bool.true_and])
          · rw [decide_eq_false c4, if_neg (by decide)]; exact hb _ (bad (fun h => c4 h.2.2.2))
        · rw [decide_eq_false c3, if_neg (by decide)]; exact hb _ (bad (fun h => c3 h.2.2.1))
      · rw [decide_eq_false c2, if_neg (by decide)]; exact hb _ (bad (fun h => c2 h.2.1))
    · rw [decide_eq_false c1, if_neg (by decide)]; exact hb _ (bad (fun h => c1 h.1))
theorem ephemerisref1_ZoneRulesError_f (l : List S25) (k : Nat) (hk : 100 ≤ k) : ephemerisref1_ZoneRulesError.f k l = some (zrAll l) := by
  unfold ephemerisref1_ZoneRulesError.f zrAll
  rw [ephemerisref1_In_f, Option.bind_some]
  by_cases h : 1 ≤ l.length ∧ l.length ≤ 4
  · rw [decide_eq_true (show (1 : Int) ≤ (l.length : Int) ∧ (l.length : Int) ≤ 4 by omega), if_pos rfl, if_pos h]
    exact ephemerisref1_ZoneRulesError_l0 l h.2 l.length 0 k (by omega) (by omega)
  · rw [decide_eq_false (show ¬ ((1 : Int) ≤ (l.length : Int) ∧ (l.length : Int) ≤ 4) by omega), if_neg (by decide), if_neg h]

theorem ForecastChecks : ephemerislaw1_ForecastChecks.Pure := by
  intro l _
  obtain ⟨K, hK⟩ : ∃ K : Nat, 1000 ≤ K := ⟨_, Nat.le_refl _⟩
  refine ⟨K, ?_⟩
  unfold ephemerislaw1_ForecastChecks.f ephemerislaw1_summer.f
  rw [Option.bind_some, if_pos (by decide), Option.bind_some, forecast_Check_f _ K (by omega), forecast_Check_f _ K (by omega), Option.bind_some, if_pos (by decide +kernel), Option.bind_some]
  obtain ⟨k, rfl⟩ : ∃ m, K = m + 1 := ⟨K - 1, by omega⟩
  simp only [ephemerislaw1_ForecastChecks.j0]
  rw [if_neg (by decide +kernel), forecast_Check_f _ k (by omega), ephemerisref1_ZoneRulesError_f _ k (by omega), Option.bind_some, Option.bind_some]
  simp
end Go.Proofs.YtpkgpohjmcoplaaDoor.Pure
