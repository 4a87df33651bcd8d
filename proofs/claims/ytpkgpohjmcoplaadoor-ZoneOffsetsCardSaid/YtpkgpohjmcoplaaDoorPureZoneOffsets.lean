/- The law ZoneOffsets over numbers and lists: what the law's functions tell, and that the law holds. -/
import Derived.Test.YtpkgpohjmcoplaaDoorPZoneOffsetsx6
import Derived.Test.YtpkgpohjmcoplaaDoorM
import Derived.Test.YtpkgpohjmcoplaaDoorT
import Derived.Test.YtpkgpohjmcoplaaDoorZ
import Derived.Test.YtpkgpohjmcoplaaDoorO
namespace Go.Proofs.YtpkgpohjmcoplaaDoor.Pure
open Go.RowKit Go.Proofs.YtpkgpohjmcoplaaDoor.PZoneOffsets Go.Proofs.YtpkgpohjmcoplaaDoorW.PrintWords Go.Proofs.YtpkgpohjmcoplaaDoorW.PrintLast Go.Proofs.YtpkgpohjmcoplaaDoor.M Go.Proofs.YtpkgpohjmcoplaaDoor.T Go.Proofs.YtpkgpohjmcoplaaDoor.Z Go.Proofs.YtpkgpohjmcoplaaDoor.O
set_option linter.unusedVariables false
set_option linter.unusedSimpArgs false
/-- The law over numbers and lists. -/
def ephemerislaw1_ZoneOffsets.Pure : Prop := ∀ (a0_0 : ByteArray) (a0_1 : Int) (l0_2 : List (S47)) (a1 : Int), a0_0.size ≤ 140737488351232 → (Lit.int .i64 a0_1).wf = true → (l0_2.length * 32 ≤ 140737488351232 ∧ l0_2.length ≤ 9223372036854775807 ∧ ∀ v ∈ l0_2, ((Lit.int .i64 v.f0).wf = true ∧ (Lit.int .i64 v.f1).wf = true ∧ v.f2.size ≤ 140737488351232)) → (Lit.int .i64 a1).wf = true → ∃ k, ephemerislaw1_ZoneOffsets.f k a0_0 a0_1 l0_2 a1 = some true

theorem ephemerisref1_Size_f {a : Int} (h0 : -9223372036854775808 ≤ a) (h1 : a ≤ 9223372036854775807) : ephemerisref1_Size.f a = some (ab a) := by
  unfold ephemerisref1_Size.f ab
  by_cases c : a < 0
  · rw [if_pos c, if_pos c, w64_id (n := a + 1) (by omega) (by omega), w64_id (n := -(a + 1)) (by omega) (by omega), u64_id (n := -(a + 1)) (by omega) (by omega), u64_id (by omega) (by omega)]
    congr 1; omega
  · rw [if_neg c, if_neg c, u64_id (by omega) (by omega)]

theorem ephemerisref1_Div_l0 (X Y : Int) (hX : 0 ≤ X) (hX1 : X < 18446744073709551616) (hY : 0 < Y) (hY1 : Y ≤ 9223372036854775808) :
    ∀ (n k : Nat), n ≤ 64 → n < k → ephemerisref1_Div.l0 k X Y (X / 2 ^ n / Y * 2 ^ n) (X / 2 ^ n % Y) ((n : Int) - 1) = some (X / Y, X % Y) := by
  intro n
  induction n with
  | zero =>
    intro k _ hk
    obtain ⟨k, rfl⟩ : ∃ m, k = m + 1 := ⟨k - 1, by omega⟩
    simp only [ephemerisref1_Div.l0]
    rw [if_neg (by omega)]
    simp
  | succ n ih =>
    intro k hn hk
    obtain ⟨k, rfl⟩ : ∃ m, k = m + 1 := ⟨k - 1, by omega⟩
    have ih := ih k (by omega) (by omega)
    have hhp := half_pow X n
    have hpow : (2 : Int) ^ (n + 1) = 2 * 2 ^ n := by rw [Int.pow_succ, Int.mul_comm]
    have hpp := pow_pos' n
    have hp63 := pow_le_63 n (by omega)
    have hd1 := div_pow_le X Y (n + 1) hX hY
    have hd0 := div_pow_le X Y n hX hY
    have hz : 0 ≤ X / 2 ^ n := Int.ediv_nonneg hX (by omega)
    obtain ⟨s1, s2⟩ := long_step (X / 2 ^ n) Y hz hY
    rw [← hhp] at s1 s2
    have r0 := Int.emod_nonneg (X / 2 ^ (n + 1)) (b := Y) (by omega)
    have r1 := Int.emod_lt_of_pos (X / 2 ^ (n + 1)) hY
    have hshr : shr .u64 X ((n : Int) + 1 - 1) = X / 2 ^ n := by
      rw [show (n : Int) + 1 - 1 = n from by omega]; exact shr_pow X n (by omega)
    have hshl : shl .u64 1 ((n : Int) + 1 - 1) = 2 ^ n := by
      rw [show (n : Int) + 1 - 1 = n from by omega]; exact shl_one n (by omega)
    have hzx : X / 2 ^ n ≤ X := Int.ediv_le_self _ hX
    have hmod : (X / 2 ^ (n + 1) / Y * 2 ^ (n + 1)) % 2 ^ (n + 1) = 0 := Int.mul_emod_left _ _
    have hor : Go.bits .or .u64 (X / 2 ^ (n + 1) / Y * 2 ^ (n + 1)) (2 ^ n) = X / 2 ^ (n + 1) / Y * 2 ^ (n + 1) + 2 ^ n :=
      or_join (n + 1) _ _ hd1.1 (by omega) hmod (by omega) (by omega) (by omega)
    have q2 : X / 2 ^ (n + 1) / Y * 2 ^ (n + 1) = 2 * (X / 2 ^ (n + 1) / Y) * 2 ^ n := by
      rw [hpow, Int.mul_comm 2 (X / (2 * 2 ^ n) / Y), Int.mul_assoc]
    generalize hR : X / 2 ^ (n + 1) % Y = R at *
    generalize hQ : X / 2 ^ (n + 1) / Y * 2 ^ (n + 1) = Q at *
    simp only [ephemerisref1_Div.l0]
    rw [show (((n + 1 : Nat) : Int) - 1) = (n : Int) + 1 - 1 from by omega]
    rw [if_pos (by omega), hshr, hshl, hor, w64_id (n := (n : Int) + 1 - 1 - 1) (by omega) (by omega), show (n : Int) + 1 - 1 - 1 = (n : Int) - 1 from by omega]
    rw [Go.Proofs.YtpkgpohjmcoplaaDoor.M.and_one _ hz (by omega), u64_id (n := R * 2) (by omega) (by omega)]
    have hbit := Int.emod_nonneg (X / 2 ^ n) (b := 2) (by omega)
    have hbit1 := Int.emod_lt_of_pos (X / 2 ^ n) (b := 2) (by omega)
    rw [or_join 1 (R * 2) _ (by omega) (by omega) (by simp only [Int.reducePow]; omega) hbit (by simp only [Int.reducePow]; omega) (by omega)]
    rw [if_neg (by omega)]
    rw [show R * 2 + X / 2 ^ n % 2 = 2 * R + X / 2 ^ n % 2 from by omega]
    by_cases c : Y ≤ 2 * R + X / 2 ^ n % 2
    · rw [if_pos c, u64_id (by omega) (by omega)]
      have e := s1 c
      rw [e.1, e.2, Int.add_mul, Int.one_mul, ← q2] at ih
      exact ih
    · rw [if_neg c]
      have e := s2 c
      rw [e.1, e.2, ← q2] at ih
      exact ih
theorem ephemerisref1_Div_f {a b : Int} (k : Nat) (hk : 65 ≤ k) (ha : -9223372036854775808 ≤ a) (ha1 : a ≤ 9223372036854775807) (hb : -9223372036854775808 ≤ b) (hb1 : b ≤ 9223372036854775807) : ephemerisref1_Div.f k a b = some (divs a b) := by
  unfold ephemerisref1_Div.f
  by_cases c : b = 0
  · rw [if_pos c]; unfold divs; rw [if_pos c]
  rw [if_neg c, ephemerisref1_Size_f ha ha1, ephemerisref1_Size_f hb hb1]
  simp only [Option.bind_some]
  have hX := ab_nonneg a
  have hX1 := ab_le ha ha1
  have hY1 := ab_le hb hb1
  have hY : 0 < ab b := by unfold ab; split <;> omega
  have h64 := ephemerisref1_Div_l0 (ab a) (ab b) hX (by omega) hY hY1 64 k (by omega) (by omega)
  have hz : ab a / 2 ^ 64 = 0 := Int.ediv_eq_zero_of_lt hX (by simp only [Int.reducePow]; omega)
  rw [hz] at h64
  simp only [Int.zero_ediv, Int.zero_mul, Int.zero_emod] at h64
  rw [show (((64 : Nat) : Int) - 1) = 63 from by omega] at h64
  rw [h64]
  simp only [Option.bind_some, Option.some.injEq]
  have h1 := Int.mul_ediv_add_emod (ab a) (ab b)
  have h2 := Int.emod_nonneg (ab a) (b := ab b) (by omega)
  have h3 := Int.emod_lt_of_pos (ab a) hY
  have h4 : ab a / ab b ≤ ab a := Int.ediv_le_self _ hX
  have h5 : 0 ≤ ab a / ab b := Int.ediv_nonneg hX (by omega)
  have h6 : 2 ≤ ab b → ab a / ab b ≤ 4611686018427387904 := fun h => by
    have : ab a / ab b ≤ ab a / 2 := by
      have := Int.ediv_le_ediv (c := 2) (by omega) (a := ab a / ab b * 2) (b := ab a) (by
        have : ab a / ab b * 2 ≤ ab a / ab b * ab b := Int.mul_le_mul_of_nonneg_left h h5
        rw [Int.mul_comm (ab b)] at h1
        omega)
      omega
    omega
  have h7 : ab b = 1 → ab a / ab b = ab a ∧ ab a % ab b = 0 := fun h => by rw [h]; omega
  have uniq : ∀ {q r : Int}, a = b * q + r → (0 < b → 0 ≤ r ∧ r < b) → (b < 0 → b < r ∧ r ≤ 0) → ¬ (a = -9223372036854775808 ∧ b = -1) → divs a b = (q, r, 0) := by
    intro q r e1 e2 e3 e4
    have := fd_uniq e1 e2 e3 c
    unfold divs
    rw [if_neg c, if_neg e4, this.1, this.2]
  generalize hq : ab a / ab b = q at *
  generalize hr : ab a % ab b = r at *
  clear h64 hz
  have eY : ∀ s : Int, (-(ab b)) * s = -(ab b * s) := fun s => by rw [Int.neg_mul]
  by_cases sa : a < 0 <;> by_cases sb : b < 0
  · have xa : a = -(ab a) := by unfold ab; rw [if_pos sa]; omega
    have xb : b = -(ab b) := by unfold ab; rw [if_pos sb]; omega
    simp only [ephemerisref1_Div.e0, ephemerisref1_Div.e1, sa, sb, decide_true, bne_self_eq_false, Bool.false_eq_true, false_and, if_false, true_and, if_true]
    by_cases c2 : q > 9223372036854775807
    · rw [if_pos c2]
      unfold divs
      have : ab b = 1 := by
        by_cases h : 2 ≤ ab b
        · have := h6 h; omega
        · omega
      rw [if_neg c, if_pos (by omega)]
    · rw [if_neg c2, w64_id (by omega) (by omega), u64_def, w64_def]
      rw [uniq (q := q) (r := -r) (by rw [xb, eY]; omega) (by omega) (by omega) (fun h => by have := h7 (by omega); omega)]
      congr 2; omega
  · have xa : a = -(ab a) := by unfold ab; rw [if_pos sa]; omega
    have xb : b = ab b := by unfold ab; rw [if_neg sb]
    simp only [ephemerisref1_Div.e0, ephemerisref1_Div.e1, sa, sb, decide_true, decide_false, Bool.bne_false, Bool.false_eq_true, true_and, if_true, Bool.true_eq_false, false_and, if_false]
    by_cases c2 : r = 0
    · rw [if_neg (fun h => h c2), u64_def, w64_def, w64_id (by omega) (by omega)]
      rw [uniq (q := -q) (r := 0) (by rw [xb, Int.mul_neg]; omega) (by omega) (by omega) (by omega)]
      rw [c2]
      congr 1; omega
    · rw [if_pos c2, u64_id (n := q + 1) (by omega) (by omega), u64_id (n := ab b - r) (by omega) (by omega), u64_def, w64_def, w64_id (by omega) (by omega)]
      have : q ≤ 9223372036854775807 := by
        by_cases h : 2 ≤ ab b
        · have := h6 h; omega
        · have := h7 (by omega); omega
      have eb : b * q = ab b * q := by rw [← xb]
      rw [uniq (q := -(q + 1)) (r := ab b - r) (by rw [Int.mul_neg, Int.mul_add, Int.mul_one, eb]; omega) (by omega) (by omega) (by omega)]
      congr 1; omega
  · have xa : a = ab a := by unfold ab; rw [if_neg sa]
    have xb : b = -(ab b) := by unfold ab; rw [if_pos sb]; omega
    simp only [ephemerisref1_Div.e0, ephemerisref1_Div.e1, sa, sb, decide_true, decide_false, Bool.bne_true, Bool.not_false, Bool.false_eq_true, true_and, if_true, Bool.true_eq_false, false_and, if_false]
    by_cases c2 : r = 0
    · rw [if_neg (fun h => h c2), u64_def, w64_def, u64_def, w64_def]
      rw [uniq (q := -q) (r := 0) (by rw [xb, eY, Int.mul_neg]; omega) (by omega) (by omega) (by omega)]
      rw [c2]
      congr 1
      omega
    · rw [if_pos c2, u64_id (n := q + 1) (by omega) (by omega), u64_id (n := ab b - r) (by omega) (by omega), u64_def, w64_def, u64_def, w64_def]
      have eb := eY q
      rw [← xb] at eb
      rw [uniq (q := -(q + 1)) (r := -(ab b - r)) (by rw [Int.mul_neg, Int.mul_add, Int.mul_one, eb]; omega) (by omega) (by omega) (by omega)]
      congr 1
      · omega
      · congr 1; omega
  · have xa : a = ab a := by unfold ab; rw [if_neg sa]
    have xb : b = ab b := by unfold ab; rw [if_neg sb]
    simp only [ephemerisref1_Div.e0, ephemerisref1_Div.e1, sa, sb, decide_false, bne_self_eq_false, Bool.false_eq_true, false_and, if_false, true_and]
    rw [if_neg (by omega), w64_id (by omega) (by omega), w64_id (by omega) (by omega)]
    rw [uniq (q := q) (r := r) (by rw [xb]; omega) (by omega) (by omega) (by omega)]

theorem ephemerisref1_Floor_f {a b : Int} (k : Nat) (hk : 65 ≤ k) (ha : -9223372036854775808 ≤ a) (ha1 : a ≤ 9223372036854775807) (hb : 0 < b) (hb1 : b ≤ 9223372036854775807) : ephemerisref1_Floor.f k a b = some (a / b) := by
  unfold ephemerisref1_Floor.f
  rw [ephemerisref1_Div_f k hk ha ha1 (by omega) hb1, divs_pos hb]
  rfl

theorem ephemerisref1_In_f (x lo hi : Int) : ephemerisref1_In.f x lo hi = some (decide (lo ≤ x ∧ x ≤ hi)) := by
  unfold ephemerisref1_In.f
  by_cases h : x ≥ lo
  · rw [if_pos h]; congr 1; simp; omega
  · rw [if_neg h]; congr 1; simp; omega

theorem ephemerisref1_Day_f (x : Int) : ephemerisref1_Day.f x = some (decide (-4000000 ≤ x ∧ x ≤ 4000000)) := by
  unfold ephemerisref1_Day.f
  rw [ephemerisref1_In_f]; rfl

theorem ephemerisref1_Instant_f {t : Int} (k : Nat) (hk : 65 ≤ k) (h0 : -9223372036854775808 ≤ t) (h1 : t ≤ 9223372036854775807) : ephemerisref1_Instant.f k t = some (decide (-4000000 ≤ t / 86400000 ∧ t / 86400000 ≤ 4000000)) := by
  unfold ephemerisref1_Instant.f
  rw [ephemerisref1_Floor_f k hk h0 h1 (by omega) (by omega)]
  simp only [Option.bind_some]
  rw [ephemerisref1_Day_f]; rfl

theorem ephemerisref1_Mod_f {a b : Int} (k : Nat) (hk : 65 ≤ k) (ha : -9223372036854775808 ≤ a) (ha1 : a ≤ 9223372036854775807) (hb : 0 < b) (hb1 : b ≤ 9223372036854775807) : ephemerisref1_Mod.f k a b = some (a % b) := by
  unfold ephemerisref1_Mod.f
  rw [ephemerisref1_Div_f k hk ha ha1 (by omega) hb1, divs_pos hb]
  rfl

theorem ephemerisref1_Offset_f (x : Int) (k : Nat) (hk : 65 ≤ k) : ephemerisref1_Offset.f k x = some (okOff x) := by
  unfold ephemerisref1_Offset.f okOff
  rw [ephemerisref1_In_f, Option.bind_some]
  by_cases h : -64800000 ≤ x ∧ x ≤ 64800000
  · rw [decide_eq_true h, if_pos rfl, ephemerisref1_Mod_f k hk (by omega) (by omega) (by omega) (by omega), Option.bind_some]
    congr 1
    by_cases c : x % 1000 = 0
    · rw [decide_eq_true ⟨h.1, h.2, c⟩, c]; rfl
    · rw [decide_eq_false (fun g => c g.2.2)]; simpa using c
  · rw [decide_eq_false h, if_neg (by decide), decide_eq_false (fun g => h ⟨g.1, g.2.1⟩)]

theorem ephemerisref1_Label_f (s : ByteArray) : ephemerisref1_Label.f s = some (isLabel s) := by
  unfold ephemerisref1_Label.f isLabel
  rw [ephemerisref1_In_f, Option.bind_some]
  by_cases h : 1 ≤ s.size ∧ s.size ≤ 6
  · rw [decide_eq_true (show (1 : Int) ≤ (s.size : Int) ∧ (s.size : Int) ≤ 6 by omega), if_pos rfl, decide_eq_true h]
    unfold strings_Trim.f
    rw [if_pos ⟨by omega, by decide, by decide⟩, Option.bind_some]
    congr 1
    rw [Bool.true_and, toList_data]
    show (Go.Lib.trimS s.data.toList abc == []) = caps s.data.toList
    by_cases c : caps s.data.toList = true
    · rw [c, (trim_caps _).2 c]; rfl
    · rw [Bool.not_eq_true] at c
      rw [c, beq_eq_false_iff_ne]
      intro e
      rw [(trim_caps _).1 e] at c
      cases c
  · rw [decide_eq_false (show ¬ ((1 : Int) ≤ (s.size : Int) ∧ (s.size : Int) ≤ 6) by omega), if_neg (by decide), decide_eq_false h]; rfl

theorem ephemerisref1_Name_l0 (s : ByteArray) (hs : s.size ≤ 12) : ∀ (d i k : Nat), i + d = s.size → d < k →
    ephemerisref1_Name.l0 k s (s.size : Int) (i : Int) = some (noWord s && letters (s.data.toList.drop i)) := by
  intro d
  induction d with
  | zero =>
    intro i k hi hk
    obtain ⟨k, rfl⟩ : ∃ m, k = m + 1 := ⟨k - 1, by omega⟩
    obtain rfl : i = s.size := by omega
    simp only [ephemerisref1_Name.l0]
    rw [if_neg (by omega), letters_end, Bool.and_true]
    unfold noWord
    by_cases c1 : s.toList = [121]
    · rw [if_pos c1]; simp [c1]
    rw [if_neg c1, bne_iff_ne.2 c1]
    by_cases c2 : s.toList = [97, 110, 100]
    · rw [if_pos c2]; simp [c2]
    rw [if_neg c2, bne_iff_ne.2 c2]
    by_cases c3 : s.toList = [111, 114]
    · rw [if_pos c3]; simp [c3]
    rw [if_neg c3, bne_iff_ne.2 c3]
    rfl
  | succ d ih =>
    intro i k hi hk
    obtain ⟨k, rfl⟩ : ∃ m, k = m + 1 := ⟨k - 1, by omega⟩
    simp only [ephemerisref1_Name.l0]
    rw [if_pos (by omega), if_pos (by omega), if_pos (by omega), letters_cons s i (by omega)]
    by_cases c1 : bt s i < 97
    · rw [if_pos c1, decide_eq_false (show ¬ 97 ≤ bt s i by omega)]; simp
    rw [if_neg c1, decide_eq_true (show 97 ≤ bt s i by omega)]
    by_cases c2 : bt s i > 122
    · rw [if_pos c2, decide_eq_false (show ¬ bt s i ≤ 122 by omega)]; simp
    rw [if_neg c2, decide_eq_true (show bt s i ≤ 122 by omega), w64_id (by omega) (by omega)]
    have := ih (i + 1) k (by omega) (by omega)
    rw [show ((i + 1 : Nat) : Int) = (i : Int) + 1 from by omega] at this
    rw [this]; simp
theorem ephemerisref1_Name_f (s : ByteArray) (k : Nat) (hk : 20 ≤ k) : ephemerisref1_Name.f k s = some (isName s) := by
  obtain ⟨k, rfl⟩ : ∃ m, k = m + 1 := ⟨k - 1, by omega⟩
  unfold ephemerisref1_Name.f isName
  by_cases h1 : s.toList = []
  · rw [if_pos h1, decide_eq_false (show ¬ 1 ≤ s.size by have := (toList_nil s).1 h1; omega)]
    simp [ephemerisref1_Name.j0]
  have h1' : ¬ s.size = 0 := fun h => h1 ((toList_nil s).2 h)
  rw [if_neg h1, decide_eq_true (show 1 ≤ s.size by omega)]
  simp only [ephemerisref1_Name.j0, decide_eq_true_eq]
  by_cases h2 : (s.size : Int) > 12
  · rw [if_pos h2, decide_eq_false (show ¬ s.size ≤ 12 by omega)]; rfl
  rw [if_neg h2, decide_eq_true (show s.size ≤ 12 by omega)]
  exact ephemerisref1_Name_l0 s (by omega) s.size 0 k (by omega) (by omega)

/-- A change whose instant or offset is out of range. -/
def znBad (c : S47) : Bool := !(decide (-4000000 ≤ c.f0 / 86400000 ∧ c.f0 / 86400000 ≤ 4000000) && okOff c.f1)
/-- The first fault of the changes from the i-th on (d of them). -/
def znErr (l : List S47) : Nat → Nat → Int
  | 0, _ => 0
  | d + 1, i => if znBad (l.getD i z47) = true then 3 else if isLabel (l.getD i z47).f2 = true then (if 0 < i ∧ (l.getD i z47).f0 ≤ (l.getD (i - 1) z47).f0 then 9 else znErr l d (i + 1)) else 8
/-- What both checks of a zone tell. -/
def znAll (s : ByteArray) (o : Int) (l : List S47) : Int := if isName s = true then (if okOff o = true then (if l.length ≤ 200 then znErr l l.length 0 else 2) else 3) else 5
/-- The instants are numbers that an int holds. -/
def znWf (l : List S47) : Prop := ∀ c ∈ l, -9223372036854775808 ≤ c.f0 ∧ c.f0 ≤ 9223372036854775807
theorem znWf_get {l : List S47} (h : znWf l) {i : Nat} (hi : i < l.length) : -9223372036854775808 ≤ (l.getD i z47).f0 ∧ (l.getD i z47).f0 ≤ 9223372036854775807 := by
  rw [List.getD_eq_getElem?_getD, List.getElem?_eq_getElem hi]
  exact h _ (List.getElem_mem hi)
theorem zn_split (b x : Bool) {α : Type} (u : α) (e : Int) (y : Int) (v : Option Int) (p : Prop) [Decidable p] (h : v = some y) :
    (if b = true then some (3 : Int) else if x = true then (if p then some 9 else v) else some 8) = some (if b = true then 3 else if x = true then (if p then 9 else y) else 8) := by
  subst h
  split
  · rfl
  · split
    · split
      · rfl
      · rfl
    · rfl

theorem ephemerisref1_ZoneError_j1 (l : List S47) (s : ByteArray) (o : Int) (hl : l.length ≤ 200) (i : Nat) (hi : i < l.length) (k : Nat) (t : Bool) (y : Int) (hy : ephemerisref1_ZoneError.l0 k l (l.length : Int) ((i + 1 : Nat) : Int) s o l = some y) :
    ephemerisref1_ZoneError.j1 (k + 1) (i : Int) l (l.length : Int) (i : Int) t s o l (l.getD i z47).f0 (l.getD i z47).f1 (l.getD i z47).f2
      = some (if t = true then 3 else if isLabel (l.getD i z47).f2 = true then (if 0 < i ∧ (l.getD i z47).f0 ≤ (l.getD (i - 1) z47).f0 then 9 else y) else 8) := by
  simp only [ephemerisref1_ZoneError.j1]
  by_cases h : t = true
  · rw [if_pos h, if_pos h]
  rw [if_neg h, if_neg h, ephemerisref1_Label_f, Option.bind_some]
  by_cases h2 : isLabel (l.getD i z47).f2 = true
  · rw [if_pos h2, if_pos h2, w64_id (n := (i : Int) + 1) (by omega) (by omega), show ((i : Int) + 1) = ((i + 1 : Nat) : Int) from by omega, hy]
    by_cases h3 : 0 < i
    · rw [if_pos (by omega), w64_id (n := (i : Int) - 1) (by omega) (by omega), if_pos (by omega), if_pos (by omega)]
      rw [show rd_T47 l ((i : Int) - 1) = l.getD (i - 1) z47 from by unfold rd_T47; rw [show ((i : Int) - 1).toNat = i - 1 by omega]]
      by_cases h4 : (l.getD i z47).f0 ≤ (l.getD (i - 1) z47).f0
      · rw [if_pos (show _ ≥ _ from h4), if_pos ⟨h3, h4⟩]
      · rw [if_neg (show ¬ _ ≥ _ from h4), if_neg (fun g => h4 g.2)]
    · rw [if_neg (by omega), if_neg (fun g => h3 g.1)]
  · rw [if_neg h2, if_neg h2]
theorem ephemerisref1_ZoneError_l0 (l : List S47) (s : ByteArray) (o : Int) (hl : l.length ≤ 200) (hw : znWf l) : ∀ (d i k : Nat), i + d = l.length → 2 * d + 70 < k → ephemerisref1_ZoneError.l0 k l (l.length : Int) (i : Int) s o l = some (znErr l d i) := by
  intro d
  induction d with
  | zero =>
    intro i k hi hk
    obtain ⟨k, rfl⟩ : ∃ m, k = m + 1 := ⟨k - 1, by omega⟩
    simp only [ephemerisref1_ZoneError.l0]
    rw [if_neg (by omega)]; rfl
  | succ d ih =>
    intro i k hi hk
    obtain ⟨k, rfl⟩ : ∃ m, k = m + 2 := ⟨k - 2, by omega⟩
    rw [show k + 2 = (k + 1) + 1 from rfl]
    simp only [ephemerisref1_ZoneError.l0]
    rw [if_pos (by omega), if_pos (by omega), if_pos (by omega), show rd_T47 l (i : Int) = l.getD i z47 from rfl]
    have hg := znWf_get hw (i := i) (by omega)
    have hj := fun t => ephemerisref1_ZoneError_j1 l s o hl i (by omega) k t _ (ih (i + 1) k (by omega) (by omega))
    unfold znErr
    rw [ephemerisref1_Instant_f (k + 1) (by omega) hg.1 hg.2, Option.bind_some]
    by_cases c : -4000000 ≤ (l.getD i z47).f0 / 86400000 ∧ (l.getD i z47).f0 / 86400000 ≤ 4000000
    · rw [decide_eq_true c, if_pos rfl, ephemerisref1_Offset_f _ (k + 1) (by omega), Option.bind_some, hj]
      rw [show (!(okOff (l.getD i z47).f1)) = znBad (l.getD i z47) from by unfold znBad; rw [decide_eq_true c, Bool.true_and]]
    · rw [decide_eq_false c, if_neg (by decide), hj]
      rw [show (true : Bool) = znBad (l.getD i z47) from by unfold znBad; rw [decide_eq_false c]; rfl]
theorem ephemerisref1_ZoneError_f (s : ByteArray) (o : Int) (l : List S47) (hw : znWf l) (k : Nat) (hk : 600 ≤ k) : ephemerisref1_ZoneError.f k s o l = some (znAll s o l) := by
  unfold ephemerisref1_ZoneError.f znAll
  rw [ephemerisref1_Name_f _ k (by omega), Option.bind_some]
  by_cases h1 : isName s = true
  · rw [if_pos h1, if_pos h1, ephemerisref1_Offset_f _ k (by omega), Option.bind_some]
    by_cases h2 : okOff o = true
    · rw [if_pos h2, if_pos h2]
      by_cases h3 : l.length ≤ 200
      · rw [if_neg (by omega), if_pos h3]
        exact ephemerisref1_ZoneError_l0 l s o h3 hw l.length 0 k (by omega) (by omega)
      · rw [if_pos (by omega), if_neg h3]
    · rw [if_neg h2, if_neg h2]
  · rw [if_neg h1, if_neg h1]

/-- Where an instant stands among the changes. -/
def IsPos (l : List S47) (t : Int) (r : Nat) : Prop := r ≤ l.length ∧ (∀ j, j < r → (l.getD j z47).f0 ≤ t) ∧ ∀ j, r ≤ j → j < l.length → t < (l.getD j z47).f0
/-- The changes are of a valid zone. -/
def ZnOk (l : List S47) : Prop := l.length ≤ 200 ∧ ∀ j, j < l.length → znBad (l.getD j z47) = false ∧ isLabel (l.getD j z47).f2 = true ∧ (0 < j → (l.getD (j - 1) z47).f0 < (l.getD j z47).f0)
theorem znErr_ok (l : List S47) : ∀ (d i : Nat), i + d = l.length → znErr l d i = 0 → ∀ j, i ≤ j → j < l.length → znBad (l.getD j z47) = false ∧ isLabel (l.getD j z47).f2 = true ∧ (0 < j → (l.getD (j - 1) z47).f0 < (l.getD j z47).f0)
  | 0, i, hi, _, j, h1, h2 => absurd h2 (by omega)
  | d + 1, i, hi, h, j, h1, h2 => by
    unfold znErr at h
    by_cases c1 : znBad (l.getD i z47) = true
    · rw [if_pos c1] at h; cases h
    rw [if_neg c1] at h
    by_cases c2 : isLabel (l.getD i z47).f2 = true
    · rw [if_pos c2] at h
      by_cases c3 : 0 < i ∧ (l.getD i z47).f0 ≤ (l.getD (i - 1) z47).f0
      · rw [if_pos c3] at h; cases h
      rw [if_neg c3] at h
      by_cases e : j = i
      · subst e
        exact ⟨by simpa using c1, c2, fun g => by omega⟩
      · exact znErr_ok l d (i + 1) (by omega) h j (by omega) h2
    · rw [if_neg c2] at h; cases h
theorem znAll_ok {s : ByteArray} {o : Int} {l : List S47} (h : znAll s o l = 0) : isName s = true ∧ okOff o = true ∧ ZnOk l := by
  unfold znAll at h
  by_cases h1 : isName s = true
  · rw [if_pos h1] at h
    by_cases h2 : okOff o = true
    · rw [if_pos h2] at h
      by_cases h3 : l.length ≤ 200
      · rw [if_pos h3] at h
        exact ⟨h1, h2, h3, fun j hj => znErr_ok l l.length 0 (by omega) h j (by omega) hj⟩
      · rw [if_neg h3] at h; cases h
    · rw [if_neg h2] at h; cases h
  · rw [if_neg h1] at h; cases h
theorem okOff_le {x : Int} (h : okOff x = true) : -64800000 ≤ x ∧ x ≤ 64800000 := by
  unfold okOff at h
  have := of_decide_eq_true h
  exact ⟨this.1, this.2.1⟩
theorem zn_rise {l : List S47} (h : ZnOk l) : ∀ (d i : Nat), i + d < l.length → (l.getD i z47).f0 ≤ (l.getD (i + d) z47).f0
  | 0, i, _ => Int.le_refl _
  | d + 1, i, hi => by
    have h1 := zn_rise h d i (by omega)
    have h2 := (h.2 (i + (d + 1)) hi).2.2 (by omega)
    rw [show i + (d + 1) - 1 = i + d from by omega] at h2
    omega
theorem zn_off {l : List S47} (h : ZnOk l) {j : Nat} (hj : j < l.length) : (-4000000 ≤ (l.getD j z47).f0 / 86400000 ∧ (l.getD j z47).f0 / 86400000 ≤ 4000000) ∧ -64800000 ≤ (l.getD j z47).f1 ∧ (l.getD j z47).f1 ≤ 64800000 := by
  have := (h.2 j hj).1
  unfold znBad at this
  rw [Bool.not_eq_false', Bool.and_eq_true] at this
  exact ⟨of_decide_eq_true this.1, okOff_le this.2⟩
/-- What is in force at the r-th place. -/
def atPos (o : Int) (l : List S47) (r : Nat) : Int × ByteArray := if 0 < r then ((l.getD (r - 1) z47).f1, (l.getD (r - 1) z47).f2) else (o, ⟨#[]⟩)
theorem atPos_le {o : Int} {l : List S47} {r : Nat} (ho : okOff o = true) (h : ZnOk l) (hr : r ≤ l.length) : -64800000 ≤ (atPos o l r).1 ∧ (atPos o l r).1 ≤ 64800000 := by
  unfold atPos
  split
  · exact (zn_off h (by omega)).2
  · exact okOff_le ho
/-- The error of an instant in a zone. -/
def znBegin (s : ByteArray) (o : Int) (l : List S47) (t : Int) : Int := if znAll s o l = 0 then (if -4000000 ≤ t / 86400000 ∧ t / 86400000 ≤ 4000000 then 0 else 3) else znAll s o l
theorem base_wf : znWf [(⟨0, 7200000, (⟨#[83, 85, 77]⟩ : ByteArray)⟩ : S47)] := by
  intro c hc
  rw [List.mem_singleton] at hc
  subst hc
  decide

theorem ephemerisref1_OffsetAt_l0 (l : List S47) (t : Int) (r : Nat) (hl : l.length ≤ 200) (hr : IsPos l t r) : ∀ (d i k : Nat) (o : Int) (b : ByteArray), i + d = l.length → d < k →
    ephemerisref1_OffsetAt.l0 k t o b l (l.length : Int) (i : Int) = some (if i < r then ((l.getD (r - 1) z47).f1, (l.getD (r - 1) z47).f2) else (o, b)) := by
  obtain ⟨h1, h2, h3⟩ := hr
  intro d
  induction d with
  | zero =>
    intro i k o b hi hk
    obtain ⟨k, rfl⟩ : ∃ m, k = m + 1 := ⟨k - 1, by omega⟩
    simp only [ephemerisref1_OffsetAt.l0]
    rw [if_neg (by omega), if_neg (by omega)]
  | succ d ih =>
    intro i k o b hi hk
    obtain ⟨k, rfl⟩ : ∃ m, k = m + 1 := ⟨k - 1, by omega⟩
    simp only [ephemerisref1_OffsetAt.l0]
    rw [if_pos (by omega), if_pos (by omega), if_pos (by omega), show rd_T47 l (i : Int) = l.getD i z47 from rfl, w64_id (n := (i : Int) + 1) (by omega) (by omega), show (i : Int) + 1 = ((i + 1 : Nat) : Int) from by omega, ih (i + 1) k _ _ (by omega) (by omega), ih (i + 1) k _ _ (by omega) (by omega)]
    by_cases c : i < r
    · rw [if_pos (h2 i c), if_pos c]
      by_cases c2 : i + 1 < r
      · rw [if_pos c2]
      · rw [if_neg c2]
        obtain rfl : r = i + 1 := by omega
        rfl
    · have := h3 i (by omega) (by omega)
      rw [if_neg (by omega), if_neg c, if_neg (by omega)]
theorem ephemerisref1_OffsetAt_f (s : ByteArray) (o : Int) (l : List S47) (t : Int) (r : Nat) (hl : l.length ≤ 200) (hr : IsPos l t r) (k : Nat) (hk : 201 ≤ k) : ephemerisref1_OffsetAt.f k s o l t = some (atPos o l r) :=
  ephemerisref1_OffsetAt_l0 l t r hl hr l.length 0 k o _ (by omega) (by omega)

theorem zone_IsOffset_f (x : Int) : zone_IsOffset.f x = some (okOff x) := by
  unfold zone_IsOffset.f okOff
  rw [tmod_thousand]
  by_cases h1 : x ≥ (-64800000)
  · rw [if_pos h1]
    by_cases h2 : x ≤ 64800000
    · rw [if_pos h2]; congr 1
      by_cases c : x % 1000 = 0
      · rw [decide_eq_true c, decide_eq_true ⟨by omega, h2, c⟩]
      · rw [decide_eq_false c, decide_eq_false (fun h => c h.2.2)]
    · rw [if_neg h2, decide_eq_false (fun h => h2 h.2.1)]
  · rw [if_neg h1, decide_eq_false (fun h => h1 (by omega))]

theorem zone_IsLabel_f (s : ByteArray) : zone_IsLabel.f s = some (isLabel s) := by
  have e : zone_IsLabel.all s.data.toList = caps s.data.toList := rfl
  unfold zone_IsLabel.f isLabel
  rw [e]
  congr 1
  by_cases h1 : (s.size : Int) < 1
  · rw [if_pos h1, decide_eq_false (show ¬ (1 ≤ s.size ∧ s.size ≤ 6) by omega)]; rfl
  rw [if_neg h1]
  by_cases h2 : (s.size : Int) > 6
  · rw [if_pos h2, decide_eq_false (show ¬ (1 ≤ s.size ∧ s.size ≤ 6) by omega)]; rfl
  rw [if_neg h2, decide_eq_true (show 1 ≤ s.size ∧ s.size ≤ 6 by omega)]
  rfl

theorem rule_Name_f (s : ByteArray) : rule_Name.f s = some (isName s) := by
  have e : rule_Name.all s.data.toList = letters s.data.toList := rfl
  unfold rule_Name.f isName noWord
  rw [e]
  congr 1
  by_cases h1 : (s.size : Int) < 1
  · rw [if_pos h1, decide_eq_false (show ¬ 1 ≤ s.size by omega)]; rfl
  rw [if_neg h1, decide_eq_true (show 1 ≤ s.size by omega)]
  by_cases h2 : (s.size : Int) > 12
  · rw [if_pos h2, decide_eq_false (show ¬ s.size ≤ 12 by omega)]; rfl
  rw [if_neg h2, decide_eq_true (show s.size ≤ 12 by omega)]
  by_cases c1 : s.toList = [121]
  · rw [if_pos c1]; simp [c1]
  rw [if_neg c1, bne_iff_ne.2 c1]
  by_cases c2 : s.toList = [97, 110, 100]
  · rw [if_pos c2]; simp [c2]
  rw [if_neg c2, bne_iff_ne.2 c2]
  by_cases c3 : s.toList = [111, 114]
  · rw [if_pos c3]; simp [c3]
  rw [if_neg c3, bne_iff_ne.2 c3]
  by_cases c4 : s.toList = [110, 111, 116]
  · rw [if_pos c4]; simp [c4]
  rw [if_neg c4, bne_iff_ne.2 c4]
  rfl

theorem whole_Div_f {a b : Int} (k : Nat) (hk : 1 ≤ k) (ha : -9223372036854775808 ≤ a) (ha1 : a ≤ 9223372036854775807) (hb : -9223372036854775808 ≤ b) (hb1 : b ≤ 9223372036854775807) : whole_Div.f k a b = some (divs a b) := by
  obtain ⟨k, rfl⟩ : ∃ m, k = m + 1 := ⟨k - 1, by omega⟩
  unfold whole_Div.f divs
  by_cases c : b = 0
  · rw [if_pos c, if_pos c]
  rw [if_neg c, if_neg c]
  by_cases d : a = -9223372036854775808 ∧ b = -1
  · rw [if_pos d.1, if_pos d, d.2]; simp [whole_Div.j0]
  have e : (if a = (-9223372036854775808) then (whole_Div.j0 (k + 1) a b (b == (-1))) else (whole_Div.j0 (k + 1) a b false)) = whole_Div.j0 (k + 1) a b false := by
    by_cases c1 : a = -9223372036854775808
    · rw [if_pos c1, show (b == -1) = false from beq_eq_false_iff_ne.2 (fun h => d ⟨c1, h⟩)]
    · rw [if_neg c1]
  rw [e, if_neg d]
  simp only [whole_Div.j0, Bool.false_eq_true, if_false]
  rw [if_neg c]
  obtain ⟨b1, b2⟩ := tdiv_bound a b c ha ha1 d
  obtain ⟨g1, g2, g3⟩ := fd_of_t a b c
  obtain ⟨t0, t1, t2, t3, t4⟩ := tdm a b c
  rw [w64_id b1 b2]
  by_cases hz : Int.tmod a b = 0
  · rw [if_pos hz, (g1 hz).1, (g1 hz).2, hz]
  · rw [if_neg hz]
    cases hs : (decide (Int.tmod a b < 0) != decide (b < 0)) with
    | true =>
      have hq : fd a b = Int.tdiv a b - 1 := (g2 hz hs).1
      have hfs := fd_spec a b c
      have hlow : -9223372036854775808 ≤ Int.tdiv a b - 1 := by
        by_cases hm : Int.tdiv a b = -9223372036854775808
        · exfalso
          have h9 : (Int.tdiv a b).natAbs = a.natAbs / b.natAbs := Int.natAbs_tdiv a b
          rw [hm] at h9
          have h10 : a.natAbs / b.natAbs ≤ a.natAbs := Nat.div_le_self _ _
          by_cases hb2 : b.natAbs = 1
          · have : b = 1 ∨ b = -1 := by omega
            rcases this with rfl | rfl
            · exact hz (by rw [Int.tmod_one])
            · exact hz (by rw [Int.tmod_neg, Int.tmod_one])
          · have : a.natAbs / b.natAbs ≤ a.natAbs / 2 := Nat.div_le_div_left (by omega) (by omega)
            omega
        · omega
      have hss : (Int.tmod a b < 0 ∧ 0 < b) ∨ (0 < Int.tmod a b ∧ b < 0) := by
        by_cases hx : Int.tmod a b < 0 <;> by_cases hy : b < 0 <;> simp [hx, hy] at hs
        · exact .inl ⟨hx, by omega⟩
        · exact .inr ⟨by omega, hy⟩
      simp only [if_true]
      rw [(g2 hz hs).1, (g2 hz hs).2, w64_id hlow (by omega), w64_id (n := Int.tmod a b + b) (by omega) (by omega)]
    | false =>
      simp only [Bool.false_eq_true, if_false]
      rw [(g3 hz hs).1, (g3 hz hs).2]

theorem line_Check_f (x : Int) : line_Check.f x = some (if -4000000 ≤ x ∧ x ≤ 4000000 then 0 else 3) := by
  unfold line_Check.f
  by_cases h : x < -4000000
  · rw [if_pos h, if_neg (by omega)]
  · rw [if_neg h]
    by_cases h2 : x > 4000000
    · rw [if_pos h2, if_neg (by omega)]
    · rw [if_neg h2, if_pos (by omega)]

theorem line_Split_f {t : Int} (k : Nat) (hk : 1 ≤ k) (h0 : -9223372036854775808 ≤ t) (h1 : t ≤ 9223372036854775807) : line_Split.f k t = some (if -4000000 ≤ t / 86400000 ∧ t / 86400000 ≤ 4000000 then (t / 86400000, t % 86400000, 0) else (0, 0, 3)) := by
  unfold line_Split.f
  rw [whole_Div_f k hk h0 h1 (by omega) (by omega), divs_pos (by omega)]
  simp only [Option.bind_some]
  rw [line_Check_f]
  simp only [Option.bind_some]
  by_cases h : -4000000 ≤ t / 86400000 ∧ t / 86400000 ≤ 4000000
  · rw [if_pos h, if_pos h, if_pos rfl]
  · rw [if_neg h, if_neg h, if_neg (by omega)]

theorem zone_Check_j1 (l : List S47) (s : ByteArray) (o : Int) (hl : l.length ≤ 200) (i : Nat) (hi : i < l.length) (k : Nat) (t : Bool) (y : Int) (hy : zone_Check.l0 k l (l.length : Int) ((i + 1 : Nat) : Int) s o l = some y) :
    zone_Check.j1 (k + 1) (i : Int) l (l.length : Int) (i : Int) t s o l (l.getD i z47).f0 (l.getD i z47).f1 (l.getD i z47).f2
      = some (if t = true then 3 else if isLabel (l.getD i z47).f2 = true then (if 0 < i ∧ (l.getD i z47).f0 ≤ (l.getD (i - 1) z47).f0 then 9 else y) else 8) := by
  simp only [zone_Check.j1]
  by_cases h : t = true
  · rw [if_pos h, if_pos h]
  rw [if_neg h, if_neg h, zone_IsLabel_f, Option.bind_some]
  by_cases h2 : isLabel (l.getD i z47).f2 = true
  · rw [if_pos h2, if_pos h2, w64_id (n := (i : Int) + 1) (by omega) (by omega), show ((i : Int) + 1) = ((i + 1 : Nat) : Int) from by omega, hy]
    by_cases h3 : 0 < i
    · rw [if_pos (by omega), w64_id (n := (i : Int) - 1) (by omega) (by omega), if_pos (by omega), if_pos (by omega)]
      rw [show rd_T47 l ((i : Int) - 1) = l.getD (i - 1) z47 from by unfold rd_T47; rw [show ((i : Int) - 1).toNat = i - 1 by omega]]
      by_cases h4 : (l.getD i z47).f0 ≤ (l.getD (i - 1) z47).f0
      · rw [if_pos h4, if_pos ⟨h3, h4⟩]
      · rw [if_neg h4, if_neg (fun g => h4 g.2)]
    · rw [if_neg (by omega), if_neg (fun g => h3 g.1)]
  · rw [if_neg h2, if_neg h2]
theorem zone_Check_l0 (l : List S47) (s : ByteArray) (o : Int) (hl : l.length ≤ 200) (hw : znWf l) : ∀ (d i k : Nat), i + d = l.length → 2 * d + 5 < k → zone_Check.l0 k l (l.length : Int) (i : Int) s o l = some (znErr l d i) := by
  intro d
  induction d with
  | zero =>
    intro i k hi hk
    obtain ⟨k, rfl⟩ : ∃ m, k = m + 1 := ⟨k - 1, by omega⟩
    simp only [zone_Check.l0]
    rw [if_neg (by omega)]; rfl
  | succ d ih =>
    intro i k hi hk
    obtain ⟨k, rfl⟩ : ∃ m, k = m + 2 := ⟨k - 2, by omega⟩
    rw [show k + 2 = (k + 1) + 1 from rfl]
    simp only [zone_Check.l0]
    rw [if_pos (by omega), if_pos (by omega), if_pos (by omega), show rd_T47 l (i : Int) = l.getD i z47 from rfl]
    have hg := znWf_get hw (i := i) (by omega)
    have hj := fun t => zone_Check_j1 l s o hl i (by omega) k t _ (ih (i + 1) k (by omega) (by omega))
    unfold znErr
    rw [line_Split_f (k + 1) (by omega) hg.1 hg.2, Option.bind_some]
    by_cases c : -4000000 ≤ (l.getD i z47).f0 / 86400000 ∧ (l.getD i z47).f0 / 86400000 ≤ 4000000
    · rw [if_pos c, if_pos rfl, zone_IsOffset_f, Option.bind_some, hj]
      rw [show (!(okOff (l.getD i z47).f1)) = znBad (l.getD i z47) from by unfold znBad; rw [decide_eq_true c, Bool.true_and]]
    · rw [if_neg c, if_neg (by decide), hj]
      rw [show true = znBad (l.getD i z47) from by unfold znBad; rw [decide_eq_false c]; rfl]
theorem zone_Check_f (s : ByteArray) (o : Int) (l : List S47) (hw : znWf l) (k : Nat) (hk : 600 ≤ k) : zone_Check.f k s o l = some (znAll s o l) := by
  unfold zone_Check.f znAll
  rw [rule_Name_f, Option.bind_some]
  by_cases h1 : isName s = true
  · rw [if_pos h1, if_pos h1, zone_IsOffset_f, Option.bind_some]
    by_cases h2 : okOff o = true
    · rw [if_pos h2, if_pos h2]
      by_cases h3 : l.length ≤ 200
      · rw [if_neg (by omega), if_pos h3]
        exact zone_Check_l0 l s o h3 hw l.length 0 k (by omega) (by omega)
      · rw [if_pos (by omega), if_neg h3]
    · rw [if_neg h2, if_neg h2]
  · rw [if_neg h1, if_neg h1]

theorem zone_begin_f (s : ByteArray) (o : Int) (l : List S47) (t : Int) (hw : znWf l) (ht : -9223372036854775808 ≤ t ∧ t ≤ 9223372036854775807) (k : Nat) (hk : 600 ≤ k) : zone_begin.f k s o l t = some (znBegin s o l t) := by
  unfold zone_begin.f znBegin
  rw [zone_Check_f s o l hw k hk, Option.bind_some]
  by_cases h : znAll s o l = 0
  · rw [if_pos h, if_pos h, line_Split_f k (by omega) ht.1 ht.2, Option.bind_some]
    split
    · rfl
    · rfl
  · rw [if_neg h, if_neg h]

theorem zone_piece_l0 (s : ByteArray) (o : Int) (l : List S47) (t : Int) (hz : ZnOk l) : ∀ (d lo hi k : Nat), hi ≤ lo + d → lo ≤ hi → hi ≤ l.length → d < k → (∀ j, j < lo → (l.getD j z47).f0 ≤ t) → (∀ j, hi ≤ j → j < l.length → t < (l.getD j z47).f0) →
    ∃ r : Nat, zone_piece.l0 k t (lo : Int) (hi : Int) s o l = some (r : Int) ∧ IsPos l t r := by
  intro d
  induction d with
  | zero =>
    intro lo hi k h1 h2 h3 hk hl hh
    obtain ⟨k, rfl⟩ : ∃ m, k = m + 1 := ⟨k - 1, by omega⟩
    obtain rfl : hi = lo := by omega
    refine ⟨hi, ?_, h3, hl, hh⟩
    simp only [zone_piece.l0]
    rw [if_neg (by omega)]
  | succ d ih =>
    intro lo hi k h1 h2 h3 hk hl hh
    obtain ⟨k, rfl⟩ : ∃ m, k = m + 1 := ⟨k - 1, by omega⟩
    simp only [zone_piece.l0]
    by_cases c : (lo : Int) < (hi : Int)
    · have h200 := hz.1
      rw [if_pos c, w64_id (n := (lo : Int) + (hi : Int)) (by omega) (by omega), Int.tdiv_eq_ediv_of_nonneg (by omega), w64_id (n := ((lo : Int) + (hi : Int)) / 2) (by omega) (by omega)]
      obtain ⟨m, hm⟩ : ∃ m : Nat, m = (lo + hi) / 2 := ⟨_, rfl⟩
      rw [show ((lo : Int) + (hi : Int)) / 2 = (m : Int) from by omega, if_pos (by omega), if_pos (by omega), show rd_T47 l (m : Int) = l.getD m z47 from rfl]
      by_cases c2 : (l.getD m z47).f0 ≤ t
      · rw [if_pos c2, w64_id (by omega) (by omega)]
        refine ih (m + 1) hi k (by omega) (by omega) h3 (by omega) (fun j hj => ?_) hh
        have := zn_rise hz (m - j) j (by omega)
        rw [show j + (m - j) = m from by omega] at this
        omega
      · rw [if_neg c2]
        refine ih lo m k (by omega) (by omega) (by omega) (by omega) hl (fun j h5 h6 => ?_)
        have := zn_rise hz (j - m) m (by omega)
        rw [show m + (j - m) = j from by omega] at this
        omega
    · rw [if_neg c]
      obtain rfl : hi = lo := by omega
      exact ⟨hi, rfl, h3, hl, hh⟩
theorem zone_piece_f (s : ByteArray) (o : Int) (l : List S47) (t : Int) (hz : ZnOk l) (k : Nat) (hk : 201 ≤ k) : ∃ r : Nat, zone_piece.f k s o l t = some (r : Int) ∧ IsPos l t r := by
  have := hz.1
  exact zone_piece_l0 s o l t hz l.length 0 l.length k (by omega) (by omega) (by omega) (by omega) (fun j hj => absurd hj (by omega)) (fun j h1 h2 => absurd h2 (by omega))

theorem zone_Offset_bad (s : ByteArray) (o : Int) (l : List S47) (t : Int) (hw : znWf l) (ht : -9223372036854775808 ≤ t ∧ t ≤ 9223372036854775807) (k : Nat) (hk : 600 ≤ k) (h : znBegin s o l t ≠ 0) : zone_Offset.f k s o l t = some (0, ⟨#[]⟩, znBegin s o l t) := by
  unfold zone_Offset.f
  rw [zone_begin_f s o l t hw ht k hk, Option.bind_some, if_neg h]
theorem zone_Offset_ok (s : ByteArray) (o : Int) (l : List S47) (t : Int) (hw : znWf l) (ht : -9223372036854775808 ≤ t ∧ t ≤ 9223372036854775807) (k : Nat) (hk : 600 ≤ k) (h : znBegin s o l t = 0) (hz : ZnOk l) : ∃ r : Nat, zone_Offset.f k s o l t = some ((atPos o l r).1, (atPos o l r).2, 0) ∧ IsPos l t r := by
  obtain ⟨r, hr, hp⟩ := zone_piece_f s o l t hz k (by omega)
  refine ⟨r, ?_, hp⟩
  unfold zone_Offset.f
  rw [zone_begin_f s o l t hw ht k hk, Option.bind_some, if_pos h, hr, Option.bind_some]
  have h1 := hp.1
  have h2 := hz.1
  unfold atPos
  by_cases c : 0 < r
  · rw [if_neg (by omega), w64_id (by omega) (by omega), if_pos (by omega), if_pos (by omega), if_pos c]
    rw [show rd_T47 l ((r : Int) - 1) = l.getD (r - 1) z47 from by unfold rd_T47; rw [show ((r : Int) - 1).toNat = r - 1 by omega]]
  · rw [if_pos (by omega), if_neg c]

theorem zone_Next_bad (s : ByteArray) (o : Int) (l : List S47) (t : Int) (hw : znWf l) (ht : -9223372036854775808 ≤ t ∧ t ≤ 9223372036854775807) (k : Nat) (hk : 600 ≤ k) (h : znBegin s o l t ≠ 0) : zone_Next.f k s o l t = some (0, 0, ⟨#[]⟩, znBegin s o l t) := by
  unfold zone_Next.f
  rw [zone_begin_f s o l t hw ht k hk, Option.bind_some, if_neg h]
theorem zone_Next_ok (s : ByteArray) (o : Int) (l : List S47) (t : Int) (hw : znWf l) (ht : -9223372036854775808 ≤ t ∧ t ≤ 9223372036854775807) (k : Nat) (hk : 600 ≤ k) (h : znBegin s o l t = 0) (hz : ZnOk l) : ∃ r : Nat, zone_Next.f k s o l t = some (if r < l.length then ((l.getD r z47).f0, (l.getD r z47).f1, (l.getD r z47).f2, 0) else (0, 0, ⟨#[]⟩, 6)) ∧ IsPos l t r := by
  obtain ⟨r, hr, hp⟩ := zone_piece_f s o l t hz k (by omega)
  refine ⟨r, ?_, hp⟩
  have h1 := hp.1
  unfold zone_Next.f
  rw [zone_begin_f s o l t hw ht k hk, Option.bind_some, if_pos h, hr, Option.bind_some]
  by_cases c : r < l.length
  · rw [if_neg (by omega), if_pos (by omega), if_pos (by omega), if_pos c]; rfl
  · rw [if_pos (by omega), if_neg c]
theorem IsPos_eq {l : List S47} {t : Int} {r q : Nat} (hr : IsPos l t r) (hq : IsPos l t q) : r = q := by
  rcases Nat.lt_trichotomy r q with c | c | c
  · have h1 := hq.2.1 r c
    have h2 := hr.2.2 r (Nat.le_refl _) (Nat.lt_of_lt_of_le c hq.1)
    omega
  · exact c
  · have h1 := hr.2.1 q c
    have h2 := hq.2.2 q (Nat.le_refl _) (Nat.lt_of_lt_of_le c hr.1)
    omega

theorem none_toList : (⟨#[]⟩ : ByteArray).toList = [] := (toList_nil _).2 rfl
theorem offsets_l0 (l : List S47) (t : Int) (r : Nat) (hl : l.length ≤ 200) (hr : IsPos l t r) (x12 a b : Int) (c : ByteArray)
    (hc : (if r < l.length then ((l.getD r z47).f0, (l.getD r z47).f1, (l.getD r z47).f2, (0 : Int)) else (0, 0, (⟨#[]⟩ : ByteArray), 6)) = (a, b, c, x12)) : ∀ (d i k : Nat), i + d = l.length → i ≤ r → d < k →
    ephemerislaw1_ZoneOffsets.l0 k t x12 l (l.length : Int) (i : Int) a b c = some true := by
  obtain ⟨h1, h2, h3⟩ := hr
  intro d
  induction d with
  | zero =>
    intro i k hi hir hk
    obtain ⟨k, rfl⟩ : ∃ m, k = m + 1 := ⟨k - 1, by omega⟩
    simp only [ephemerislaw1_ZoneOffsets.l0]
    rw [if_neg (show ¬ r < l.length by omega)] at hc
    simp only [Prod.mk.injEq] at hc
    obtain ⟨rfl, rfl, rfl, rfl⟩ := hc
    rw [if_neg (by omega), if_pos (by rw [none_toList]; decide)]
    rfl
  | succ d ih =>
    intro i k hi hir hk
    obtain ⟨k, rfl⟩ : ∃ m, k = m + 1 := ⟨k - 1, by omega⟩
    simp only [ephemerislaw1_ZoneOffsets.l0]
    rw [if_pos (by omega), if_pos (by omega), if_pos (by omega), show rd_T47 l (i : Int) = l.getD i z47 from rfl]
    by_cases e : i = r
    · subst e
      have := h3 i (by omega) (by omega)
      rw [if_pos (show i < l.length by omega)] at hc
      simp only [Prod.mk.injEq] at hc
      obtain ⟨rfl, rfl, rfl, rfl⟩ := hc
      rw [if_pos (by omega), if_pos rfl]
      simp
    · have := h2 i (by omega)
      rw [if_neg (by omega), w64_id (by omega) (by omega)]
      exact ih (i + 1) k (by omega) (by omega) (by omega)
theorem offsets_j2_bad (t e g f : Int) (s : ByteArray) (o : Int) (l : List S47) (hf : f ≠ 0) (he : e = f) (hg : g = f) (k : Nat) : ephemerislaw1_ZoneOffsets.j2 (k + 1) t 0 ⟨#[]⟩ e g f s o l 0 0 ⟨#[]⟩ = some true := by
  simp only [ephemerislaw1_ZoneOffsets.j2]
  rw [if_neg hf, if_pos trivial, if_pos none_toList, if_pos he, if_pos (by rw [none_toList]; decide), hg]; simp
theorem ZoneOffsets : ephemerislaw1_ZoneOffsets.Pure := by
  intro s o l t hs ho hl ht
  have hw : znWf l := fun c hc => wf_i64 (hl.2.2 c hc).1
  have ht := wf_i64 ht
  obtain ⟨K, hK⟩ : ∃ K : Nat, 2000 ≤ K := ⟨_, Nat.le_refl _⟩
  refine ⟨K, ?_⟩
  unfold ephemerislaw1_ZoneOffsets.f ephemerislaw1_base.f
  rw [Option.bind_some]
  simp only
  have hz0 : znAll ⟨#[98, 97, 115, 101]⟩ 3600000 [(⟨0, 7200000, (⟨#[83, 85, 77]⟩ : ByteArray)⟩ : S47)] = 0 := by decide +kernel
  obtain ⟨r, hr, hp⟩ := zone_Offset_ok ⟨#[98, 97, 115, 101]⟩ 3600000 [(⟨0, 7200000, (⟨#[83, 85, 77]⟩ : ByteArray)⟩ : S47)] (-1) base_wf (by decide) K (by omega) (by unfold znBegin; rw [if_pos hz0]; decide) (znAll_ok hz0).2.2
  obtain rfl : r = 0 := by
    rcases Nat.eq_zero_or_pos r with h | h
    · exact h
    · have := hp.2.1 0 h
      exact absurd this (by decide)
  rw [hr, Option.bind_some, show atPos 3600000 [(⟨0, 7200000, (⟨#[83, 85, 77]⟩ : ByteArray)⟩ : S47)] 0 = (3600000, ⟨#[]⟩) from rfl]
  simp only
  rw [if_pos trivial, if_pos none_toList]
  obtain ⟨k, rfl⟩ : ∃ m, K = m + 4 := ⟨K - 4, by omega⟩
  rw [show k + 4 = (k + 3) + 1 from rfl]
  simp only [ephemerislaw1_ZoneOffsets.j0]
  rw [if_neg (by decide)]
  by_cases h1 : znAll s o l = 0
  · obtain ⟨hn, hoo, hz⟩ := znAll_ok h1
    by_cases h2 : -4000000 ≤ t / 86400000 ∧ t / 86400000 ≤ 4000000
    · have hb : znBegin s o l t = 0 := by unfold znBegin; rw [if_pos h1, if_pos h2]
      obtain ⟨r, hr, hp⟩ := zone_Offset_ok s o l t hw ht (k + 3) (by omega) hb hz
      obtain ⟨q, hq, hpq⟩ := zone_Next_ok s o l t hw ht (k + 3) (by omega) hb hz
      obtain rfl := IsPos_eq hp hpq
      rw [hr, Option.bind_some, hq, Option.bind_some, ephemerisref1_ZoneError_f s o l hw (k + 3) (by omega), Option.bind_some, if_pos h1, ephemerisref1_Instant_f (k + 3) (by omega) ht.1 ht.2, decide_eq_true h2, Option.bind_some]
      rw [show k + 3 = (k + 2) + 1 from rfl]
      simp only [ephemerislaw1_ZoneOffsets.j1]
      rw [if_neg (by decide)]
      rw [show k + 2 = (k + 1) + 1 from rfl]
      simp only [ephemerislaw1_ZoneOffsets.j2]
      rw [if_pos h1, ephemerisref1_OffsetAt_f s o l t r hz.1 hp (k + 1) (by omega), Option.bind_some, if_pos trivial, if_pos rfl]
      simp only [ephemerislaw1_ZoneOffsets.j3, bne_self_eq_false, Bool.false_eq_true, if_false]
      exact offsets_l0 l t r hz.1 hp _ _ _ _ rfl l.length 0 k (by omega) (by omega) (by have := hz.1; omega)
    · have hb : znBegin s o l t = 3 := by unfold znBegin; rw [if_pos h1, if_neg h2]
      rw [zone_Offset_bad s o l t hw ht (k + 3) (by omega) (by rw [hb]; decide), zone_Next_bad s o l t hw ht (k + 3) (by omega) (by rw [hb]; decide), hb, Option.bind_some, Option.bind_some, ephemerisref1_ZoneError_f s o l hw (k + 3) (by omega), Option.bind_some, if_pos h1, ephemerisref1_Instant_f (k + 3) (by omega) ht.1 ht.2, decide_eq_false h2, Option.bind_some]
      rw [show k + 3 = (k + 2) + 1 from rfl]
      simp only [ephemerislaw1_ZoneOffsets.j1]
      rw [if_pos (by decide)]
      exact offsets_j2_bad t 3 3 3 s o l (by decide) rfl rfl (k + 1)
  · have hb : znBegin s o l t = znAll s o l := by unfold znBegin; rw [if_neg h1]
    rw [zone_Offset_bad s o l t hw ht (k + 3) (by omega) (by rw [hb]; exact h1), zone_Next_bad s o l t hw ht (k + 3) (by omega) (by rw [hb]; exact h1), hb, Option.bind_some, Option.bind_some, ephemerisref1_ZoneError_f s o l hw (k + 3) (by omega), Option.bind_some, if_neg h1]
    rw [show k + 3 = (k + 2) + 1 from rfl]
    simp only [ephemerislaw1_ZoneOffsets.j1]
    rw [if_neg (by decide)]
    exact offsets_j2_bad t _ _ _ s o l h1 rfl rfl (k + 1)
end Go.Proofs.YtpkgpohjmcoplaaDoor.Pure
