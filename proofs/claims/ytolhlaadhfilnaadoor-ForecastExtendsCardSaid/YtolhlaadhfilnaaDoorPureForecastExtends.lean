/- The law ForecastExtends over numbers and lists: what the law's functions tell, and that the law holds. -/
import Derived.Test.YtolhlaadhfilnaaDoorPForecastExtendsx16
import Derived.Test.YtolhlaadhfilnaaDoorM
import Derived.Test.YtolhlaadhfilnaaDoorT
import Derived.Test.YtolhlaadhfilnaaDoorZ
import Derived.Test.YtolhlaadhfilnaaDoorG
import Derived.Test.YtolhlaadhfilnaaDoorO
namespace Go.Proofs.YtolhlaadhfilnaaDoor.Pure
open Go.RowKit Go.Proofs.YtolhlaadhfilnaaDoor.PForecastExtends Go.Proofs.YtolhlaadhfilnaaDoorW.PrintWords Go.Proofs.YtolhlaadhfilnaaDoorW.PrintLast Go.Proofs.YtolhlaadhfilnaaDoor.M Go.Proofs.YtolhlaadhfilnaaDoor.T Go.Proofs.YtolhlaadhfilnaaDoor.Z Go.Proofs.YtolhlaadhfilnaaDoor.G Go.Proofs.YtolhlaadhfilnaaDoor.O
set_option linter.unusedVariables false
set_option linter.unusedSimpArgs false
/-- The law over numbers and lists. -/
def ephemerislaw1_ForecastExtends.Pure : Prop := ∀ (a0_0 : ByteArray) (a0_1 : Int) (l0_2 : List (S43)) (l1 : List (S92)) (a2 : Int) (a3 : Int), a0_0.size ≤ 140737488351232 → (Lit.int .i64 a0_1).wf = true → (l0_2.length * 32 ≤ 140737488351232 ∧ l0_2.length ≤ 9223372036854775807 ∧ ∀ v ∈ l0_2, ((Lit.int .i64 v.f0).wf = true ∧ (Lit.int .i64 v.f1).wf = true ∧ v.f2.size ≤ 140737488351232)) → (l1.length * 56 ≤ 140737488351232 ∧ l1.length ≤ 9223372036854775807 ∧ ∀ v ∈ l1, ((Lit.int .i64 v.f0).wf = true ∧ (Lit.int .i64 v.f1).wf = true ∧ (Lit.int .i64 v.f2).wf = true ∧ (Lit.int .i64 v.f3).wf = true ∧ (Lit.int .i64 v.f4).wf = true ∧ v.f5.size ≤ 140737488351232)) → (Lit.int .i64 a2).wf = true → (Lit.int .i64 a3).wf = true → ∃ k, ephemerislaw1_ForecastExtends.f k a0_0 a0_1 l0_2 l1 a2 a3 = some true

theorem ephemerisref1_In_f (x lo hi : Int) : ephemerisref1_In.f x lo hi = some (decide (lo ≤ x ∧ x ≤ hi)) := by
  unfold ephemerisref1_In.f
  by_cases h : x ≥ lo
  · rw [if_pos h]; congr 1; simp; omega
  · rw [if_neg h]; congr 1; simp; omega

theorem ephemerisref1_Day_f (x : Int) : ephemerisref1_Day.f x = some (decide (-4000000 ≤ x ∧ x ≤ 4000000)) := by
  unfold ephemerisref1_Day.f
  rw [ephemerisref1_In_f]; rfl

theorem ephemerisref1_Size_f {a : Int} (h0 : -9223372036854775808 ≤ a) (h1 : a ≤ 9223372036854775807) : ephemerisref1_Size.f a = some (ab a) := by
  unfold ephemerisref1_Size.f ab
  by_cases c : a < 0
  · rw [if_pos c, if_pos c, w64_id (n := a + 1) (by omega) (by omega), w64_id (n := -(a + 1)) (by omega) (by omega), u64_id (n := -(a + 1)) (by omega) (by omega), u64_id (by omega) (by omega)]
    congr 1; omega
  · rw [if_neg c, if_neg c, u64_id (by omega) (by omega)]

theorem ephemerisref1_Div_l0 (X Y : Int) (hX : 0 ≤ X) (hX1 : X < 18446744073709551616) (hY : 0 < Y) (hY1 : Y ≤ 9223372036854775808) :
    ∀ (n k : Nat), n ≤ 64 → n < k → ephemerisref1_Div.l0 k X Y (X / 2 ^ n / Y * 2 ^ n) (X / 2 ^ n % Y) ((n : Int) - 1) = some (X / Y, X % Y) := by
  intro n
  induction n with
  | zero =>
    intro k _ hk
    obtain ⟨k, rfl⟩ : ∃ m, k = m + 1 := ⟨k - 1, by omega⟩
    simp only [ephemerisref1_Div.l0]
    rw [if_neg (by omega)]
    simp
  | succ n ih =>
    intro k hn hk
    obtain ⟨k, rfl⟩ : ∃ m, k = m + 1 := ⟨k - 1, by omega⟩
    have ih := ih k (by omega) (by omega)
    have hhp := half_pow X n
    have hpow : (2 : Int) ^ (n + 1) = 2 * 2 ^ n := by rw [Int.pow_succ, Int.mul_comm]
    have hpp := pow_pos' n
    have hp63 := pow_le_63 n (by omega)
    have hd1 := div_pow_le X Y (n + 1) hX hY
    have hd0 := div_pow_le X Y n hX hY
    have hz : 0 ≤ X / 2 ^ n := Int.ediv_nonneg hX (by omega)
    obtain ⟨s1, s2⟩ := long_step (X / 2 ^ n) Y hz hY
    rw [← hhp] at s1 s2
    have r0 := Int.emod_nonneg (X / 2 ^ (n + 1)) (b := Y) (by omega)
    have r1 := Int.emod_lt_of_pos (X / 2 ^ (n + 1)) hY
    have hshr : shr .u64 X ((n : Int) + 1 - 1) = X / 2 ^ n := by
      rw [show (n : Int) + 1 - 1 = n from by omega]; exact shr_pow X n (by omega)
    have hshl : shl .u64 1 ((n : Int) + 1 - 1) = 2 ^ n := by
      rw [show (n : Int) + 1 - 1 = n from by omega]; exact shl_one n (by omega)
    have hzx : X / 2 ^ n ≤ X := Int.ediv_le_self _ hX
    have hmod : (X / 2 ^ (n + 1) / Y * 2 ^ (n + 1)) % 2 ^ (n + 1) = 0 := Int.mul_emod_left _ _
    have hor : Go.bits .or .u64 (X / 2 ^ (n + 1) / Y * 2 ^ (n + 1)) (2 ^ n) = X / 2 ^ (n + 1) / Y * 2 ^ (n + 1) + 2 ^ n :=
      or_join (n + 1) _ _ hd1.1 (by omega) hmod (by omega) (by omega) (by omega)
    have q2 : X / 2 ^ (n + 1) / Y * 2 ^ (n + 1) = 2 * (X / 2 ^ (n + 1) / Y) * 2 ^ n := by
      rw [hpow, Int.mul_comm 2 (X / (2 * 2 ^ n) / Y), Int.mul_assoc]
    generalize hR : X / 2 ^ (n + 1) % Y = R at *
    generalize hQ : X / 2 ^ (n + 1) / Y * 2 ^ (n + 1) = Q at *
    simp only [ephemerisref1_Div.l0]
    rw [show (((n + 1 : Nat) : Int) - 1) = (n : Int) + 1 - 1 from by omega]
    rw [if_pos (by omega), hshr, hshl, hor, w64_id (n := (n : Int) + 1 - 1 - 1) (by omega) (by omega), show (n : Int) + 1 - 1 - 1 = (n : Int) - 1 from by omega]
    rw [Go.Proofs.YtolhlaadhfilnaaDoor.M.and_one _ hz (by omega), u64_id (n := R * 2) (by omega) (by omega)]
    have hbit := Int.emod_nonneg (X / 2 ^ n) (b := 2) (by omega)
    have hbit1 := Int.emod_lt_of_pos (X / 2 ^ n) (b := 2) (by omega)
    rw [or_join 1 (R * 2) _ (by omega) (by omega) (by simp only [Int.reducePow]; omega) hbit (by simp only [Int.reducePow]; omega) (by omega)]
    rw [if_neg (by omega)]
    rw [show R * 2 + X / 2 ^ n % 2 = 2 * R + X / 2 ^ n % 2 from by omega]
    by_cases c : Y ≤ 2 * R + X / 2 ^ n % 2
    · rw [if_pos c, u64_id (by omega) (by omega)]
      have e := s1 c
      rw [e.1, e.2, Int.add_mul, Int.one_mul, ← q2] at ih
      exact ih
    · rw [if_neg c]
      have e := s2 c
      rw [e.1, e.2, ← q2] at ih
      exact ih
theorem ephemerisref1_Div_f {a b : Int} (k : Nat) (hk : 65 ≤ k) (ha : -9223372036854775808 ≤ a) (ha1 : a ≤ 9223372036854775807) (hb : -9223372036854775808 ≤ b) (hb1 : b ≤ 9223372036854775807) : ephemerisref1_Div.f k a b = some (divs a b) := by
  unfold ephemerisref1_Div.f
  by_cases c : b = 0
  · rw [if_pos c]; unfold divs; rw [if_pos c]
  rw [if_neg c, ephemerisref1_Size_f ha ha1, ephemerisref1_Size_f hb hb1]
  simp only [Option.bind_some]
  have hX := ab_nonneg a
  have hX1 := ab_le ha ha1
  have hY1 := ab_le hb hb1
  have hY : 0 < ab b := by unfold ab; split <;> omega
  have h64 := ephemerisref1_Div_l0 (ab a) (ab b) hX (by omega) hY hY1 64 k (by omega) (by omega)
  have hz : ab a / 2 ^ 64 = 0 := Int.ediv_eq_zero_of_lt hX (by simp only [Int.reducePow]; omega)
  rw [hz] at h64
  simp only [Int.zero_ediv, Int.zero_mul, Int.zero_emod] at h64
  rw [show (((64 : Nat) : Int) - 1) = 63 from by omega] at h64
  rw [h64]
  simp only [Option.bind_some, Option.some.injEq]
  have h1 := Int.mul_ediv_add_emod (ab a) (ab b)
  have h2 := Int.emod_nonneg (ab a) (b := ab b) (by omega)
  have h3 := Int.emod_lt_of_pos (ab a) hY
  have h4 : ab a / ab b ≤ ab a := Int.ediv_le_self _ hX
  have h5 : 0 ≤ ab a / ab b := Int.ediv_nonneg hX (by omega)
  have h6 : 2 ≤ ab b → ab a / ab b ≤ 4611686018427387904 := fun h => by
    have : ab a / ab b ≤ ab a / 2 := by
      have := Int.ediv_le_ediv (c := 2) (by omega) (a := ab a / ab b * 2) (b := ab a) (by
        have : ab a / ab b * 2 ≤ ab a / ab b * ab b := Int.mul_le_mul_of_nonneg_left h h5
        rw [Int.mul_comm (ab b)] at h1
        omega)
      omega
    omega
  have h7 : ab b = 1 → ab a / ab b = ab a ∧ ab a % ab b = 0 := fun h => by rw [h]; omega
  have uniq : ∀ {q r : Int}, a = b * q + r → (0 < b → 0 ≤ r ∧ r < b) → (b < 0 → b < r ∧ r ≤ 0) → ¬ (a = -9223372036854775808 ∧ b = -1) → divs a b = (q, r, 0) := by
    intro q r e1 e2 e3 e4
    have := fd_uniq e1 e2 e3 c
    unfold divs
    rw [if_neg c, if_neg e4, this.1, this.2]
  generalize hq : ab a / ab b = q at *
  generalize hr : ab a % ab b = r at *
  clear h64 hz
  have eY : ∀ s : Int, (-(ab b)) * s = -(ab b * s) := fun s => by rw [Int.neg_mul]
  by_cases sa : a < 0 <;> by_cases sb : b < 0
  · have xa : a = -(ab a) := by unfold ab; rw [if_pos sa]; omega
    have xb : b = -(ab b) := by unfold ab; rw [if_pos sb]; omega
    simp only [ephemerisref1_Div.e0, ephemerisref1_Div.e1, sa, sb, decide_true, bne_self_eq_false, Bool.false_eq_true, false_and, if_false, true_and, if_true]
    by_cases c2 : q > 9223372036854775807
    · rw [if_pos c2]
      unfold divs
      have : ab b = 1 := by
        by_cases h : 2 ≤ ab b
        · have := h6 h; omega
        · omega
      rw [if_neg c, if_pos (by omega)]
    · rw [if_neg c2, w64_id (by omega) (by omega), u64_def, w64_def]
      rw [uniq (q := q) (r := -r) (by rw [xb, eY]; omega) (by omega) (by omega) (fun h => by have := h7 (by omega); omega)]
      congr 2; omega
  · have xa : a = -(ab a) := by unfold ab; rw [if_pos sa]; omega
    have xb : b = ab b := by unfold ab; rw [if_neg sb]
    simp only [ephemerisref1_Div.e0, ephemerisref1_Div.e1, sa, sb, decide_true, decide_false, Bool.bne_false, Bool.false_eq_true, true_and, if_true, Bool.true_eq_false, false_and, if_false]
    by_cases c2 : r = 0
    · rw [if_neg (fun h => h c2), u64_def, w64_def, w64_id (by omega) (by omega)]
      rw [uniq (q := -q) (r := 0) (by rw [xb, Int.mul_neg]; omega) (by omega) (by omega) (by omega)]
      rw [c2]
      congr 1; omega
    · rw [if_pos c2, u64_id (n := q + 1) (by omega) (by omega), u64_id (n := ab b - r) (by omega) (by omega), u64_def, w64_def, w64_id (by omega) (by omega)]
      have : q ≤ 9223372036854775807 := by
        by_cases h : 2 ≤ ab b
        · have := h6 h; omega
        · have := h7 (by omega); omega
      have eb : b * q = ab b * q := by rw [← xb]
      rw [uniq (q := -(q + 1)) (r := ab b - r) (by rw [Int.mul_neg, Int.mul_add, Int.mul_one, eb]; omega) (by omega) (by omega) (by omega)]
      congr 1; omega
  · have xa : a = ab a := by unfold ab; rw [if_neg sa]
    have xb : b = -(ab b) := by unfold ab; rw [if_pos sb]; omega
    simp only [ephemerisref1_Div.e0, ephemerisref1_Div.e1, sa, sb, decide_true, decide_false, Bool.bne_true, Bool.not_false, Bool.false_eq_true, true_and, if_true, Bool.true_eq_false, false_and, if_false]
    by_cases c2 : r = 0
    · rw [if_neg (fun h => h c2), u64_def, w64_def, u64_def, w64_def]
      rw [uniq (q := -q) (r := 0) (by rw [xb, eY, Int.mul_neg]; omega) (by omega) (by omega) (by omega)]
      rw [c2]
      congr 1
      omega
    · rw [if_pos c2, u64_id (n := q + 1) (by omega) (by omega), u64_id (n := ab b - r) (by omega) (by omega), u64_def, w64_def, u64_def, w64_def]
      have eb := eY q
      rw [← xb] at eb
      rw [uniq (q := -(q + 1)) (r := -(ab b - r)) (by rw [Int.mul_neg, Int.mul_add, Int.mul_one, eb]; omega) (by omega) (by omega) (by omega)]
      congr 1
      · omega
      · congr 1; omega
  · have xa : a = ab a := by unfold ab; rw [if_neg sa]
    have xb : b = ab b := by unfold ab; rw [if_neg sb]
    simp only [ephemerisref1_Div.e0, ephemerisref1_Div.e1, sa, sb, decide_false, bne_self_eq_false, Bool.false_eq_true, false_and, if_false, true_and]
    rw [if_neg (by omega), w64_id (by omega) (by omega), w64_id (by omega) (by omega)]
    rw [uniq (q := q) (r := r) (by rw [xb]; omega) (by omega) (by omega) (by omega)]

theorem ephemerisref1_Floor_f {a b : Int} (k : Nat) (hk : 65 ≤ k) (ha : -9223372036854775808 ≤ a) (ha1 : a ≤ 9223372036854775807) (hb : 0 < b) (hb1 : b ≤ 9223372036854775807) : ephemerisref1_Floor.f k a b = some (a / b) := by
  unfold ephemerisref1_Floor.f
  rw [ephemerisref1_Div_f k hk ha ha1 (by omega) hb1, divs_pos hb]
  rfl

theorem ephemerisref1_Instant_f {t : Int} (k : Nat) (hk : 65 ≤ k) (h0 : -9223372036854775808 ≤ t) (h1 : t ≤ 9223372036854775807) : ephemerisref1_Instant.f k t = some (decide (-4000000 ≤ t / 86400000 ∧ t / 86400000 ≤ 4000000)) := by
  unfold ephemerisref1_Instant.f
  rw [ephemerisref1_Floor_f k hk h0 h1 (by omega) (by omega)]
  simp only [Option.bind_some]
  rw [ephemerisref1_Day_f]; rfl

theorem ephemerisref1_Name_l0 (s : ByteArray) (hs : s.size ≤ 12) : ∀ (d i k : Nat), i + d = s.size → d < k →
    ephemerisref1_Name.l0 k s (s.size : Int) (i : Int) = some (noWord s && letters (s.data.toList.drop i)) := by
  intro d
  induction d with
  | zero =>
    intro i k hi hk
    obtain ⟨k, rfl⟩ : ∃ m, k = m + 1 := ⟨k - 1, by omega⟩
    obtain rfl : i = s.size := by omega
    simp only [ephemerisref1_Name.l0]
    rw [if_neg (by omega), letters_end, Bool.and_true]
    unfold noWord
    by_cases c1 : s.toList = [121]
    · rw [if_pos c1]; simp [c1]
    rw [if_neg c1, bne_iff_ne.2 c1]
    by_cases c2 : s.toList = [97, 110, 100]
    · rw [if_pos c2]; simp [c2]
    rw [if_neg c2, bne_iff_ne.2 c2]
    by_cases c3 : s.toList = [111, 114]
    · rw [if_pos c3]; simp [c3]
    rw [if_neg c3, bne_iff_ne.2 c3]
    rfl
  | succ d ih =>
    intro i k hi hk
    obtain ⟨k, rfl⟩ : ∃ m, k = m + 1 := ⟨k - 1, by omega⟩
    simp only [ephemerisref1_Name.l0]
    rw [if_pos (by omega), if_pos (by omega), if_pos (by omega), letters_cons s i (by omega)]
    by_cases c1 : bt s i < 97
    · rw [if_pos c1, decide_eq_false (show ¬ 97 ≤ bt s i by omega)]; simp
    rw [if_neg c1, decide_eq_true (show 97 ≤ bt s i by omega)]
    by_cases c2 : bt s i > 122
    · rw [if_pos c2, decide_eq_false (show ¬ bt s i ≤ 122 by omega)]; simp
    rw [if_neg c2, decide_eq_true (show bt s i ≤ 122 by omega), w64_id (by omega) (by omega)]
    have := ih (i + 1) k (by omega) (by omega)
    rw [show ((i + 1 : Nat) : Int) = (i : Int) + 1 from by omega] at this
    rw [this]; simp
theorem ephemerisref1_Name_f (s : ByteArray) (k : Nat) (hk : 20 ≤ k) : ephemerisref1_Name.f k s = some (isName s) := by
  obtain ⟨k, rfl⟩ : ∃ m, k = m + 1 := ⟨k - 1, by omega⟩
  unfold ephemerisref1_Name.f isName
  by_cases h1 : s.toList = []
  · rw [if_pos h1, decide_eq_false (show ¬ 1 ≤ s.size by have := (toList_nil s).1 h1; omega)]
    simp [ephemerisref1_Name.j0]
  have h1' : ¬ s.size = 0 := fun h => h1 ((toList_nil s).2 h)
  rw [if_neg h1, decide_eq_true (show 1 ≤ s.size by omega)]
  simp only [ephemerisref1_Name.j0, decide_eq_true_eq]
  by_cases h2 : (s.size : Int) > 12
  · rw [if_pos h2, decide_eq_false (show ¬ s.size ≤ 12 by omega)]; rfl
  rw [if_neg h2, decide_eq_true (show s.size ≤ 12 by omega)]
  exact ephemerisref1_Name_l0 s (by omega) s.size 0 k (by omega) (by omega)

theorem ephemerisref1_Mod_f {a b : Int} (k : Nat) (hk : 65 ≤ k) (ha : -9223372036854775808 ≤ a) (ha1 : a ≤ 9223372036854775807) (hb : 0 < b) (hb1 : b ≤ 9223372036854775807) : ephemerisref1_Mod.f k a b = some (a % b) := by
  unfold ephemerisref1_Mod.f
  rw [ephemerisref1_Div_f k hk ha ha1 (by omega) hb1, divs_pos hb]
  rfl

theorem ephemerisref1_Offset_f (x : Int) (k : Nat) (hk : 65 ≤ k) : ephemerisref1_Offset.f k x = some (okOff x) := by
  unfold ephemerisref1_Offset.f okOff
  rw [ephemerisref1_In_f, Option.bind_some]
  by_cases h : -64800000 ≤ x ∧ x ≤ 64800000
  · rw [decide_eq_true h, if_pos rfl, ephemerisref1_Mod_f k hk (by omega) (by omega) (by omega) (by omega), Option.bind_some]
    congr 1
    by_cases c : x % 1000 = 0
    · rw [decide_eq_true ⟨h.1, h.2, c⟩, c]; rfl
    · rw [decide_eq_false (fun g => c g.2.2)]; simpa using c
  · rw [decide_eq_false h, if_neg (by decide), decide_eq_false (fun g => h ⟨g.1, g.2.1⟩)]

theorem ephemerisref1_Label_f (s : ByteArray) : ephemerisref1_Label.f s = some (isLabel s) := by
  unfold ephemerisref1_Label.f isLabel
  rw [ephemerisref1_In_f, Option.bind_some]
  by_cases h : 1 ≤ s.size ∧ s.size ≤ 6
  · rw [decide_eq_true (show (1 : Int) ≤ (s.size : Int) ∧ (s.size : Int) ≤ 6 by omega), if_pos rfl, decide_eq_true h]
    unfold strings_Trim.f
    rw [if_pos ⟨by omega, by decide, by decide⟩, Option.bind_some]
    congr 1
    rw [Bool.true_and, toList_data]
    show (Go.Lib.trimS s.data.toList abc == []) = caps s.data.toList
    by_cases c : caps s.data.toList = true
    · rw [c, (trim_caps _).2 c]; rfl
    · rw [Bool.not_eq_true] at c
      rw [c, beq_eq_false_iff_ne]
      intro e
      rw [(trim_caps _).1 e] at c
      cases c
  · rw [decide_eq_false (show ¬ ((1 : Int) ≤ (s.size : Int) ∧ (s.size : Int) ≤ 6) by omega), if_neg (by decide), decide_eq_false h]; rfl

/-- A change whose instant or offset is out of range. -/
def znBad (c : S43) : Bool := !(decide (-4000000 ≤ c.f0 / 86400000 ∧ c.f0 / 86400000 ≤ 4000000) && okOff c.f1)
/-- The first fault of the changes from the i-th on (d of them). -/
def znErr (l : List S43) : Nat → Nat → Int
  | 0, _ => 0
  | d + 1, i => if znBad (l.getD i z43) = true then 3 else if isLabel (l.getD i z43).f2 = true then (if 0 < i ∧ (l.getD i z43).f0 ≤ (l.getD (i - 1) z43).f0 then 9 else znErr l d (i + 1)) else 8
/-- What both checks of a zone tell. -/
def znAll (s : ByteArray) (o : Int) (l : List S43) : Int := if isName s = true then (if okOff o = true then (if l.length ≤ 200 then znErr l l.length 0 else 2) else 3) else 5
/-- The instants are numbers that an int holds. -/
def znWf (l : List S43) : Prop := ∀ c ∈ l, -9223372036854775808 ≤ c.f0 ∧ c.f0 ≤ 9223372036854775807
theorem znWf_get {l : List S43} (h : znWf l) {i : Nat} (hi : i < l.length) : -9223372036854775808 ≤ (l.getD i z43).f0 ∧ (l.getD i z43).f0 ≤ 9223372036854775807 := by
  rw [List.getD_eq_getElem?_getD, List.getElem?_eq_getElem hi]
  exact h _ (List.getElem_mem hi)
theorem zn_split (b x : Bool) {α : Type} (u : α) (e : Int) (y : Int) (v : Option Int) (p : Prop) [Decidable p] (h : v = some y) :
    (if b = true then some (3 : Int) else if x = true then (if p then some 9 else v) else some 8) = some (if b = true then 3 else if x = true then (if p then 9 else y) else 8) := by
  subst h
  split
  · rfl
  · split
    · split
      · rfl
      · rfl
    · rfl

theorem ephemerisref1_ZoneError_j1 (l : List S43) (s : ByteArray) (o : Int) (hl : l.length ≤ 200) (i : Nat) (hi : i < l.length) (k : Nat) (t : Bool) (y : Int) (hy : ephemerisref1_ZoneError.l0 k l (l.length : Int) ((i + 1 : Nat) : Int) s o l = some y) :
    ephemerisref1_ZoneError.j1 (k + 1) (i : Int) l (l.length : Int) (i : Int) t s o l (l.getD i z43).f0 (l.getD i z43).f1 (l.getD i z43).f2
      = some (if t = true then 3 else if isLabel (l.getD i z43).f2 = true then (if 0 < i ∧ (l.getD i z43).f0 ≤ (l.getD (i - 1) z43).f0 then 9 else y) else 8) := by
  simp only [ephemerisref1_ZoneError.j1]
  by_cases h : t = true
  · rw [if_pos h, if_pos h]
  rw [if_neg h, if_neg h, ephemerisref1_Label_f, Option.bind_some]
  by_cases h2 : isLabel (l.getD i z43).f2 = true
  · rw [if_pos h2, if_pos h2, w64_id (n := (i : Int) + 1) (by omega) (by omega), show ((i : Int) + 1) = ((i + 1 : Nat) : Int) from by omega, hy]
    by_cases h3 : 0 < i
    · rw [if_pos (by omega), w64_id (n := (i : Int) - 1) (by omega) (by omega), if_pos (by omega), if_pos (by omega)]
      rw [show rd_T43 l ((i : Int) - 1) = l.getD (i - 1) z43 from by unfold rd_T43; rw [show ((i : Int) - 1).toNat = i - 1 by omega]]
      by_cases h4 : (l.getD i z43).f0 ≤ (l.getD (i - 1) z43).f0
      · rw [if_pos (show _ ≥ _ from h4), if_pos ⟨h3, h4⟩]
      · rw [if_neg (show ¬ _ ≥ _ from h4), if_neg (fun g => h4 g.2)]
    · rw [if_neg (by omega), if_neg (fun g => h3 g.1)]
  · rw [if_neg h2, if_neg h2]
theorem ephemerisref1_ZoneError_l0 (l : List S43) (s : ByteArray) (o : Int) (hl : l.length ≤ 200) (hw : znWf l) : ∀ (d i k : Nat), i + d = l.length → 2 * d + 70 < k → ephemerisref1_ZoneError.l0 k l (l.length : Int) (i : Int) s o l = some (znErr l d i) := by
  intro d
  induction d with
  | zero =>
    intro i k hi hk
    obtain ⟨k, rfl⟩ : ∃ m, k = m + 1 := ⟨k - 1, by omega⟩
    simp only [ephemerisref1_ZoneError.l0]
    rw [if_neg (by omega)]; rfl
  | succ d ih =>
    intro i k hi hk
    obtain ⟨k, rfl⟩ : ∃ m, k = m + 2 := ⟨k - 2, by omega⟩
    rw [show k + 2 = (k + 1) + 1 from rfl]
    simp only [ephemerisref1_ZoneError.l0]
    rw [if_pos (by omega), if_pos (by omega), if_pos (by omega), show rd_T43 l (i : Int) = l.getD i z43 from rfl]
    have hg := znWf_get hw (i := i) (by omega)
    have hj := fun t => ephemerisref1_ZoneError_j1 l s o hl i (by omega) k t _ (ih (i + 1) k (by omega) (by omega))
    unfold znErr
    rw [ephemerisref1_Instant_f (k + 1) (by omega) hg.1 hg.2, Option.bind_some]
    by_cases c : -4000000 ≤ (l.getD i z43).f0 / 86400000 ∧ (l.getD i z43).f0 / 86400000 ≤ 4000000
    · rw [decide_eq_true c, if_pos rfl, ephemerisref1_Offset_f _ (k + 1) (by omega), Option.bind_some, hj]
      rw [show (!(okOff (l.getD i z43).f1)) = znBad (l.getD i z43) from by unfold znBad; rw [decide_eq_true c, Bool.true_and]]
    · rw [decide_eq_false c, if_neg (by decide), hj]
      rw [show (true : Bool) = znBad (l.getD i z43) from by unfold znBad; rw [decide_eq_false c]; rfl]
theorem ephemerisref1_ZoneError_f (s : ByteArray) (o : Int) (l : List S43) (hw : znWf l) (k : Nat) (hk : 600 ≤ k) : ephemerisref1_ZoneError.f k s o l = some (znAll s o l) := by
  unfold ephemerisref1_ZoneError.f znAll
  rw [ephemerisref1_Name_f _ k (by omega), Option.bind_some]
  by_cases h1 : isName s = true
  · rw [if_pos h1, if_pos h1, ephemerisref1_Offset_f _ k (by omega), Option.bind_some]
    by_cases h2 : okOff o = true
    · rw [if_pos h2, if_pos h2]
      by_cases h3 : l.length ≤ 200
      · rw [if_neg (by omega), if_pos h3]
        exact ephemerisref1_ZoneError_l0 l s o h3 hw l.length 0 k (by omega) (by omega)
      · rw [if_pos (by omega), if_neg h3]
    · rw [if_neg h2, if_neg h2]
  · rw [if_neg h1, if_neg h1]

theorem line_Check_f (x : Int) : line_Check.f x = some (if -4000000 ≤ x ∧ x ≤ 4000000 then 0 else 3) := by
  unfold line_Check.f
  by_cases h : x < -4000000
  · rw [if_pos h, if_neg (by omega)]
  · rw [if_neg h]
    by_cases h2 : x > 4000000
    · rw [if_pos h2, if_neg (by omega)]
    · rw [if_neg h2, if_pos (by omega)]

theorem whole_Div_f {a b : Int} (k : Nat) (hk : 1 ≤ k) (ha : -9223372036854775808 ≤ a) (ha1 : a ≤ 9223372036854775807) (hb : -9223372036854775808 ≤ b) (hb1 : b ≤ 9223372036854775807) : whole_Div.f k a b = some (divs a b) := by
  obtain ⟨k, rfl⟩ : ∃ m, k = m + 1 := ⟨k - 1, by omega⟩
  unfold whole_Div.f divs
  by_cases c : b = 0
  · rw [if_pos c, if_pos c]
  rw [if_neg c, if_neg c]
  by_cases d : a = -9223372036854775808 ∧ b = -1
  · rw [if_pos d.1, if_pos d, d.2]; simp [whole_Div.j0]
  have e : (if a = (-9223372036854775808) then (whole_Div.j0 (k + 1) a b (b == (-1))) else (whole_Div.j0 (k + 1) a b false)) = whole_Div.j0 (k + 1) a b false := by
    by_cases c1 : a = -9223372036854775808
    · rw [if_pos c1, show (b == -1) = false from beq_eq_false_iff_ne.2 (fun h => d ⟨c1, h⟩)]
    · rw [if_neg c1]
  rw [e, if_neg d]
  simp only [whole_Div.j0, Bool.false_eq_true, if_false]
  rw [if_neg c]
  obtain ⟨b1, b2⟩ := tdiv_bound a b c ha ha1 d
  obtain ⟨g1, g2, g3⟩ := fd_of_t a b c
  obtain ⟨t0, t1, t2, t3, t4⟩ := tdm a b c
  rw [w64_id b1 b2]
  by_cases hz : Int.tmod a b = 0
  · rw [if_pos hz, (g1 hz).1, (g1 hz).2, hz]
  · rw [if_neg hz]
    cases hs : (decide (Int.tmod a b < 0) != decide (b < 0)) with
    | true =>
      have hq : fd a b = Int.tdiv a b - 1 := (g2 hz hs).1
      have hfs := fd_spec a b c
      have hlow : -9223372036854775808 ≤ Int.tdiv a b - 1 := by
        by_cases hm : Int.tdiv a b = -9223372036854775808
        · exfalso
          have h9 : (Int.tdiv a b).natAbs = a.natAbs / b.natAbs := Int.natAbs_tdiv a b
          rw [hm] at h9
          have h10 : a.natAbs / b.natAbs ≤ a.natAbs := Nat.div_le_self _ _
          by_cases hb2 : b.natAbs = 1
          · have : b = 1 ∨ b = -1 := by omega
            rcases this with rfl | rfl
            · exact hz (by rw [Int.tmod_one])
            · exact hz (by rw [Int.tmod_neg, Int.tmod_one])
          · have : a.natAbs / b.natAbs ≤ a.natAbs / 2 := Nat.div_le_div_left (by omega) (by omega)
            omega
        · omega
      have hss : (Int.tmod a b < 0 ∧ 0 < b) ∨ (0 < Int.tmod a b ∧ b < 0) := by
        by_cases hx : Int.tmod a b < 0 <;> by_cases hy : b < 0 <;> simp [hx, hy] at hs
        · exact .inl ⟨hx, by omega⟩
        · exact .inr ⟨by omega, hy⟩
      simp only [if_true]
      rw [(g2 hz hs).1, (g2 hz hs).2, w64_id hlow (by omega), w64_id (n := Int.tmod a b + b) (by omega) (by omega)]
    | false =>
      simp only [Bool.false_eq_true, if_false]
      rw [(g3 hz hs).1, (g3 hz hs).2]

theorem line_Split_f {t : Int} (k : Nat) (hk : 1 ≤ k) (h0 : -9223372036854775808 ≤ t) (h1 : t ≤ 9223372036854775807) : line_Split.f k t = some (if -4000000 ≤ t / 86400000 ∧ t / 86400000 ≤ 4000000 then (t / 86400000, t % 86400000, 0) else (0, 0, 3)) := by
  unfold line_Split.f
  rw [whole_Div_f k hk h0 h1 (by omega) (by omega), divs_pos (by omega)]
  simp only [Option.bind_some]
  rw [line_Check_f]
  simp only [Option.bind_some]
  by_cases h : -4000000 ≤ t / 86400000 ∧ t / 86400000 ≤ 4000000
  · rw [if_pos h, if_pos h, if_pos rfl]
  · rw [if_neg h, if_neg h, if_neg (by omega)]

theorem rule_Name_f (s : ByteArray) : rule_Name.f s = some (isName s) := by
  have e : rule_Name.all s.data.toList = letters s.data.toList := rfl
  unfold rule_Name.f isName noWord
  rw [e]
  congr 1
  by_cases h1 : (s.size : Int) < 1
  · rw [if_pos h1, decide_eq_false (show ¬ 1 ≤ s.size by omega)]; rfl
  rw [if_neg h1, decide_eq_true (show 1 ≤ s.size by omega)]
  by_cases h2 : (s.size : Int) > 12
  · rw [if_pos h2, decide_eq_false (show ¬ s.size ≤ 12 by omega)]; rfl
  rw [if_neg h2, decide_eq_true (show s.size ≤ 12 by omega)]
  by_cases c1 : s.toList = [121]
  · rw [if_pos c1]; simp [c1]
  rw [if_neg c1, bne_iff_ne.2 c1]
  by_cases c2 : s.toList = [97, 110, 100]
  · rw [if_pos c2]; simp [c2]
  rw [if_neg c2, bne_iff_ne.2 c2]
  by_cases c3 : s.toList = [111, 114]
  · rw [if_pos c3]; simp [c3]
  rw [if_neg c3, bne_iff_ne.2 c3]
  by_cases c4 : s.toList = [110, 111, 116]
  · rw [if_pos c4]; simp [c4]
  rw [if_neg c4, bne_iff_ne.2 c4]
  rfl

theorem zone_IsOffset_f (x : Int) : zone_IsOffset.f x = some (okOff x) := by
  unfold zone_IsOffset.f okOff
  rw [tmod_thousand]
  by_cases h1 : x ≥ (-64800000)
  · rw [if_pos h1]
    by_cases h2 : x ≤ 64800000
    · rw [if_pos h2]; congr 1
      by_cases c : x % 1000 = 0
      · rw [decide_eq_true c, decide_eq_true ⟨by omega, h2, c⟩]
      · rw [decide_eq_false c, decide_eq_false (fun h => c h.2.2)]
    · rw [if_neg h2, decide_eq_false (fun h => h2 h.2.1)]
  · rw [if_neg h1, decide_eq_false (fun h => h1 (by omega))]

theorem zone_IsLabel_f (s : ByteArray) : zone_IsLabel.f s = some (isLabel s) := by
  have e : zone_IsLabel.all s.data.toList = caps s.data.toList := rfl
  unfold zone_IsLabel.f isLabel
  rw [e]
  congr 1
  by_cases h1 : (s.size : Int) < 1
  · rw [if_pos h1, decide_eq_false (show ¬ (1 ≤ s.size ∧ s.size ≤ 6) by omega)]; rfl
  rw [if_neg h1]
  by_cases h2 : (s.size : Int) > 6
  · rw [if_pos h2, decide_eq_false (show ¬ (1 ≤ s.size ∧ s.size ≤ 6) by omega)]; rfl
  rw [if_neg h2, decide_eq_true (show 1 ≤ s.size ∧ s.size ≤ 6 by omega)]
  rfl

theorem zone_Check_j1 (l : List S43) (s : ByteArray) (o : Int) (hl : l.length ≤ 200) (i : Nat) (hi : i < l.length) (k : Nat) (t : Bool) (y : Int) (hy : zone_Check.l0 k l (l.length : Int) ((i + 1 : Nat) : Int) s o l = some y) :
    zone_Check.j1 (k + 1) (i : Int) l (l.length : Int) (i : Int) t s o l (l.getD i z43).f0 (l.getD i z43).f1 (l.getD i z43).f2
      = some (if t = true then 3 else if isLabel (l.getD i z43).f2 = true then (if 0 < i ∧ (l.getD i z43).f0 ≤ (l.getD (i - 1) z43).f0 then 9 else y) else 8) := by
  simp only [zone_Check.j1]
  by_cases h : t = true
  · rw [if_pos h, if_pos h]
  rw [if_neg h, if_neg h, zone_IsLabel_f, Option.bind_some]
  by_cases h2 : isLabel (l.getD i z43).f2 = true
  · rw [if_pos h2, if_pos h2, w64_id (n := (i : Int) + 1) (by omega) (by omega), show ((i : Int) + 1) = ((i + 1 : Nat) : Int) from by omega, hy]
    by_cases h3 : 0 < i
    · rw [if_pos (by omega), w64_id (n := (i : Int) - 1) (by omega) (by omega), if_pos (by omega), if_pos (by omega)]
      rw [show rd_T43 l ((i : Int) - 1) = l.getD (i - 1) z43 from by unfold rd_T43; rw [show ((i : Int) - 1).toNat = i - 1 by omega]]
      by_cases h4 : (l.getD i z43).f0 ≤ (l.getD (i - 1) z43).f0
      · rw [if_pos h4, if_pos ⟨h3, h4⟩]
      · rw [if_neg h4, if_neg (fun g => h4 g.2)]
    · rw [if_neg (by omega), if_neg (fun g => h3 g.1)]
  · rw [if_neg h2, if_neg h2]
theorem zone_Check_l0 (l : List S43) (s : ByteArray) (o : Int) (hl : l.length ≤ 200) (hw : znWf l) : ∀ (d i k : Nat), i + d = l.length → 2 * d + 5 < k → zone_Check.l0 k l (l.length : Int) (i : Int) s o l = some (znErr l d i) := by
  intro d
  induction d with
  | zero =>
    intro i k hi hk
    obtain ⟨k, rfl⟩ : ∃ m, k = m + 1 := ⟨k - 1, by omega⟩
    simp only [zone_Check.l0]
    rw [if_neg (by omega)]; rfl
  | succ d ih =>
    intro i k hi hk
    obtain ⟨k, rfl⟩ : ∃ m, k = m + 2 := ⟨k - 2, by omega⟩
    rw [show k + 2 = (k + 1) + 1 from rfl]
    simp only [zone_Check.l0]
    rw [if_pos (by omega), if_pos (by omega), if_pos (by omega), show rd_T43 l (i : Int) = l.getD i z43 from rfl]
    have hg := znWf_get hw (i := i) (by omega)
    have hj := fun t => zone_Check_j1 l s o hl i (by omega) k t _ (ih (i + 1) k (by omega) (by omega))
    unfold znErr
    rw [line_Split_f (k + 1) (by omega) hg.1 hg.2, Option.bind_some]
    by_cases c : -4000000 ≤ (l.getD i z43).f0 / 86400000 ∧ (l.getD i z43).f0 / 86400000 ≤ 4000000
    · rw [if_pos c, if_pos rfl, zone_IsOffset_f, Option.bind_some, hj]
      rw [show (!(okOff (l.getD i z43).f1)) = znBad (l.getD i z43) from by unfold znBad; rw [decide_eq_true c, Bool.true_and]]
    · rw [if_neg c, if_neg (by decide), hj]
      rw [show true = znBad (l.getD i z43) from by unfold znBad; rw [decide_eq_false c]; rfl]
theorem zone_Check_f (s : ByteArray) (o : Int) (l : List S43) (hw : znWf l) (k : Nat) (hk : 600 ≤ k) : zone_Check.f k s o l = some (znAll s o l) := by
  unfold zone_Check.f znAll
  rw [rule_Name_f, Option.bind_some]
  by_cases h1 : isName s = true
  · rw [if_pos h1, if_pos h1, zone_IsOffset_f, Option.bind_some]
    by_cases h2 : okOff o = true
    · rw [if_pos h2, if_pos h2]
      by_cases h3 : l.length ≤ 200
      · rw [if_neg (by omega), if_pos h3]
        exact zone_Check_l0 l s o h3 hw l.length 0 k (by omega) (by omega)
      · rw [if_pos (by omega), if_neg h3]
    · rw [if_neg h2, if_neg h2]
  · rw [if_neg h1, if_neg h1]

/-- A rule whose numbers are out of range. -/
def zrBad (r : S92) : Bool := !(decide ((1 ≤ r.f0 ∧ r.f0 ≤ 12) ∧ (1 ≤ r.f1 ∧ r.f1 ≤ 5) ∧ (0 ≤ r.f2 ∧ r.f2 ≤ 6) ∧ (0 ≤ r.f3 ∧ r.f3 ≤ 86399999)) && okOff r.f4)
/-- The first fault of the rules from the i-th on (d of them). -/
def zrErr (l : List S92) : Nat → Nat → Int
  | 0, _ => 0
  | d + 1, i => if zrBad (l.getD i z92) = true then 3 else if isLabel (l.getD i z92).f5 = true then (if 0 < i ∧ (l.getD i z92).f0 ≤ (l.getD (i - 1) z92).f0 then 9 else zrErr l d (i + 1)) else 8
/-- What both checks of rules tell. -/
def zrAll (l : List S92) : Int := if 1 ≤ l.length ∧ l.length ≤ 4 then zrErr l l.length 0 else 2

theorem forecast_Check_j2 (l : List S92) (hl : l.length ≤ 4) (i : Nat) (hi : i < l.length) (k : Nat) :
    forecast_Check.j2 (k + 1) l (i : Int) l (l.length : Int) (i : Int) (zrBad (l.getD i z92)) (l.getD i z92).f0 (l.getD i z92).f1 (l.getD i z92).f2 (l.getD i z92).f3 (l.getD i z92).f4 (l.getD i z92).f5
      = if zrBad (l.getD i z92) = true then some 3 else if isLabel (l.getD i z92).f5 = true then (if 0 < i ∧ (l.getD i z92).f0 ≤ (l.getD (i - 1) z92).f0 then some 9 else forecast_Check.l0 k l l (l.length : Int) ((i + 1 : Nat) : Int)) else some 8 := by
  simp only [forecast_Check.j2]
  by_cases h : zrBad (l.getD i z92) = true
  · rw [if_pos h, if_pos h]
  rw [if_neg h, if_neg h, zone_IsLabel_f, Option.bind_some]
  by_cases h2 : isLabel (l.getD i z92).f5 = true
  · rw [if_pos h2, if_pos h2, w64_id (n := (i : Int) + 1) (by omega) (by omega)]
    by_cases h3 : 0 < i
    · rw [if_pos (by omega), w64_id (n := (i : Int) - 1) (by omega) (by omega), if_pos (by omega), if_pos (by omega)]
      rw [show rd_T92 l ((i : Int) - 1) = l.getD (i - 1) z92 from by unfold rd_T92; rw [show ((i : Int) - 1).toNat = i - 1 by omega]]
      by_cases h4 : (l.getD i z92).f0 ≤ (l.getD (i - 1) z92).f0
      · rw [if_pos h4, if_pos ⟨h3, h4⟩]
      · rw [if_neg h4, if_neg (fun g => h4 g.2)]; rfl
    · rw [if_neg (by omega), if_neg (fun g => h3 g.1)]; rfl
  · rw [if_neg h2, if_neg h2]
theorem forecast_Check_l0 (l : List S92) (hl : l.length ≤ 4) : ∀ (d i k : Nat), i + d = l.length → 2 * d < k → forecast_Check.l0 k l l (l.length : Int) (i : Int) = some (zrErr l d i) := by
  intro d
  induction d with
  | zero =>
    intro i k hi hk
    obtain ⟨k, rfl⟩ : ∃ m, k = m + 1 := ⟨k - 1, by omega⟩
    simp only [forecast_Check.l0]
    rw [if_neg (by omega)]; rfl
  | succ d ih =>
    intro i k hi hk
    obtain ⟨k, rfl⟩ : ∃ m, k = m + 2 := ⟨k - 2, by omega⟩
    rw [show k + 2 = (k + 1) + 1 from rfl]
    simp only [forecast_Check.l0]
    rw [if_pos (by omega), if_pos (by omega), if_pos (by omega), show rd_T92 l (i : Int) = l.getD i z92 from rfl, zone_IsOffset_f, Option.bind_some]
    have hj := forecast_Check_j2 l hl i (by omega) k
    rw [ih (i + 1) k (by omega) (by omega)] at hj
    unfold zrErr
    generalize hr : l.getD i z92 = r at hj ⊢
    have hb : ∀ t, t = zrBad r → forecast_Check.j2 (k + 1) l (i : Int) l (l.length : Int) (i : Int) t r.f0 r.f1 r.f2 r.f3 r.f4 r.f5 = some (if zrBad r = true then 3 else if isLabel r.f5 = true then (if 0 < i ∧ r.f0 ≤ (l.getD (i - 1) z92).f0 then 9 else zrErr l d (i + 1)) else 8) := by
      intro t ht
      subst ht
      rw [hj]
      split
      · rfl
      · split
        · split
          · rfl
          · rfl
        · rfl
    have bad : ¬ ((1 ≤ r.f0 ∧ r.f0 ≤ 12) ∧ (1 ≤ r.f1 ∧ r.f1 ≤ 5) ∧ (0 ≤ r.f2 ∧ r.f2 ≤ 6) ∧ (0 ≤ r.f3 ∧ r.f3 ≤ 86399999)) → true = zrBad r := by
      intro h; unfold zrBad; rw [decide_eq_false h]; rfl
    by_cases c1 : r.f0 < 1
    · rw [if_pos c1]; exact hb _ (bad (by omega))
    rw [if_neg c1]
    by_cases c2 : r.f0 > 12
    · rw [if_pos c2]; exact hb _ (bad (by omega))
    rw [if_neg c2]
    by_cases c3 : r.f1 < 1
    · rw [if_pos c3]; exact hb _ (bad (by omega))
    rw [if_neg c3]
    by_cases c4 : r.f1 > 5
    · rw [if_pos c4]; exact hb _ (bad (by omega))
    rw [if_neg c4]
    by_cases c5 : r.f2 < 0
    · rw [if_pos c5]; exact hb _ (bad (by omega))
    rw [if_neg c5]
    by_cases c6 : r.f2 > 6
    · rw [if_pos c6]; exact hb _ (bad (by omega))
    rw [if_neg c6]
    by_cases c7 : r.f3 < 0
    · rw [if_pos c7]; exact hb _ (bad (by omega))
    rw [if_neg c7]
    by_cases c8 : r.f3 ≥ 86400000
    · rw [if_pos c8]; exact hb _ (bad (by omega))
    rw [if_neg c8]
    exact hb _ (by unfold zrBad; rw [decide_eq_true ⟨⟨by omega, by omega⟩, ⟨by omega, by omega⟩, ⟨by omega, by omega⟩, by omega, by omega⟩, Bool.true_and])
theorem forecast_Check_f (l : List S92) (k : Nat) (hk : 20 ≤ k) : forecast_Check.f k l = some (zrAll l) := by
  obtain ⟨k, rfl⟩ : ∃ m, k = m + 1 := ⟨k - 1, by omega⟩
  unfold forecast_Check.f zrAll
  by_cases h1 : (l.length : Int) < 1
  · rw [if_pos h1, if_neg (by omega)]; simp only [forecast_Check.j0, if_true]
  rw [if_neg h1]
  simp only [forecast_Check.j0, decide_eq_true_eq]
  by_cases h2 : (l.length : Int) > 4
  · rw [if_pos h2, if_neg (by omega)]
  · rw [if_neg h2, if_pos (by omega)]
    exact forecast_Check_l0 l (by omega) l.length 0 k (by omega) (by omega)

theorem line_leap_f (y : Int) : line_leap.f y = some (leapY y) := by
  unfold line_leap.f leapY
  have h4 := tmod_zero_iff y (g := 4) (by omega)
  have h100 := tmod_zero_iff y (g := 100) (by omega)
  have h400 := tmod_zero_iff y (g := 400) (by omega)
  by_cases c4 : y % 4 = 0
  · rw [if_pos (h4.2 c4)]
    by_cases c1 : y % 100 = 0
    · rw [if_pos (h100.2 c1)]
      congr 1
      by_cases c0 : y % 400 = 0
      · rw [beq_iff_eq.2 (h400.2 c0), decide_eq_true ⟨c4, .inr c0⟩]
      · rw [beq_eq_false_iff_ne.2 (fun h => c0 (h400.1 h)), decide_eq_false (fun h => h.2.elim (fun x => x c1) c0)]
    · rw [if_neg (fun h => c1 (h100.1 h)), decide_eq_true ⟨c4, .inl c1⟩]
  · rw [if_neg (fun h => c4 (h4.1 h)), decide_eq_false (fun h => c4 h.1)]

theorem line_length_f (y m : Int) : line_length.f y m = some (lenM y m) := by
  unfold line_length.f lenM
  by_cases c2 : m = 2
  · rw [if_pos c2, if_pos c2, line_leap_f, Option.bind_some]
    cases leapY y <;> rfl
  rw [if_neg c2, if_neg c2]
  by_cases c4 : m = 4
  · rw [if_pos c4, if_pos (.inl c4)]
  rw [if_neg c4]
  by_cases c6 : m = 6
  · rw [if_pos c6, if_pos (.inr (.inl c6))]
  rw [if_neg c6]
  by_cases c9 : m = 9
  · rw [if_pos c9, if_pos (.inr (.inr (.inl c9)))]
  rw [if_neg c9]
  by_cases c11 : m = 11
  · rw [if_pos c11, if_pos (.inr (.inr (.inr c11)))]
  rw [if_neg c11, if_neg (fun h => h.elim c4 (fun h => h.elim c6 (fun h => h.elim c9 c11)))]

theorem line_begin_f (y : Int) (h : -1000000000000 ≤ y ∧ y ≤ 1000000000000) (k : Nat) (hk : 1 ≤ k) : line_begin.f k y = some (beg y) := by
  unfold line_begin.f beg
  rw [w64_id (n := y - 1) (by omega) (by omega)]
  rw [whole_Div_f k hk (by omega) (by omega) (by omega) (by omega), whole_Div_f k hk (by omega) (by omega) (by omega) (by omega), whole_Div_f k hk (by omega) (by omega) (by omega) (by omega), divs_pos (by omega), divs_pos (by omega), divs_pos (by omega)]
  rw [Option.bind_some, Option.bind_some, Option.bind_some]
  simp only
  have b1 : 365 * (y - 1) + (y - 1) / 4 = 365 * (y - 1) + (y - 1) / 4 := rfl
  rw [w64_id (n := 365 * (y - 1)) (by omega) (by omega), w64_id (n := 365 * (y - 1) + (y - 1) / 4) (by omega) (by omega), w64_id (n := 365 * (y - 1) + (y - 1) / 4 - (y - 1) / 100) (by omega) (by omega), w64_id (n := 365 * (y - 1) + (y - 1) / 4 - (y - 1) / 100 + (y - 1) / 400) (by omega) (by omega)]

theorem line_Day_l0 (Y M D : Int) (hY : -100000 ≤ Y ∧ Y ≤ 100000) (hM : 1 ≤ M ∧ M ≤ 12) (hD : -100000 ≤ D ∧ D ≤ 100000) : ∀ (d k : Nat) (m : Int), m + d = M → 1 ≤ m → d < k →
    line_Day.l0 k (beg Y + D + cumM Y m) m Y M D = some (dayOf Y M D, 0) := by
  intro d
  induction d with
  | zero =>
    intro k m hm h1 hk
    obtain ⟨k, rfl⟩ : ∃ m, k = m + 1 := ⟨k - 1, by omega⟩
    obtain rfl : m = M := by omega
    conv => lhs; unfold line_Day.l0
    rw [if_neg (by omega)]
    unfold dayOf
    rw [show beg Y + D + cumM Y m = beg Y + cumM Y m + D from by omega]
  | succ d ih =>
    intro k m hm h1 hk
    obtain ⟨k, rfl⟩ : ∃ m, k = m + 1 := ⟨k - 1, by omega⟩
    have hs := cum_succ Y m h1 (by omega)
    have hl := len_pos Y m
    have hc := cum_le Y m h1 (by omega)
    have h366 : (if leapY Y = true then (366 : Int) else 365) ≤ 366 := by split <;> omega
    have hb : -40000000 ≤ beg Y ∧ beg Y ≤ 40000000 := by unfold beg; omega
    conv => lhs; unfold line_Day.l0
    rw [if_pos (by omega), line_length_f, Option.bind_some, w64_id (n := beg Y + D + cumM Y m + lenM Y m) (by omega) (by omega), w64_id (n := m + 1) (by omega) (by omega), show beg Y + D + cumM Y m + lenM Y m = beg Y + D + cumM Y (m + 1) from by omega]
    exact ih k (m + 1) (by omega) (by omega) (by omega)
theorem line_Day_f (Y M D : Int) (k : Nat) (hk : 50 ≤ k) : line_Day.f k Y M D = some (if -10000 ≤ Y ∧ Y ≤ 10000 then (if (1 ≤ M ∧ M ≤ 12) ∧ (1 ≤ D ∧ D ≤ lenM Y M) then (dayOf Y M D, 0) else (0, 1)) else (0, 3)) := by
  obtain ⟨k, rfl⟩ : ∃ m, k = m + 2 := ⟨k - 2, by omega⟩
  have hj : line_Day.f (k + 2) Y M D = line_Day.j0 (k + 2) (decide (¬ (-10000 ≤ Y ∧ Y ≤ 10000))) Y M D := by
    unfold line_Day.f
    by_cases c1 : Y < -10000
    · rw [if_pos c1, decide_eq_true (show ¬ (-10000 ≤ Y ∧ Y ≤ 10000) by omega)]
    rw [if_neg c1]
    by_cases c2 : Y > 10000
    · rw [decide_eq_true c2, decide_eq_true (show ¬ (-10000 ≤ Y ∧ Y ≤ 10000) by omega)]
    · rw [decide_eq_false c2, decide_eq_false (show ¬ ¬ (-10000 ≤ Y ∧ Y ≤ 10000) by omega)]
  rw [hj]
  simp only [line_Day.j0, decide_eq_true_eq]
  by_cases h1 : -10000 ≤ Y ∧ Y ≤ 10000
  · rw [if_neg (fun h => h h1), if_pos h1]
    have ht : line_Day.j1 (k + 1) true Y M D = some (0, 1) := by simp only [line_Day.j1, if_true]
    by_cases c1 : M < 1
    · rw [if_pos c1, ht, if_neg (by omega)]
    rw [if_neg c1]
    by_cases c2 : M > 12
    · rw [if_pos c2, ht, if_neg (by omega)]
    rw [if_neg c2]
    by_cases c3 : D < 1
    · rw [if_pos c3, ht, if_neg (by omega)]
    rw [if_neg c3, line_length_f, Option.bind_some]
    by_cases c4 : D > lenM Y M
    · rw [decide_eq_true c4, ht, if_neg (by omega)]
    have hl := len_pos Y M
    have hb : -40000000 ≤ beg Y ∧ beg Y ≤ 40000000 := by unfold beg; omega
    rw [decide_eq_false c4, if_pos (by omega)]
    simp only [line_Day.j1, Bool.false_eq_true, if_false]
    rw [line_begin_f _ (by omega) k (by omega), Option.bind_some, w64_id (by omega) (by omega)]
    have := line_Day_l0 Y M D (by omega) (by omega) (by omega) (M - 1).toNat k 1 (by omega) (by omega) (by omega)
    rw [show cumM Y 1 = 0 from by unfold cumM; rw [if_pos (by omega)], Int.add_zero] at this
    exact this
  · rw [if_pos h1, if_neg h1]

theorem whole_Mod_f {a m : Int} (hm : 0 < m) (hm1 : m ≤ 9223372036854775807) : whole_Mod.f a m = some (a % m) := by
  unfold whole_Mod.f
  rw [if_neg (by omega)]
  obtain ⟨h1, h2⟩ := tmod_emod a m hm
  have h3 := Int.emod_nonneg a (b := m) (by omega)
  have h4 := Int.emod_lt_of_pos a hm
  by_cases c : Int.tmod a m < 0
  · rw [if_pos c, h1 c, w64_id (by omega) (by omega)]
  · rw [if_neg c, h2 c]

/-- The n-th weekday. -/
def nths (x d n : Int) : Int := if n < 0 then x - (x - 1 - d) % 7 + 7 * (n + 1) else x + (d - (x - 1)) % 7 + 7 * (n - 1)
theorem line_Nth_f {x d n : Int} (k : Nat) (hk : 5 ≤ k) : line_Nth.f k x d n = some (if -4000000 ≤ x ∧ x ≤ 4000000 then (if (0 ≤ d ∧ d ≤ 6) ∧ n ≠ 0 then (if -1000000 ≤ n ∧ n ≤ 1000000 then (if -4000000 ≤ nths x d n ∧ nths x d n ≤ 4000000 then (nths x d n, 0) else (0, 3)) else (0, 3)) else (0, 1)) else (0, 3)) := by
  obtain ⟨k, rfl⟩ : ∃ m, k = m + 2 := ⟨k - 2, by omega⟩
  unfold line_Nth.f
  rw [line_Check_f]
  simp only [Option.bind_some]
  by_cases h : -4000000 ≤ x ∧ x ≤ 4000000
  · rw [if_pos h, if_pos h, if_pos rfl]
    by_cases h1 : d < 0
    · rw [if_pos h1, if_neg (by omega)]; simp only [line_Nth.j0, if_true]
    rw [if_neg h1]
    by_cases h2 : d > 6
    · rw [if_pos h2, if_neg (by omega)]; simp only [line_Nth.j0, if_true]
    rw [if_neg h2]
    simp only [line_Nth.j0, beq_iff_eq]
    by_cases h3 : n = 0
    · rw [if_pos h3, if_neg (by omega)]
    have h8 : (0 ≤ d ∧ d ≤ 6) ∧ n ≠ 0 := ⟨by omega, h3⟩
    rw [if_neg h3, if_pos h8]
    by_cases h4 : n < -1000000
    · rw [if_pos h4, if_neg (by omega)]; simp only [line_Nth.j1, if_true]
    rw [if_neg h4]
    simp only [line_Nth.j1, decide_eq_true_eq]
    by_cases h5 : n > 1000000
    · rw [if_pos h5, if_neg (by omega)]
    rw [if_neg h5, if_pos (by omega)]
    rw [w64_id (n := x - 1) (by omega) (by omega), w64_id (n := d - (x - 1)) (by omega) (by omega), whole_Mod_f (by omega) (by omega)]
    simp only [Option.bind_some]
    unfold nths
    by_cases h6 : n < 0
    · rw [if_pos h6, if_pos h6, w64_id (n := x - 1 - d) (by omega) (by omega), whole_Mod_f (by omega) (by omega)]
      simp only [Option.bind_some]
      rw [w64_id (n := x - (x - 1 - d) % 7) (by omega) (by omega), w64_id (n := n + 1) (by omega) (by omega), w64_id (n := 7 * (n + 1)) (by omega) (by omega), w64_id (by omega) (by omega), line_Check_f]
      simp only [Option.bind_some]
      by_cases h7 : -4000000 ≤ x - (x - 1 - d) % 7 + 7 * (n + 1) ∧ x - (x - 1 - d) % 7 + 7 * (n + 1) ≤ 4000000
      · rw [if_pos h7, if_pos h7, if_pos rfl]
      · rw [if_neg h7, if_neg h7, if_neg (by omega)]
    · rw [if_neg h6, if_neg h6]
      rw [w64_id (n := x + (d - (x - 1)) % 7) (by omega) (by omega), w64_id (n := n - 1) (by omega) (by omega), w64_id (n := 7 * (n - 1)) (by omega) (by omega), w64_id (by omega) (by omega), line_Check_f]
      simp only [Option.bind_some]
      by_cases h7 : -4000000 ≤ x + (d - (x - 1)) % 7 + 7 * (n - 1) ∧ x + (d - (x - 1)) % 7 + 7 * (n - 1) ≤ 4000000
      · rw [if_pos h7, if_pos h7, if_pos rfl]
      · rw [if_neg h7, if_neg h7, if_neg (by omega)]
  · rw [if_neg h, if_neg h, if_neg (by omega)]

/-- How many of the month's first e days (there are len) fall on the weekday; off: the days ahead of the first such day. -/
def zCn (len off e : Int) : Int := ((if e ≤ len then e else len) + 6 - off) / 7
def zOff (y m wd : Int) : Int := (wd - (dayOf y m 1 - 1)) % 7
/-- The w-th such day of the month; the fifth: the last one. -/
def zDay (y m w wd : Int) : Int := dayOf y m 1 + zOff y m wd + 7 * ((if w = 5 then zCn (lenM y m) (zOff y m wd) 31 else w) - 1)
theorem zOff_le (y m wd : Int) : 0 ≤ zOff y m wd ∧ zOff y m wd ≤ 6 := by unfold zOff; omega
theorem dayOf_first (y m d : Int) : dayOf y m d = dayOf y m 1 + d - 1 := by unfold dayOf; omega
theorem dayOf_le (y m : Int) (hy : -10000 ≤ y ∧ y ≤ 10000) (hm : 1 ≤ m ∧ m ≤ 12) : -3660000 ≤ dayOf y m 1 ∧ dayOf y m 1 ≤ 3660000 := by
  have h1 := cum_le y m hm.1 hm.2
  have h2 := len_pos y m
  have h3 : (if leapY y = true then (366 : Int) else 365) ≤ 366 := by split <;> decide
  unfold dayOf beg
  omega
theorem zDay_le (y m w wd : Int) (hy : -10000 ≤ y ∧ y ≤ 10000) (hm : 1 ≤ m ∧ m ≤ 12) (hw : 1 ≤ w ∧ w ≤ 5) : -3670000 ≤ zDay y m w wd ∧ zDay y m w wd ≤ 3670000 := by
  have h1 := dayOf_le y m hy hm
  have h2 := zOff_le y m wd
  have h3 := len_pos y m
  unfold zDay zCn
  split
  · split
    · omega
    · omega
  · omega
/-- The first n such days. -/
def wkL (n : Nat) (b : Int) : List Int := (List.range n).map fun i => b + 7 * ((i : Nat) : Int)
theorem wkL_len (n : Nat) (b : Int) : (wkL n b).length = n := by unfold wkL; simp
theorem wkL_succ (n : Nat) (b : Int) : wkL (n + 1) b = wkL n b ++ [b + 7 * (n : Int)] := by unfold wkL; rw [List.range_succ, List.map_append]; rfl
theorem wkL_rd (n : Nat) (b i : Int) (h0 : 0 ≤ i) (h1 : i < n) : rd (wkL n b) i = b + 7 * i := by
  unfold rd wkL
  rw [List.getD_eq_getElem?_getD, List.getElem?_map, List.getElem?_range (by omega)]
  simp only [Option.map_some, Option.getD_some]
  omega
/-- A rule that both checks let through. -/
def ZrOk (r : S92) : Prop := (1 ≤ r.f0 ∧ r.f0 ≤ 12) ∧ (1 ≤ r.f1 ∧ r.f1 ≤ 5) ∧ (0 ≤ r.f2 ∧ r.f2 ≤ 6) ∧ (0 ≤ r.f3 ∧ r.f3 ≤ 86399999) ∧ -64800000 ≤ r.f4 ∧ r.f4 ≤ 64800000
theorem zrErr_ok (l : List S92) : ∀ (d i : Nat), i + d = l.length → zrErr l d i = 0 → ∀ j, i ≤ j → j < l.length → ZrOk (l.getD j z92)
  | 0, i, hi, _, j, h1, h2 => absurd h2 (by omega)
  | d + 1, i, hi, h, j, h1, h2 => by
    unfold zrErr at h
    by_cases c1 : zrBad (l.getD i z92) = true
    · rw [if_pos c1] at h; cases h
    rw [if_neg c1] at h
    by_cases c2 : isLabel (l.getD i z92).f5 = true
    · rw [if_pos c2] at h
      by_cases c3 : 0 < i ∧ (l.getD i z92).f0 ≤ (l.getD (i - 1) z92).f0
      · rw [if_pos c3] at h; cases h
      rw [if_neg c3] at h
      by_cases e : j = i
      · subst e
        rw [Bool.not_eq_true] at c1
        unfold zrBad at c1
        rw [Bool.not_eq_false', Bool.and_eq_true] at c1
        have h3 := of_decide_eq_true c1.1
        have h4 : -64800000 ≤ (l.getD j z92).f4 ∧ (l.getD j z92).f4 ≤ 64800000 := by
          have := c1.2
          unfold okOff at this
          have := of_decide_eq_true this
          exact ⟨this.1, this.2.1⟩
        exact ⟨h3.1, h3.2.1, h3.2.2.1, h3.2.2.2, h4⟩
      · exact zrErr_ok l d (i + 1) (by omega) h j (by omega) h2
    · rw [if_neg c2] at h; cases h
theorem zrAll_ok {l : List S92} (h : zrAll l = 0) : l.length ≤ 4 ∧ ∀ j, j < l.length → ZrOk (l.getD j z92) := by
  unfold zrAll at h
  by_cases c : 1 ≤ l.length ∧ l.length ≤ 4
  · rw [if_pos c] at h
    exact ⟨c.2, fun j hj => zrErr_ok l l.length 0 (by omega) h j (by omega) hj⟩
  · rw [if_neg c] at h; cases h
/-- The changes of a year. -/
def zYear (l : List S92) (y : Int) : Nat → Nat → Int → List S43
  | 0, _, _ => []
  | d + 1, i, b => ⟨zDay y (l.getD i z92).f0 (l.getD i z92).f1 (l.getD i z92).f2 * 86400000 + (l.getD i z92).f3 - b, (l.getD i z92).f4, (l.getD i z92).f5⟩ :: zYear l y d (i + 1) (l.getD i z92).f4
theorem zYear_len (l : List S92) (y : Int) : ∀ (d i : Nat) (b : Int), (zYear l y d i b).length = d
  | 0, _, _ => rfl
  | d + 1, i, b => by unfold zYear; rw [List.length_cons, zYear_len l y d]

theorem forecast_day_l0 (m w wd ms o : Int) (lab : ByteArray) (y : Int) (hy : -10000 ≤ y ∧ y ≤ 10000) (hm : 1 ≤ m ∧ m ≤ 12) (hwd : 0 ≤ wd ∧ wd ≤ 6) : ∀ (d : Nat) (e : Int) (k : Nat), e = lenM y m + d → e ≤ 31 → d + 60 < k →
    forecast_day.l0 k m w wd ms o lab y m e = some (dayOf y m 1 + zOff y m wd + 7 * (zCn (lenM y m) (zOff y m wd) 31 - 1)) := by
  have hl := len_pos y m
  have hd := dayOf_le y m hy hm
  intro d
  induction d with
  | zero =>
    intro e k he h31 hk
    obtain ⟨k, rfl⟩ : ∃ q, k = q + 1 := ⟨k - 1, by omega⟩
    obtain rfl : e = lenM y m := by omega
    simp only [forecast_day.l0]
    rw [line_Day_f y m (lenM y m) k (by omega), if_pos hy, if_pos ⟨hm, by omega, by omega⟩, Option.bind_some, if_pos rfl]
    simp only
    rw [dayOf_first y m (lenM y m)]
    have hn : nths (dayOf y m 1 + lenM y m - 1) wd (-1) = dayOf y m 1 + zOff y m wd + 7 * (zCn (lenM y m) (zOff y m wd) 31 - 1) := by
      unfold nths zCn zOff
      rw [if_pos (by decide)]
      split
      · omega
      · omega
    have hb : -3670000 ≤ dayOf y m 1 + zOff y m wd + 7 * (zCn (lenM y m) (zOff y m wd) 31 - 1) ∧ dayOf y m 1 + zOff y m wd + 7 * (zCn (lenM y m) (zOff y m wd) 31 - 1) ≤ 3670000 := by
      have := zDay_le y m 5 wd hy hm (by omega)
      unfold zDay at this
      rwa [if_pos rfl] at this
    rw [line_Nth_f k (by omega), if_pos (by omega), if_pos ⟨hwd, by decide⟩, if_pos (by decide), hn, if_pos (by omega), Option.bind_some]
  | succ d ih =>
    intro e k he h31 hk
    obtain ⟨k, rfl⟩ : ∃ q, k = q + 1 := ⟨k - 1, by omega⟩
    simp only [forecast_day.l0]
    rw [line_Day_f y m e k (by omega), if_pos hy, if_neg (fun h => by omega), Option.bind_some, if_neg (by decide), w64_id (by omega) (by omega)]
    exact ih (e - 1) k (by omega) (by omega) (by omega)
theorem forecast_day_f (m w wd ms o : Int) (lab : ByteArray) (y : Int) (hy : -10000 ≤ y ∧ y ≤ 10000) (hm : 1 ≤ m ∧ m ≤ 12) (hw : 1 ≤ w ∧ w ≤ 5) (hwd : 0 ≤ wd ∧ wd ≤ 6) (k : Nat) (hk : 100 ≤ k) : forecast_day.f k m w wd ms o lab y = some (zDay y m w wd) := by
  have hl := len_pos y m
  have hd := dayOf_le y m hy hm
  have hz := zDay_le y m w wd hy hm hw
  unfold forecast_day.f
  by_cases c : w = 5
  · rw [if_pos c]
    unfold zDay
    rw [if_pos c]
    exact forecast_day_l0 m w wd ms o lab y hy hm hwd (31 - lenM y m).toNat 31 k (by omega) (by omega) (by omega)
  · rw [if_neg c, line_Day_f y m 1 k (by omega), if_pos hy, if_pos ⟨hm, by omega, by omega⟩, Option.bind_some]
    simp only
    have hn : nths (dayOf y m 1) wd w = zDay y m w wd := by
      unfold nths zDay zOff
      rw [if_neg (by omega), if_neg c]
    rw [line_Nth_f k (by omega), if_pos (by omega), if_pos ⟨hwd, by omega⟩, if_pos (by omega), hn, if_pos (by omega), Option.bind_some]

theorem forecast_Year_l0 (l : List S92) (y : Int) (hl : l.length ≤ 4) (hy : -10000 ≤ y ∧ y ≤ 10000) (hr : ∀ j, j < l.length → ZrOk (l.getD j z92)) : ∀ (d i k : Nat) (b : Int) (acc : List S43), i + d = l.length → d + 200 < k → acc.length = i → -64800000 ≤ b → b ≤ 64800000 →
    forecast_Year.l0 k b y acc l (l.length : Int) (i : Int) = some (acc ++ zYear l y d i b, 0) := by
  intro d
  induction d with
  | zero =>
    intro i k b acc hi hk ha hb hb1
    obtain ⟨k, rfl⟩ : ∃ q, k = q + 1 := ⟨k - 1, by omega⟩
    simp only [forecast_Year.l0]
    rw [if_neg (by omega)]
    unfold zYear
    rw [List.append_nil]
  | succ d ih =>
    intro i k b acc hi hk ha hb hb1
    obtain ⟨k, rfl⟩ : ∃ q, k = q + 1 := ⟨k - 1, by omega⟩
    simp only [forecast_Year.l0]
    have hri := hr i (by omega)
    rw [if_pos (by omega), if_pos (by omega), if_pos (by omega), show rd_T92 l (i : Int) = l.getD i z92 from rfl]
    unfold zYear
    generalize l.getD i z92 = r at hri ⊢
    obtain ⟨h1, h2, h3, h4, h5, h6⟩ := hri
    have hz := zDay_le y r.f0 r.f1 r.f2 hy h1 h2
    rw [forecast_day_f _ _ _ _ _ _ y hy h1 h2 h3 k (by omega), Option.bind_some, if_pos (by omega), w64_id (n := zDay y r.f0 r.f1 r.f2 * 86400000) (by omega) (by omega), w64_id (n := zDay y r.f0 r.f1 r.f2 * 86400000 + r.f3) (by omega) (by omega), w64_id (n := zDay y r.f0 r.f1 r.f2 * 86400000 + r.f3 - b) (by omega) (by omega), w64_id (n := (i : Int) + 1) (by omega) (by omega), show (i : Int) + 1 = ((i + 1 : Nat) : Int) from by omega,
      ih (i + 1) k r.f4 _ (by omega) (by omega) (by rw [List.length_append, ha]; rfl) h5 h6, List.append_assoc]
    rfl
theorem forecast_Year_f (l : List S92) (b y : Int) (k : Nat) (hk : 400 ≤ k) : forecast_Year.f k l b y = some (if zrAll l = 0 then (if okOff b = true ∧ -10000 ≤ y ∧ y ≤ 10000 then (zYear l y l.length 0 b, 0) else ([], 3)) else ([], zrAll l)) := by
  obtain ⟨k, rfl⟩ : ∃ m, k = m + 1 := ⟨k - 1, by omega⟩
  unfold forecast_Year.f
  rw [forecast_Check_f l (k + 1) (by omega), Option.bind_some]
  by_cases h : zrAll l = 0
  · rw [if_pos h, if_pos h, zone_IsOffset_f, Option.bind_some]
    by_cases h2 : okOff b = true
    · rw [if_pos h2]
      have hb : -64800000 ≤ b ∧ b ≤ 64800000 := by
        unfold okOff at h2
        have := of_decide_eq_true h2
        exact ⟨this.1, this.2.1⟩
      by_cases h3 : y < -10000
      · rw [if_pos h3, if_neg (fun g => by omega)]; simp only [forecast_Year.j0, if_true]
      rw [if_neg h3]
      simp only [forecast_Year.j0, decide_eq_true_eq]
      by_cases h4 : y > 10000
      · rw [if_pos h4, if_neg (fun g => by omega)]
      · rw [if_neg h4, if_pos ⟨h2, by omega, by omega⟩]
        obtain ⟨hl, hr⟩ := zrAll_ok h
        exact forecast_Year_l0 l y hl ⟨by omega, by omega⟩ hr l.length 0 k b [] (by omega) (by omega) rfl hb.1 hb.2
    · rw [if_neg h2, if_neg (fun g => h2 g.1)]; simp only [forecast_Year.j0, if_true]
  · rw [if_neg h, if_neg h]

/-- Where an instant stands among the changes. -/
def IsPos (l : List S43) (t : Int) (r : Nat) : Prop := r ≤ l.length ∧ (∀ j, j < r → (l.getD j z43).f0 ≤ t) ∧ ∀ j, r ≤ j → j < l.length → t < (l.getD j z43).f0
/-- The changes are of a valid zone. -/
def ZnOk (l : List S43) : Prop := l.length ≤ 200 ∧ ∀ j, j < l.length → znBad (l.getD j z43) = false ∧ isLabel (l.getD j z43).f2 = true ∧ (0 < j → (l.getD (j - 1) z43).f0 < (l.getD j z43).f0)
theorem znErr_ok (l : List S43) : ∀ (d i : Nat), i + d = l.length → znErr l d i = 0 → ∀ j, i ≤ j → j < l.length → znBad (l.getD j z43) = false ∧ isLabel (l.getD j z43).f2 = true ∧ (0 < j → (l.getD (j - 1) z43).f0 < (l.getD j z43).f0)
  | 0, i, hi, _, j, h1, h2 => absurd h2 (by omega)
  | d + 1, i, hi, h, j, h1, h2 => by
    unfold znErr at h
    by_cases c1 : znBad (l.getD i z43) = true
    · rw [if_pos c1] at h; cases h
    rw [if_neg c1] at h
    by_cases c2 : isLabel (l.getD i z43).f2 = true
    · rw [if_pos c2] at h
      by_cases c3 : 0 < i ∧ (l.getD i z43).f0 ≤ (l.getD (i - 1) z43).f0
      · rw [if_pos c3] at h; cases h
      rw [if_neg c3] at h
      by_cases e : j = i
      · subst e
        exact ⟨by simpa using c1, c2, fun g => by omega⟩
      · exact znErr_ok l d (i + 1) (by omega) h j (by omega) h2
    · rw [if_neg c2] at h; cases h
theorem znAll_ok {s : ByteArray} {o : Int} {l : List S43} (h : znAll s o l = 0) : isName s = true ∧ okOff o = true ∧ ZnOk l := by
  unfold znAll at h
  by_cases h1 : isName s = true
  · rw [if_pos h1] at h
    by_cases h2 : okOff o = true
    · rw [if_pos h2] at h
      by_cases h3 : l.length ≤ 200
      · rw [if_pos h3] at h
        exact ⟨h1, h2, h3, fun j hj => znErr_ok l l.length 0 (by omega) h j (by omega) hj⟩
      · rw [if_neg h3] at h; cases h
    · rw [if_neg h2] at h; cases h
  · rw [if_neg h1] at h; cases h
theorem okOff_le {x : Int} (h : okOff x = true) : -64800000 ≤ x ∧ x ≤ 64800000 := by
  unfold okOff at h
  have := of_decide_eq_true h
  exact ⟨this.1, this.2.1⟩
theorem zn_rise {l : List S43} (h : ZnOk l) : ∀ (d i : Nat), i + d < l.length → (l.getD i z43).f0 ≤ (l.getD (i + d) z43).f0
  | 0, i, _ => Int.le_refl _
  | d + 1, i, hi => by
    have h1 := zn_rise h d i (by omega)
    have h2 := (h.2 (i + (d + 1)) hi).2.2 (by omega)
    rw [show i + (d + 1) - 1 = i + d from by omega] at h2
    omega
theorem zn_off {l : List S43} (h : ZnOk l) {j : Nat} (hj : j < l.length) : (-4000000 ≤ (l.getD j z43).f0 / 86400000 ∧ (l.getD j z43).f0 / 86400000 ≤ 4000000) ∧ -64800000 ≤ (l.getD j z43).f1 ∧ (l.getD j z43).f1 ≤ 64800000 := by
  have := (h.2 j hj).1
  unfold znBad at this
  rw [Bool.not_eq_false', Bool.and_eq_true] at this
  exact ⟨of_decide_eq_true this.1, okOff_le this.2⟩
/-- What is in force at the r-th place. -/
def atPos (o : Int) (l : List S43) (r : Nat) : Int × ByteArray := if 0 < r then ((l.getD (r - 1) z43).f1, (l.getD (r - 1) z43).f2) else (o, ⟨#[]⟩)
theorem atPos_le {o : Int} {l : List S43} {r : Nat} (ho : okOff o = true) (h : ZnOk l) (hr : r ≤ l.length) : -64800000 ≤ (atPos o l r).1 ∧ (atPos o l r).1 ≤ 64800000 := by
  unfold atPos
  split
  · exact (zn_off h (by omega)).2
  · exact okOff_le ho
/-- The error of an instant in a zone. -/
def znBegin (s : ByteArray) (o : Int) (l : List S43) (t : Int) : Int := if znAll s o l = 0 then (if -4000000 ≤ t / 86400000 ∧ t / 86400000 ≤ 4000000 then 0 else 3) else znAll s o l
theorem base_wf : znWf [(⟨0, 7200000, (⟨#[83, 85, 77]⟩ : ByteArray)⟩ : S43)] := by
  intro c hc
  rw [List.mem_singleton] at hc
  subst hc
  decide

/-- The offset that holds behind the changes. -/
def zLast (o : Int) (acc : List S43) : Int := if acc.length = 0 then o else (acc.getD (acc.length - 1) z43).f1
/-- The changes with those of n years from y on behind them. -/
def zExt (l : List S92) (o : Int) : Nat → Int → List S43 → List S43
  | 0, _, acc => acc
  | n + 1, y, acc => zExt l o n (y + 1) (acc ++ zYear l y l.length 0 (zLast o acc))
/-- Offsets are valid, instants are numbers. -/
def zGood (acc : List S43) : Prop := ∀ c ∈ acc, okOff c.f1 = true ∧ -9223372036854775808 ≤ c.f0 ∧ c.f0 ≤ 9223372036854775807
theorem zrErr_off (l : List S92) : ∀ (d i : Nat), i + d = l.length → zrErr l d i = 0 → ∀ j, i ≤ j → j < l.length → okOff (l.getD j z92).f4 = true
  | 0, i, hi, _, j, h1, h2 => absurd h2 (by omega)
  | d + 1, i, hi, h, j, h1, h2 => by
    unfold zrErr at h
    by_cases c1 : zrBad (l.getD i z92) = true
    · rw [if_pos c1] at h; cases h
    rw [if_neg c1] at h
    by_cases c2 : isLabel (l.getD i z92).f5 = true
    · rw [if_pos c2] at h
      by_cases c3 : 0 < i ∧ (l.getD i z92).f0 ≤ (l.getD (i - 1) z92).f0
      · rw [if_pos c3] at h; cases h
      rw [if_neg c3] at h
      by_cases e : j = i
      · subst e
        rw [Bool.not_eq_true] at c1
        unfold zrBad at c1
        rw [Bool.not_eq_false', Bool.and_eq_true] at c1
        exact c1.2
      · exact zrErr_off l d (i + 1) (by omega) h j (by omega) h2
    · rw [if_neg c2] at h; cases h
theorem zrAll_off {l : List S92} (h : zrAll l = 0) : 1 ≤ l.length ∧ ∀ j, j < l.length → okOff (l.getD j z92).f4 = true := by
  unfold zrAll at h
  by_cases c : 1 ≤ l.length ∧ l.length ≤ 4
  · rw [if_pos c] at h
    exact ⟨c.1, fun j hj => zrErr_off l l.length 0 (by omega) h j (by omega) hj⟩
  · rw [if_neg c] at h; cases h
theorem zYear_good (l : List S92) (y : Int) (hy : -10000 ≤ y ∧ y ≤ 10000) (hr : ∀ j, j < l.length → ZrOk (l.getD j z92)) (ho : ∀ j, j < l.length → okOff (l.getD j z92).f4 = true) : ∀ (d i : Nat) (b : Int), i + d = l.length → -64800000 ≤ b → b ≤ 64800000 → zGood (zYear l y d i b)
  | 0, _, _, _, _, _ => fun c hc => by unfold zYear at hc; cases hc
  | d + 1, i, b, hi, hb, hb1 => by
    intro c hc
    unfold zYear at hc
    have h1 := hr i (by omega)
    have h2 := ho i (by omega)
    have ih := zYear_good l y hy hr ho d (i + 1) (l.getD i z92).f4 (by omega) (okOff_le h2).1 (okOff_le h2).2
    generalize l.getD i z92 = r at hc h1 h2 ih
    rcases List.mem_cons.1 hc with h | h
    · subst h
      have hz := zDay_le y r.f0 r.f1 r.f2 hy h1.1 h1.2.1
      have h3 := h1.2.2.2.1
      exact ⟨h2, by show _ ≤ zDay y r.f0 r.f1 r.f2 * 86400000 + r.f3 - b; omega, by show zDay y r.f0 r.f1 r.f2 * 86400000 + r.f3 - b ≤ _; omega⟩
    · exact ih c h
theorem zGood_app {a b : List S43} (ha : zGood a) (hb : zGood b) : zGood (a ++ b) := by
  intro c hc
  rcases List.mem_append.1 hc with h | h
  · exact ha c h
  · exact hb c h
theorem zGood_get {a : List S43} (h : zGood a) {i : Nat} (hi : i < a.length) : okOff (a.getD i z43).f1 = true := by
  rw [List.getD_eq_getElem?_getD, List.getElem?_eq_getElem hi]
  exact (h _ (List.getElem_mem hi)).1
theorem zGood_wf {a : List S43} (h : zGood a) : znWf a := fun c hc => (h c hc).2
theorem zLast_ok {o : Int} {a : List S43} (ho : okOff o = true) (h : zGood a) : okOff (zLast o a) = true := by
  unfold zLast
  split
  · exact ho
  · exact zGood_get h (by omega)
theorem zLast_app (o : Int) (a b : List S43) (h : 0 < b.length) : zLast o (a ++ b) = (b.getD (b.length - 1) z43).f1 := by
  unfold zLast
  rw [List.length_append, if_neg (by omega), List.getD_eq_getElem?_getD, List.getD_eq_getElem?_getD, List.getElem?_append_right (by omega), show a.length + b.length - 1 - a.length = b.length - 1 by omega]
theorem zOk_good {o : Int} {s : ByteArray} {l : List S43} (hw : znWf l) (h : znAll s o l = 0) : zGood l := by
  obtain ⟨_, _, hz⟩ := znAll_ok h
  intro c hc
  obtain ⟨i, hi, rfl⟩ := List.getElem_of_mem hc
  have h1 := (hz.2 i hi).1
  unfold znBad at h1
  rw [Bool.not_eq_false', Bool.and_eq_true, List.getD_eq_getElem?_getD, List.getElem?_eq_getElem hi] at h1
  exact ⟨h1.2, hw _ hc⟩
theorem zExt_len (l : List S92) (o : Int) : ∀ (n : Nat) (y : Int) (acc : List S43), (zExt l o n y acc).length = acc.length + n * l.length
  | 0, _, _ => by unfold zExt; omega
  | n + 1, y, acc => by unfold zExt; rw [zExt_len l o n, List.length_append, zYear_len, Nat.succ_mul]; omega
theorem zExt_good (l : List S92) (o : Int) (hr : ∀ j, j < l.length → ZrOk (l.getD j z92)) (ho : ∀ j, j < l.length → okOff (l.getD j z92).f4 = true) (hoo : okOff o = true) : ∀ (n : Nat) (y : Int) (acc : List S43), -10000 ≤ y → y + n ≤ 10001 → zGood acc → zGood (zExt l o n y acc)
  | 0, _, _, _, _, h => h
  | n + 1, y, acc, h1, h2, h => by
    unfold zExt
    have hb := okOff_le (zLast_ok hoo h)
    exact zExt_good l o hr ho hoo n (y + 1) _ (by omega) (by omega) (zGood_app h (zYear_good l y ⟨h1, by omega⟩ hr ho l.length 0 _ (by omega) hb.1 hb.2))

theorem zc_clone (l : List S43) (h : l.length < 4398046511104) : api_ZoneChange.f l = some l := by
  unfold api_ZoneChange.f
  rw [Option.bind_some, if_pos (by simpa using h)]; simp
theorem zLast_rd (o : Int) (acc more : List S43) (h : 0 < more.length) (h1 : more.length ≤ 4) : (rd_T43 more (wrap64 ((more.length : Int) - 1))).f1 = zLast o (acc ++ more) := by
  rw [zLast_app o acc more h, w64_id (by omega) (by omega)]
  unfold rd_T43
  rw [show ((more.length : Int) - 1).toNat = more.length - 1 by omega]
theorem forecast_Extend_l0 (s : ByteArray) (o : Int) (l : List S92) (hrl : zrAll l = 0) (ho : okOff o = true) (tq : Int) (hto : tq ≤ 10000) : ∀ (n : Nat) (y : Int) (k : Nat) (acc : List S43), y + n = tq + 1 → -10000 ≤ y → n + 3000 < k → acc.length + 4 * n ≤ 1000 → zGood acc →
    forecast_Extend.l0 k l tq (zLast o acc) y s o acc = some (if znAll s o (zExt l o n y acc) = 0 then (s, o, zExt l o n y acc, 0) else (⟨#[]⟩, 0, [], znAll s o (zExt l o n y acc))) := by
  intro n
  induction n with
  | zero =>
    intro y k acc hy hy0 hk hl hg
    obtain ⟨k, rfl⟩ : ∃ m, k = m + 1 := ⟨k - 1, by omega⟩
    rw [show zExt l o 0 y acc = acc from rfl]
    simp only [forecast_Extend.l0]
    rw [if_neg (by omega), zone_Check_f s o acc (zGood_wf hg) k (by omega), Option.bind_some]
    by_cases h : znAll s o acc = 0
    · rw [if_pos h, if_pos h]
    · rw [if_neg h, if_neg h]
  | succ n ih =>
    intro y k acc hy hy0 hk hl hg
    obtain ⟨k, rfl⟩ : ∃ m, k = m + 1 := ⟨k - 1, by omega⟩
    rw [show zExt l o (n + 1) y acc = zExt l o n (y + 1) (acc ++ zYear l y l.length 0 (zLast o acc)) from rfl]
    simp only [forecast_Extend.l0]
    obtain ⟨hl4, hr⟩ := zrAll_ok hrl
    obtain ⟨hl1, hro⟩ := zrAll_off hrl
    have hz := zLast_ok ho hg
    have hb := okOff_le hz
    have hmg := zYear_good l y ⟨hy0, by omega⟩ hr hro l.length 0 (zLast o acc) (by omega) hb.1 hb.2
    have hml := zYear_len l y l.length 0 (zLast o acc)
    rw [if_pos (by omega), forecast_Year_f l (zLast o acc) y k (by omega), if_pos hrl, if_pos ⟨hz, by omega, by omega⟩, Option.bind_some, if_pos rfl]
    generalize zYear l y l.length 0 (zLast o acc) = more at hmg hml ⊢
    rw [if_pos (by show acc.length + more.length < _; omega), if_pos (by show 0 ≤ wrap64 ((more.length : Int) - 1); rw [w64_id (by omega) (by omega)]; omega), if_pos (by show wrap64 ((more.length : Int) - 1) < (more.length : Int); rw [w64_id (by omega) (by omega)]; omega)]
    show forecast_Extend.l0 k l tq ((rd_T43 more (wrap64 ((more.length : Int) - 1))).f1) (wrap64 (y + 1)) s o (acc ++ more) = _
    rw [zLast_rd o acc more (by omega) (by omega), w64_id (n := y + 1) (by omega) (by omega)]
    exact ih (y + 1) k (acc ++ more) (by omega) (by omega) (by omega) (by rw [List.length_append]; omega) (zGood_app hg hmg)
/-- The error of the arguments of Extend. -/
def fxErr (s : ByteArray) (o : Int) (l : List S43) (r : List S92) (a b : Int) : Int := if zrAll r = 0 then (if znAll s o l = 0 then (if -10000 ≤ a ∧ a ≤ b ∧ b ≤ 10000 then (if b - a > 50 then 2 else 0) else 3) else znAll s o l) else zrAll r
theorem fxErr_ok {s : ByteArray} {o : Int} {l : List S43} {r : List S92} {a b : Int} (h : fxErr s o l r a b = 0) : zrAll r = 0 ∧ znAll s o l = 0 ∧ (-10000 ≤ a ∧ a ≤ b ∧ b ≤ 10000) ∧ b - a ≤ 50 := by
  unfold fxErr at h
  by_cases h1 : zrAll r = 0
  · rw [if_pos h1] at h
    by_cases h2 : znAll s o l = 0
    · rw [if_pos h2] at h
      by_cases h3 : -10000 ≤ a ∧ a ≤ b ∧ b ≤ 10000
      · rw [if_pos h3] at h
        by_cases h4 : b - a > 50
        · rw [if_pos h4] at h; cases h
        · exact ⟨h1, h2, h3, by omega⟩
      · rw [if_neg h3] at h; cases h
    · rw [if_neg h2] at h; exact absurd h h2
  · rw [if_neg h1] at h; exact absurd h h1
theorem forecast_Extend_ok (s : ByteArray) (o : Int) (l : List S43) (r : List S92) (a b : Int) (hw : znWf l) (k : Nat) (hk : 4000 ≤ k) (h : fxErr s o l r a b = 0) :
    forecast_Extend.f k s o l r a b = some (if znAll s o (zExt r o (b - a + 1).toNat a l) = 0 then (s, o, zExt r o (b - a + 1).toNat a l, 0) else (⟨#[]⟩, 0, [], znAll s o (zExt r o (b - a + 1).toNat a l))) := by
  obtain ⟨h1, h2, h3, h4⟩ := fxErr_ok h
  obtain ⟨_, ho, hz⟩ := znAll_ok h2
  have h200 := hz.1
  obtain ⟨k, rfl⟩ : ∃ m, k = m + 2 := ⟨k - 2, by omega⟩
  have hl0 := forecast_Extend_l0 s o r h1 ho b h3.2.2 (b - a + 1).toNat a k l (by omega) h3.1 (by omega) (by omega) (zOk_good hw h2)
  unfold forecast_Extend.f
  rw [forecast_Check_f r (k + 2) (by omega), Option.bind_some, if_pos h1, zone_Check_f s o l hw (k + 2) (by omega), Option.bind_some, if_pos h2, if_neg (by omega), if_neg (by omega), if_neg (by omega), decide_eq_false (show ¬ b > 10000 by omega)]
  rw [show k + 2 = (k + 1) + 1 from rfl]
  simp only [forecast_Extend.j0, Bool.false_eq_true, if_false, forecast_Extend.j1]
  rw [w64_id (n := b - a) (by omega) (by omega), if_neg (by omega), zc_clone l (by omega), Option.bind_some]
  unfold zLast at hl0
  by_cases c : l.length = 0
  · rw [if_pos c] at hl0
    rw [if_neg (by omega)]
    exact hl0
  · rw [if_neg c] at hl0
    have hq : wrap64 ((l.length : Int) - 1) = (l.length : Int) - 1 := w64_id (by omega) (by omega)
    rw [if_pos (by omega), hq, if_pos (by omega), if_pos (by omega)]
    unfold rd_T43
    rw [show ((l.length : Int) - 1).toNat = l.length - 1 by omega]
    exact hl0
theorem forecast_Extend_bad (s : ByteArray) (o : Int) (l : List S43) (r : List S92) (a b : Int) (ha : -9223372036854775808 ≤ a ∧ a ≤ 9223372036854775807) (hb : -9223372036854775808 ≤ b ∧ b ≤ 9223372036854775807) (hw : znWf l) (k : Nat) (hk : 4000 ≤ k) (h : fxErr s o l r a b ≠ 0) :
    forecast_Extend.f k s o l r a b = some (⟨#[]⟩, 0, [], fxErr s o l r a b) := by
  obtain ⟨k, rfl⟩ : ∃ m, k = m + 2 := ⟨k - 2, by omega⟩
  unfold fxErr at h ⊢
  unfold forecast_Extend.f
  rw [forecast_Check_f r (k + 2) (by omega), Option.bind_some]
  by_cases h1 : zrAll r = 0
  · rw [if_pos h1, if_pos h1, zone_Check_f s o l hw (k + 2) (by omega), Option.bind_some]
    rw [if_pos h1] at h
    by_cases h2 : znAll s o l = 0
    · rw [if_pos h2, if_pos h2]
      rw [if_pos h2] at h
      have bad : ∀ t, t = true → forecast_Extend.j0 (k + 2) r a b t s o l = some (⟨#[]⟩, 0, [], 3) := by
        intro t ht
        subst ht
        rw [show k + 2 = (k + 1) + 1 from rfl]
        simp only [forecast_Extend.j0, if_true]
      by_cases c1 : a < -10000
      · rw [if_pos c1, if_neg (by omega)]; exact bad _ rfl
      rw [if_neg c1]
      by_cases c2 : a > 10000
      · rw [if_pos c2, if_neg (by omega)]; exact bad _ rfl
      rw [if_neg c2]
      by_cases c3 : b < a
      · rw [if_pos c3, if_neg (by omega)]; exact bad _ rfl
      rw [if_neg c3]
      by_cases c4 : b > 10000
      · rw [if_neg (by omega)]; exact bad _ (decide_eq_true c4)
      rw [if_pos (show -10000 ≤ a ∧ a ≤ b ∧ b ≤ 10000 by omega)] at h ⊢
      by_cases c5 : b - a > 50
      · rw [decide_eq_false c4, if_pos c5]
        rw [show k + 2 = (k + 1) + 1 from rfl]
        simp only [forecast_Extend.j0, Bool.false_eq_true, if_false]
        rw [w64_id (n := b - a) (by omega) (by omega), if_pos c5]
      · rw [if_neg c5] at h; exact absurd rfl h
    · rw [if_neg h2, if_neg h2]
  · rw [if_neg h1, if_neg h1]

theorem ephemerisref1_ZoneRulesError_j1 (l : List S92) (hl : l.length ≤ 4) (i : Nat) (hi : i < l.length) (k : Nat) :
    ephemerisref1_ZoneRulesError.j1 (k + 1) l (i : Int) l (l.length : Int) (i : Int) (zrBad (l.getD i z92)) (l.getD i z92).f0 (l.getD i z92).f1 (l.getD i z92).f2 (l.getD i z92).f3 (l.getD i z92).f4 (l.getD i z92).f5
      = if zrBad (l.getD i z92) = true then some 3 else if isLabel (l.getD i z92).f5 = true then (if 0 < i ∧ (l.getD i z92).f0 ≤ (l.getD (i - 1) z92).f0 then some 9 else ephemerisref1_ZoneRulesError.l0 k l l (l.length : Int) ((i + 1 : Nat) : Int)) else some 8 := by
  simp only [ephemerisref1_ZoneRulesError.j1]
  by_cases h : zrBad (l.getD i z92) = true
  · rw [if_pos h, if_pos h]
  rw [if_neg h, if_neg h, ephemerisref1_Label_f, Option.bind_some]
  by_cases h2 : isLabel (l.getD i z92).f5 = true
  · rw [if_pos h2, if_pos h2, w64_id (n := (i : Int) + 1) (by omega) (by omega)]
    by_cases h3 : 0 < i
    · rw [if_pos (by omega), w64_id (n := (i : Int) - 1) (by omega) (by omega), if_pos (by omega), if_pos (by omega)]
      rw [show rd_T92 l ((i : Int) - 1) = l.getD (i - 1) z92 from by unfold rd_T92; rw [show ((i : Int) - 1).toNat = i - 1 by omega]]
      by_cases h4 : (l.getD i z92).f0 ≤ (l.getD (i - 1) z92).f0
      · rw [if_pos (show _ ≥ _ from h4), if_pos ⟨h3, h4⟩]
      · rw [if_neg (show ¬ _ ≥ _ from h4), if_neg (fun g => h4 g.2)]; rfl
    · rw [if_neg (by omega), if_neg (fun g => h3 g.1)]; rfl
  · rw [if_neg h2, if_neg h2]
theorem ephemerisref1_ZoneRulesError_l0 (l : List S92) (hl : l.length ≤ 4) : ∀ (d i k : Nat), i + d = l.length → 2 * d + 70 < k → ephemerisref1_ZoneRulesError.l0 k l l (l.length : Int) (i : Int) = some (zrErr l d i) := by
  intro d
  induction d with
  | zero =>
    intro i k hi hk
    obtain ⟨k, rfl⟩ : ∃ m, k = m + 1 := ⟨k - 1, by omega⟩
    simp only [ephemerisref1_ZoneRulesError.l0]
    rw [if_neg (by omega)]; rfl
  | succ d ih =>
    intro i k hi hk
    obtain ⟨k, rfl⟩ : ∃ m, k = m + 2 := ⟨k - 2, by omega⟩
    rw [show k + 2 = (k + 1) + 1 from rfl]
    simp only [ephemerisref1_ZoneRulesError.l0]
    rw [if_pos (by omega), if_pos (by omega), if_pos (by omega), show rd_T92 l (i : Int) = l.getD i z92 from rfl, ephemerisref1_In_f, Option.bind_some]
    have hj := ephemerisref1_ZoneRulesError_j1 l hl i (by omega) k
    rw [ih (i + 1) k (by omega) (by omega)] at hj
    unfold zrErr
    generalize hr : l.getD i z92 = r at hj ⊢
    have hb : ∀ t, t = zrBad r → ephemerisref1_ZoneRulesError.j1 (k + 1) l (i : Int) l (l.length : Int) (i : Int) t r.f0 r.f1 r.f2 r.f3 r.f4 r.f5 = some (if zrBad r = true then 3 else if isLabel r.f5 = true then (if 0 < i ∧ r.f0 ≤ (l.getD (i - 1) z92).f0 then 9 else zrErr l d (i + 1)) else 8) := by
      intro t ht
      subst ht
      rw [hj]
      split
      · rfl
      · split
        · split
          · rfl
          · rfl
        · rfl
    have bad : ¬ ((1 ≤ r.f0 ∧ r.f0 ≤ 12) ∧ (1 ≤ r.f1 ∧ r.f1 ≤ 5) ∧ (0 ≤ r.f2 ∧ r.f2 ≤ 6) ∧ (0 ≤ r.f3 ∧ r.f3 ≤ 86399999)) → true = zrBad r := by
      intro h; unfold zrBad; rw [decide_eq_false h]; rfl
    by_cases c1 : 1 ≤ r.f0 ∧ r.f0 ≤ 12
    · rw [decide_eq_true c1, if_pos rfl, ephemerisref1_In_f, Option.bind_some]
      by_cases c2 : 1 ≤ r.f1 ∧ r.f1 ≤ 5
      · rw [decide_eq_true c2, if_pos rfl, ephemerisref1_In_f, Option.bind_some]
        by_cases c3 : 0 ≤ r.f2 ∧ r.f2 ≤ 6
        · rw [decide_eq_true c3, if_pos rfl, ephemerisref1_In_f, Option.bind_some]
          by_cases c4 : 0 ≤ r.f3 ∧ r.f3 ≤ 86399999
          · rw [decide_eq_true c4, if_pos rfl, ephemerisref1_Offset_f _ (k + 1) (by omega), Option.bind_some]
            exact hb _ (by unfold zrBad; rw [decide_eq_true ⟨c1, c2, c3, c4⟩, Bool.true_and])
          · rw [decide_eq_false c4, if_neg (by decide)]; exact hb _ (bad (fun h => c4 h.2.2.2))
        · rw [decide_eq_false c3, if_neg (by decide)]; exact hb _ (bad (fun h => c3 h.2.2.1))
      · rw [decide_eq_false c2, if_neg (by decide)]; exact hb _ (bad (fun h => c2 h.2.1))
    · rw [decide_eq_false c1, if_neg (by decide)]; exact hb _ (bad (fun h => c1 h.1))
theorem ephemerisref1_ZoneRulesError_f (l : List S92) (k : Nat) (hk : 100 ≤ k) : ephemerisref1_ZoneRulesError.f k l = some (zrAll l) := by
  unfold ephemerisref1_ZoneRulesError.f zrAll
  rw [ephemerisref1_In_f, Option.bind_some]
  by_cases h : 1 ≤ l.length ∧ l.length ≤ 4
  · rw [decide_eq_true (show (1 : Int) ≤ (l.length : Int) ∧ (l.length : Int) ≤ 4 by omega), if_pos rfl, if_pos h]
    exact ephemerisref1_ZoneRulesError_l0 l h.2 l.length 0 k (by omega) (by omega)
  · rw [decide_eq_false (show ¬ ((1 : Int) ≤ (l.length : Int) ∧ (l.length : Int) ≤ 4) by omega), if_neg (by decide), if_neg h]

theorem ephemerisref1_SameZone_l0 (s : ByteArray) (o : Int) (l : List S43) (hl : l.length ≤ 1000000) : ∀ (d i k : Nat), i + d = l.length → d < k → ephemerisref1_SameZone.l0 k (l.length : Int) (i : Int) s o l s o l = some true := by
  intro d
  induction d with
  | zero =>
    intro i k hi hk
    obtain ⟨k, rfl⟩ : ∃ q, k = q + 1 := ⟨k - 1, by omega⟩
    simp only [ephemerisref1_SameZone.l0]
    rw [if_neg (by omega)]
  | succ d ih =>
    intro i k hi hk
    obtain ⟨k, rfl⟩ : ∃ q, k = q + 1 := ⟨k - 1, by omega⟩
    simp only [ephemerisref1_SameZone.l0]
    rw [if_pos (by omega), if_pos (by omega), if_pos (by omega), if_pos (by omega), if_neg (by simp), w64_id (by omega) (by omega)]
    exact ih (i + 1) k (by omega) (by omega)
theorem ephemerisref1_SameZone_refl (s : ByteArray) (o : Int) (l : List S43) (hl : l.length ≤ 1000000) (k : Nat) (hk : l.length + 1 < k) : ephemerisref1_SameZone.f k s o l s o l = some true := by
  obtain ⟨k, rfl⟩ : ∃ q, k = q + 1 := ⟨k - 1, by omega⟩
  unfold ephemerisref1_SameZone.f
  rw [if_pos rfl, if_pos rfl]
  simp only [ephemerisref1_SameZone.j0, bne_self_eq_false, Bool.false_eq_true, if_false]
  exact ephemerisref1_SameZone_l0 s o l hl l.length 0 k (by omega) (by omega)

theorem ephemerisref1_Greg_f (day : Int) (h : -1000000000000 ≤ day ∧ day ≤ 1000000000000) (k : Nat) (hk : 65 ≤ k) : ephemerisref1_Greg.f k day = some (greg day) := by
  obtain ⟨e, he⟩ : ∃ e, e = (day + 305) / 146097 := ⟨_, rfl⟩
  obtain ⟨n, hn⟩ : ∃ n, n = (day + 305) % 146097 := ⟨_, rfl⟩
  have hen : day + 305 - e * 146097 = n := by omega
  have hb : (0 ≤ n ∧ n ≤ 146096) ∧ (-10000000 ≤ e ∧ e ≤ 10000000) := by omega
  obtain ⟨⟨n0, n1⟩, e0, e1⟩ := hb
  obtain ⟨d, q, y3, s, b1, b2, b3, h1, h2, h3, h4, hy⟩ := era_split n n0 n1
  have hr := march_rest n d q y3 s b1 b2 b3 h1
  unfold ephemerisref1_Greg.f greg
  rw [w64_id (n := day + 305) (by omega) (by omega), ephemerisref1_Floor_f k hk (by omega) (by omega) (by omega) (by omega), Option.bind_some]
  simp only [← he, ← hn]
  have g2 : wrap64 (e * 146097) = e * 146097 := w64_id (by omega) (by omega)
  have g3 : wrap64 (day + 305 - e * 146097) = n := by rw [hen]; exact w64_id (by omega) (by omega)
  clear he hn
  rw [g2, g3]
  have t1 : Int.tdiv n 1460 = n / 1460 := Int.tdiv_eq_ediv_of_nonneg n0
  have t2 : Int.tdiv n 36524 = n / 36524 := Int.tdiv_eq_ediv_of_nonneg n0
  have t3 : Int.tdiv n 146096 = n / 146096 := Int.tdiv_eq_ediv_of_nonneg n0
  have q1 : 0 ≤ n / 1460 ∧ n / 1460 ≤ 101 := by clear hy hr; omega
  have q2 : 0 ≤ n / 36524 ∧ n / 36524 ≤ 4 := by clear hy hr; omega
  have q3 : 0 ≤ n / 146096 ∧ n / 146096 ≤ 1 := by clear hy hr; omega
  have q4 : 0 ≤ n - n / 1460 + n / 36524 - n / 146096 := by clear hy hr; omega
  rw [t1, t2, t3]
  generalize n / 1460 = c1 at *
  generalize n / 36524 = c2 at *
  generalize n / 146096 = c3 at *
  clear t1 t2 t3
  have w1 : wrap64 c1 = c1 := w64_id (by omega) (by omega)
  have w2 : wrap64 c2 = c2 := w64_id (by omega) (by omega)
  have w3 : wrap64 c3 = c3 := w64_id (by omega) (by omega)
  have w4 : wrap64 (n - c1) = n - c1 := w64_id (by omega) (by omega)
  have w5 : wrap64 (n - c1 + c2) = n - c1 + c2 := w64_id (by omega) (by omega)
  have w6 : wrap64 (n - c1 + c2 - c3) = n - c1 + c2 - c3 := w64_id (by omega) (by omega)
  have t4 : Int.tdiv (n - c1 + c2 - c3) 365 = 100 * d + 4 * q + y3 := by rw [Int.tdiv_eq_ediv_of_nonneg q4, hy]
  rw [w1, w2, w3, w4, w5, w6, t4]
  simp only [hy]
  clear w1 w2 w3 w4 w5 w6 t4 hy q1 q2 q3 q4
  generalize hY : 100 * d + 4 * q + y3 = Y at *
  have hY0 : 0 ≤ Y ∧ Y ≤ 399 := by omega
  have t5 : Int.tdiv Y 4 = Y / 4 := Int.tdiv_eq_ediv_of_nonneg hY0.1
  have t6 : Int.tdiv Y 100 = Y / 100 := Int.tdiv_eq_ediv_of_nonneg hY0.1
  have v1 : wrap64 Y = Y := w64_id (by omega) (by omega)
  have v2 : wrap64 (365 * Y) = 365 * Y := w64_id (by omega) (by omega)
  have v3 : wrap64 (Y / 4) = Y / 4 := w64_id (by omega) (by omega)
  have v4 : wrap64 (Y / 100) = Y / 100 := w64_id (by omega) (by omega)
  have v5 : wrap64 (365 * Y + Y / 4) = 365 * Y + Y / 4 := w64_id (by omega) (by omega)
  have v6 : wrap64 (365 * Y + Y / 4 - Y / 100) = 365 * Y + Y / 4 - Y / 100 := w64_id (by omega) (by omega)
  have v7 : wrap64 (n - (365 * Y + Y / 4 - Y / 100)) = s := by rw [hr]; exact w64_id (by omega) (by omega)
  rw [v1, v2, t5, t6, v3, v4, v5, v6, v7, hr]
  clear v1 v2 v3 v4 v5 v6 v7 hr t5 t6
  obtain ⟨m, hm⟩ : ∃ m, m = (5 * s + 2) / 153 := ⟨_, rfl⟩
  obtain ⟨hm0, hms⟩ := march_month s m h2 h3 hm
  have x1 : wrap64 (5 * s) = 5 * s := w64_id (by omega) (by omega)
  have x2 : wrap64 (5 * s + 2) = 5 * s + 2 := w64_id (by omega) (by omega)
  have x3 : Int.tdiv (5 * s + 2) 153 = m := by rw [hm]; exact Int.tdiv_eq_ediv_of_nonneg (by omega)
  have x4 : wrap64 m = m := w64_id (by omega) (by omega)
  have x5 : wrap64 (m + 3) = m + 3 := w64_id (by omega) (by omega)
  have x6 : wrap64 (153 * m) = 153 * m := w64_id (by omega) (by omega)
  have x7 : wrap64 (153 * m + 2) = 153 * m + 2 := w64_id (by omega) (by omega)
  have x8 : Int.tdiv (153 * m + 2) 5 = (153 * m + 2) / 5 := Int.tdiv_eq_ediv_of_nonneg (by omega)
  have x9 : wrap64 ((153 * m + 2) / 5) = (153 * m + 2) / 5 := w64_id (by omega) (by omega)
  have x10 : wrap64 (s - (153 * m + 2) / 5) = s - (153 * m + 2) / 5 := w64_id (by omega) (by omega)
  have x11 : wrap64 (s - (153 * m + 2) / 5 + 1) = s - (153 * m + 2) / 5 + 1 := w64_id (by omega) (by omega)
  have x12 : wrap64 (400 * e) = 400 * e := w64_id (by omega) (by omega)
  have x13 : wrap64 (Y + 400 * e) = Y + 400 * e := w64_id (by omega) (by omega)
  have x14 : wrap64 (Y + 400 * e + 1) = Y + 400 * e + 1 := w64_id (by omega) (by omega)
  have x15 : wrap64 (m + 3 - 12) = m + 3 - 12 := w64_id (by omega) (by omega)
  rw [← hm]
  clear hm
  simp only [x1, x2, x3, x4, x5, x6, x7, x8, x9, x10, x11, x12, x13, x14, x15]
  by_cases c : m + 3 > 12
  · rw [if_pos c, if_pos c]
  · rw [if_neg c, if_neg c]

theorem gregDay_step (G j Y M D : Int) (k : Nat) (hG : -100000000000 ≤ G ∧ G ≤ 100000000000) (hj : 0 ≤ j ∧ j < 12) (hk : 65 ≤ k) :
    ephemerisref1_GregDay.l0 (k + 1) G j Y M D = if greg (G + j) = (Y, M, D) then some (G + j) else ephemerisref1_GregDay.l0 k G (j + 1) Y M D := by
  conv => lhs; unfold ephemerisref1_GregDay.l0
  rw [if_pos hj.2, w64_id (n := G + j) (by omega) (by omega), ephemerisref1_Greg_f _ (by omega) k hk, Option.bind_some, w64_id (n := j + 1) (by omega) (by omega)]
  by_cases c : greg (G + j) = (Y, M, D)
  · rw [if_pos c, c, if_pos (by simp)]
  · rw [if_neg c, if_neg]
    intro h
    simp only [Bool.and_eq_true, beq_iff_eq] at h
    exact c (Prod.ext h.1 (Prod.ext h.2.1 h.2.2))
theorem gregDay_hit (G Y M D : Int) (hG : -100000000000 ≤ G ∧ G ≤ 100000000000) (ho : okDate Y M D) : ∀ (d k : Nat) (j : Int), G + j + d = dayOf Y M D → 0 ≤ j → j + d < 12 → 65 + d < k →
    ephemerisref1_GregDay.l0 k G j Y M D = some (dayOf Y M D) := by
  intro d
  induction d with
  | zero =>
    intro k j h h0 h1 hk
    obtain ⟨k, rfl⟩ : ∃ m, k = m + 1 := ⟨k - 1, by omega⟩
    have : G + j = dayOf Y M D := by omega
    rw [gregDay_step G j Y M D k hG (by omega) (by omega), this, dayOf_greg ho, if_pos rfl]
  | succ d ih =>
    intro k j h h0 h1 hk
    obtain ⟨k, rfl⟩ : ∃ m, k = m + 1 := ⟨k - 1, by omega⟩
    rw [gregDay_step G j Y M D k hG (by omega) (by omega), if_neg, ih k (j + 1) (by omega) (by omega) (by omega) (by omega)]
    intro c
    have := (greg_ok (G + j)).2
    rw [c] at this
    simp only at this
    omega
theorem gregDay_miss (G Y M D : Int) (hG : -100000000000 ≤ G ∧ G ≤ 100000000000) (ho : ¬ okDate Y M D) : ∀ (d k : Nat) (j : Int), j + d = 12 → 0 ≤ j → 65 + d < k →
    ephemerisref1_GregDay.l0 k G j Y M D = some (-1099511627776) := by
  intro d
  induction d with
  | zero =>
    intro k j h h0 hk
    obtain ⟨k, rfl⟩ : ∃ m, k = m + 1 := ⟨k - 1, by omega⟩
    conv => lhs; unfold ephemerisref1_GregDay.l0
    rw [if_neg (by omega)]
  | succ d ih =>
    intro k j h h0 hk
    obtain ⟨k, rfl⟩ : ∃ m, k = m + 1 := ⟨k - 1, by omega⟩
    rw [gregDay_step G j Y M D k hG (by omega) (by omega), if_neg, ih k (j + 1) (by omega) (by omega) (by omega)]
    intro c
    have := (greg_ok (G + j)).1
    rw [c] at this
    exact ho this
theorem ephemerisref1_GregDay_f (Y M D : Int) (hY : -10000 ≤ Y ∧ Y ≤ 10000) (hM : 1 ≤ M ∧ M ≤ 12) (hD : 1 ≤ D ∧ D ≤ 31) (k : Nat) (hk : 100 ≤ k) : ephemerisref1_GregDay.f k Y M D = some (if D ≤ lenM Y M then dayOf Y M D else -1099511627776) := by
  unfold ephemerisref1_GregDay.f
  have hb : -40000000 ≤ beg Y ∧ beg Y ≤ 40000000 := by unfold beg; omega
  have e : beg Y = 365 * (Y - 1) + (Y - 1) / 4 - (Y - 1) / 100 + (Y - 1) / 400 := rfl
  rw [w64_id (n := Y - 1) (by omega) (by omega), ephemerisref1_Floor_f k (by omega) (by omega) (by omega) (by omega) (by omega), ephemerisref1_Floor_f k (by omega) (by omega) (by omega) (by omega) (by omega), ephemerisref1_Floor_f k (by omega) (by omega) (by omega) (by omega) (by omega), Option.bind_some, Option.bind_some, Option.bind_some]
  rw [w64_id (n := 365 * (Y - 1)) (by omega) (by omega), w64_id (n := 365 * (Y - 1) + (Y - 1) / 4) (by omega) (by omega), w64_id (n := 365 * (Y - 1) + (Y - 1) / 4 - (Y - 1) / 100) (by omega) (by omega), w64_id (n := 365 * (Y - 1) + (Y - 1) / 4 - (Y - 1) / 100 + (Y - 1) / 400) (by omega) (by omega), ← e]
  rw [w64_id (n := M - 1) (by omega) (by omega), w64_id (n := 30 * (M - 1)) (by omega) (by omega), w64_id (n := beg Y + 30 * (M - 1)) (by omega) (by omega), w64_id (n := beg Y + 30 * (M - 1) + D) (by omega) (by omega), w64_id (n := beg Y + 30 * (M - 1) + D - 3) (by omega) (by omega)]
  clear e
  have hc : -1 ≤ cumM Y M - 30 * (M - 1) ∧ cumM Y M - 30 * (M - 1) ≤ 6 := by
    have : M = 1 ∨ M = 2 ∨ M = 3 ∨ M = 4 ∨ M = 5 ∨ M = 6 ∨ M = 7 ∨ M = 8 ∨ M = 9 ∨ M = 10 ∨ M = 11 ∨ M = 12 := by omega
    unfold cumM
    cases leapY Y <;> simp only [if_true, Bool.false_eq_true, if_false] <;> rcases this with rfl | rfl | rfl | rfl | rfl | rfl | rfl | rfl | rfl | rfl | rfl | rfl <;> decide
  by_cases c : D ≤ lenM Y M
  · rw [if_pos c]
    have ed : dayOf Y M D = beg Y + cumM Y M + D := rfl
    exact gregDay_hit (beg Y + 30 * (M - 1) + D - 3) Y M D (by omega) ⟨hM, hD.1, c⟩ (cumM Y M - 30 * (M - 1) + 3).toNat k 0 (by omega) (by omega) (by omega) (by omega)
  · rw [if_neg c]
    exact gregDay_miss (beg Y + 30 * (M - 1) + D - 3) Y M D (by omega) (fun h => c h.2.2) 12 k 0 (by omega) (by omega) (by omega)

theorem ephemerisref1_GregExists_f (Y M D : Int) (hY : -10000 ≤ Y ∧ Y ≤ 10000) (hD : 1 ≤ D ∧ D ≤ 31) (k : Nat) (hk : 100 ≤ k) : ephemerisref1_GregExists.f k Y M D = some (decide ((1 ≤ M ∧ M ≤ 12) ∧ D ≤ lenM Y M)) := by
  unfold ephemerisref1_GregExists.f
  by_cases c1 : M ≥ 1
  · rw [if_pos c1]
    by_cases c2 : M ≤ 12
    · rw [if_pos c2, ephemerisref1_GregDay_f Y M D hY ⟨c1, c2⟩ hD k hk, Option.bind_some]
      congr 1
      by_cases c : D ≤ lenM Y M
      · have hb : -40000000 ≤ beg Y ∧ beg Y ≤ 40000000 := by unfold beg; omega
        have hc := cum_le Y M c1 c2
        have ed : dayOf Y M D = beg Y + cumM Y M + D := rfl
        rw [if_pos c, decide_eq_true (show (1 ≤ M ∧ M ≤ 12) ∧ D ≤ lenM Y M from ⟨⟨c1, c2⟩, c⟩), decide_eq_true (by omega)]
      · rw [if_neg c, decide_eq_false (show ¬ ((1 ≤ M ∧ M ≤ 12) ∧ D ≤ lenM Y M) from fun h => c h.2)]; rfl
    · rw [if_neg c2, decide_eq_false (by omega)]
  · rw [if_neg c1, decide_eq_false (by omega)]

theorem ephemerisref1_Week_f {x : Int} (k : Nat) (hk : 65 ≤ k) (h0 : -4000000000000 ≤ x) (h1 : x ≤ 4000000000000) : ephemerisref1_Week.f k x = some ((x + 6) % 7) := by
  unfold ephemerisref1_Week.f
  rw [w64_id (by omega) (by omega), ephemerisref1_Mod_f k hk (by omega) (by omega) (by omega) (by omega)]
  rfl

theorem ephemerisref1_ZoneRuleDay_l0 (m w wd ms o : Int) (lab : ByteArray) (y : Int) (hy : -10000 ≤ y ∧ y ≤ 10000) (hm : 1 ≤ m ∧ m ≤ 12) (hw : 1 ≤ w ∧ w ≤ 5) (hwd : 0 ≤ wd ∧ wd ≤ 6) : ∀ (d : Nat) (j : Int) (k : Nat), j + d = 32 → 1 ≤ j → d + 200 < k →
    ephemerisref1_ZoneRuleDay.l0 k y (wkL (zCn (lenM y m) (zOff y m wd) (j - 1)).toNat (dayOf y m 1 + zOff y m wd)) j m w wd ms o lab = some (zDay y m w wd) := by
  have hl := len_pos y m
  have hd := dayOf_le y m hy hm
  have ho := zOff_le y m wd
  intro d
  induction d with
  | zero =>
    intro j k hj h1 hk
    obtain ⟨k, rfl⟩ : ∃ q, k = q + 1 := ⟨k - 1, by omega⟩
    obtain rfl : j = 32 := by omega
    simp only [ephemerisref1_ZoneRuleDay.l0]
    have hc : 4 ≤ zCn (lenM y m) (zOff y m wd) (32 - 1) ∧ zCn (lenM y m) (zOff y m wd) (32 - 1) ≤ 5 := by
      unfold zCn
      split
      · omega
      · omega
    rw [if_neg (by omega)]
    unfold zDay
    rw [show (31 : Int) = 32 - 1 from rfl]
    generalize zCn (lenM y m) (zOff y m wd) (32 - 1) = n at hc ⊢
    rw [wkL_len]
    by_cases c : w = 5
    · rw [if_pos c, if_pos c, w64_id (n := ((n.toNat : Nat) : Int) - 1) (by omega) (by omega), if_pos (by omega), if_pos (by omega), wkL_rd _ _ _ (by omega) (by omega), show ((n.toNat : Nat) : Int) = n from by omega]
    · rw [if_neg c, if_neg c, w64_id (n := w - 1) (by omega) (by omega), if_pos (by omega), if_pos (by omega), wkL_rd _ _ _ (by omega) (by omega)]
  | succ d ih =>
    intro j k hj h1 hk
    obtain ⟨k, rfl⟩ : ∃ q, k = q + 1 := ⟨k - 1, by omega⟩
    simp only [ephemerisref1_ZoneRuleDay.l0]
    have hi := ih (j + 1) k (by omega) (by omega) (by omega)
    rw [show j + 1 - 1 = j from by omega] at hi
    rw [if_pos (by omega), ephemerisref1_GregExists_f y m j hy (by omega) k (by omega), Option.bind_some, w64_id (n := j + 1) (by omega) (by omega)]
    by_cases c : j ≤ lenM y m
    · rw [decide_eq_true ⟨hm, c⟩, if_pos rfl, ephemerisref1_GregDay_f y m j hy hm (by omega) k (by omega), if_pos c, Option.bind_some, dayOf_first y m j, ephemerisref1_Week_f k (by omega) (by omega) (by omega), Option.bind_some]
      by_cases c2 : (dayOf y m 1 + j - 1 + 6) % 7 = wd
      · rw [if_pos c2, Option.bind_some]
        have hs : zCn (lenM y m) (zOff y m wd) j = zCn (lenM y m) (zOff y m wd) (j - 1) + 1 ∧ 0 ≤ zCn (lenM y m) (zOff y m wd) (j - 1) ∧ zCn (lenM y m) (zOff y m wd) (j - 1) ≤ 5 ∧ dayOf y m 1 + j - 1 = dayOf y m 1 + zOff y m wd + 7 * zCn (lenM y m) (zOff y m wd) (j - 1) := by
          unfold zCn zOff
          rw [if_pos c, if_pos (by omega)]
          omega
        obtain ⟨s1, s2, s3, s4⟩ := hs
        rw [s1] at hi
        generalize zCn (lenM y m) (zOff y m wd) (j - 1) = n at s2 s3 s4 hi ⊢
        rw [show (n + 1).toNat = n.toNat + 1 from by omega, wkL_succ, show ((n.toNat : Nat) : Int) = n from by omega, ← s4] at hi
        rw [wkL_len, if_pos (by omega)]
        exact hi
      · rw [if_neg c2]
        have hs : zCn (lenM y m) (zOff y m wd) j = zCn (lenM y m) (zOff y m wd) (j - 1) := by
          unfold zCn zOff
          rw [if_pos c, if_pos (by omega)]
          omega
        rw [hs] at hi
        exact hi
    · rw [decide_eq_false (fun h => c h.2), if_neg (by decide)]
      have hs : zCn (lenM y m) (zOff y m wd) j = zCn (lenM y m) (zOff y m wd) (j - 1) := by
        unfold zCn
        rw [if_neg c]
        split
        · omega
        · rfl
      rw [hs] at hi
      exact hi
theorem ephemerisref1_ZoneRuleDay_f (m w wd ms o : Int) (lab : ByteArray) (y : Int) (hy : -10000 ≤ y ∧ y ≤ 10000) (hm : 1 ≤ m ∧ m ≤ 12) (hw : 1 ≤ w ∧ w ≤ 5) (hwd : 0 ≤ wd ∧ wd ≤ 6) (k : Nat) (hk : 300 ≤ k) : ephemerisref1_ZoneRuleDay.f k m w wd ms o lab y = some (zDay y m w wd) := by
  have ho := zOff_le y m wd
  have hl := len_pos y m
  have h := ephemerisref1_ZoneRuleDay_l0 m w wd ms o lab y hy hm hw hwd 31 1 k (by omega) (by omega) (by omega)
  rw [show zCn (lenM y m) (zOff y m wd) (1 - 1) = 0 from by unfold zCn; rw [if_pos (by omega)]; omega] at h
  exact h

theorem ephemerisref1_ZoneYear_l0 (l : List S92) (y : Int) (hl : l.length ≤ 4) (hy : -10000 ≤ y ∧ y ≤ 10000) (hr : ∀ j, j < l.length → ZrOk (l.getD j z92)) : ∀ (d i k : Nat) (b : Int) (acc : List S43), i + d = l.length → d + 400 < k → acc.length = i → -64800000 ≤ b → b ≤ 64800000 →
    ephemerisref1_ZoneYear.l0 k l b y acc l (l.length : Int) (i : Int) = some (acc ++ zYear l y d i (if 0 < i then (l.getD (i - 1) z92).f4 else b)) := by
  intro d
  induction d with
  | zero =>
    intro i k b acc hi hk ha hb hb1
    obtain ⟨k, rfl⟩ : ∃ q, k = q + 1 := ⟨k - 1, by omega⟩
    simp only [ephemerisref1_ZoneYear.l0]
    rw [if_neg (by omega)]
    unfold zYear
    rw [List.append_nil]
  | succ d ih =>
    intro i k b acc hi hk ha hb hb1
    obtain ⟨k, rfl⟩ : ∃ q, k = q + 1 := ⟨k - 1, by omega⟩
    simp only [ephemerisref1_ZoneYear.l0]
    have hri := hr i (by omega)
    rw [if_pos (by omega), if_pos (by omega), if_pos (by omega), show rd_T92 l (i : Int) = l.getD i z92 from rfl]
    unfold zYear
    have hnext : ∀ (b' : Int) (acc' : List S43), acc'.length = i + 1 → -64800000 ≤ b' → b' ≤ 64800000 → ephemerisref1_ZoneYear.l0 k l b' y acc' l (l.length : Int) ((i + 1 : Nat) : Int) = some (acc' ++ zYear l y d (i + 1) (l.getD i z92).f4) := by
      intro b' acc' h1 h2 h3
      have := ih (i + 1) k b' acc' (by omega) (by omega) h1 h2 h3
      rwa [if_pos (by omega), show i + 1 - 1 = i from by omega] at this
    have hq := w64_id (n := (i : Int) + 1) (by omega) (by omega)
    rw [hq, show (i : Int) + 1 = ((i + 1 : Nat) : Int) from by omega]
    by_cases c : 0 < i
    · have hp := hr (i - 1) (by omega)
      rw [if_pos (by omega), w64_id (n := (i : Int) - 1) (by omega) (by omega), if_pos (by omega), if_pos (by omega), if_pos c,
        show rd_T92 l ((i : Int) - 1) = l.getD (i - 1) z92 from by unfold rd_T92; rw [show ((i : Int) - 1).toNat = i - 1 by omega]]
      generalize l.getD (i - 1) z92 = p at hp ⊢
      generalize l.getD i z92 = r at hri hnext ⊢
      obtain ⟨h1, h2, h3, h4, h5, h6⟩ := hri
      obtain ⟨_, _, _, _, g5, g6⟩ := hp
      have hz := zDay_le y r.f0 r.f1 r.f2 hy h1 h2
      rw [ephemerisref1_ZoneRuleDay_f _ _ _ _ _ _ y hy h1 h2 h3 k (by omega), Option.bind_some, if_pos (by omega), w64_id (n := zDay y r.f0 r.f1 r.f2 * 86400000) (by omega) (by omega), w64_id (n := zDay y r.f0 r.f1 r.f2 * 86400000 + r.f3) (by omega) (by omega), w64_id (n := zDay y r.f0 r.f1 r.f2 * 86400000 + r.f3 - p.f4) (by omega) (by omega),
        hnext _ _ (by rw [List.length_append, ha]; rfl) g5 g6, List.append_assoc]
      rfl
    · rw [if_neg (by omega), if_neg c]
      generalize l.getD i z92 = r at hri hnext ⊢
      obtain ⟨h1, h2, h3, h4, h5, h6⟩ := hri
      have hz := zDay_le y r.f0 r.f1 r.f2 hy h1 h2
      rw [ephemerisref1_ZoneRuleDay_f _ _ _ _ _ _ y hy h1 h2 h3 k (by omega), Option.bind_some, if_pos (by omega), w64_id (n := zDay y r.f0 r.f1 r.f2 * 86400000) (by omega) (by omega), w64_id (n := zDay y r.f0 r.f1 r.f2 * 86400000 + r.f3) (by omega) (by omega), w64_id (n := zDay y r.f0 r.f1 r.f2 * 86400000 + r.f3 - b) (by omega) (by omega),
        hnext _ _ (by rw [List.length_append, ha]; rfl) hb hb1, List.append_assoc]
      rfl
theorem ephemerisref1_ZoneYear_f (l : List S92) (b y : Int) (hl : l.length ≤ 4) (hy : -10000 ≤ y ∧ y ≤ 10000) (hr : ∀ j, j < l.length → ZrOk (l.getD j z92)) (hb : -64800000 ≤ b ∧ b ≤ 64800000) (k : Nat) (hk : 500 ≤ k) : ephemerisref1_ZoneYear.f k l b y = some (zYear l y l.length 0 b) := by
  have h := ephemerisref1_ZoneYear_l0 l y hl hy hr l.length 0 k b [] (by omega) (by omega) rfl hb.1 hb.2
  rw [if_neg (by omega)] at h
  exact h

theorem fx_j3_bad (r : List S92) (a b e : Int) (he : e ≠ 0) (s : ByteArray) (o : Int) (l : List S43) (k : Nat) (hk : 10 ≤ k) : ephemerislaw1_ForecastExtends.j3 (k + 1) r a b e e s o l ⟨#[]⟩ 0 [] = some true := by
  simp only [ephemerislaw1_ForecastExtends.j3]
  rw [if_neg he, ephemerisref1_SameZone_refl _ _ _ (by decide) k (by show 0 + 1 < k; omega), Option.bind_some, if_pos rfl]
  simp
theorem fx_l0 (s : ByteArray) (o : Int) (r : List S92) (hrl : zrAll r = 0) (ho : okOff o = true) (tq : Int) (hto : tq ≤ 10000) (E : List S43) (X0 : ByteArray) (X1 : Int) (X2 : List S43) (x12 : Int)
    (hX : (X0, X1, X2, x12) = if znAll s o E = 0 then (s, o, E, 0) else (⟨#[]⟩, 0, [], znAll s o E)) (hEl : E.length ≤ 1000) : ∀ (n : Nat) (y : Int) (k : Nat) (acc : List S43), y + n = tq + 1 → -10000 ≤ y → n + 3000 < k → acc.length + 4 * n ≤ 1000 → zGood acc → E = zExt r o n y acc →
    ephemerislaw1_ForecastExtends.l0 k r tq x12 y X0 X1 X2 s o acc = some true := by
  intro n
  induction n with
  | zero =>
    intro y k acc hy hy0 hk hl hg hE
    obtain ⟨k, rfl⟩ : ∃ m, k = m + 1 := ⟨k - 1, by omega⟩
    simp only [zExt] at hE
    subst hE
    simp only [ephemerislaw1_ForecastExtends.l0]
    rw [if_neg (by omega), ephemerisref1_ZoneError_f s o E (zGood_wf hg) k (by omega), Option.bind_some]
    by_cases h : znAll s o E = 0
    · rw [if_pos h] at hX
      simp only [Prod.mk.injEq] at hX
      obtain ⟨rfl, rfl, rfl, rfl⟩ := hX
      rw [if_pos h, if_pos rfl, ephemerisref1_SameZone_refl _ _ _ (by omega) k (by omega)]
      rfl
    · rw [if_neg h] at hX
      simp only [Prod.mk.injEq] at hX
      obtain ⟨rfl, rfl, rfl, rfl⟩ := hX
      rw [if_neg h, ephemerisref1_SameZone_refl _ _ _ (by decide) k (by show 0 + 1 < k; omega), Option.bind_some, if_pos rfl]
      simp
  | succ n ih =>
    intro y k acc hy hy0 hk hl hg hE
    obtain ⟨k, rfl⟩ : ∃ m, k = m + 1 := ⟨k - 1, by omega⟩
    simp only [zExt] at hE
    simp only [ephemerislaw1_ForecastExtends.l0]
    obtain ⟨hl4, hr⟩ := zrAll_ok hrl
    obtain ⟨hl1, hro⟩ := zrAll_off hrl
    have hz := zLast_ok ho hg
    have hb := okOff_le hz
    have hmg := zYear_good r y ⟨hy0, by omega⟩ hr hro r.length 0 (zLast o acc) (by omega) hb.1 hb.2
    have hml := zYear_len r y r.length 0 (zLast o acc)
    have hZ := ephemerisref1_ZoneYear_f r (zLast o acc) y hl4 ⟨hy0, by omega⟩ hr hb k (by omega)
    generalize zYear r y r.length 0 (zLast o acc) = more at hmg hml hZ hE
    have hih := ih (y + 1) k (acc ++ more) (by omega) (by omega) (by omega) (by rw [List.length_append]; omega) (zGood_app hg hmg) hE
    rw [if_pos (by omega)]
    unfold zLast at hZ
    by_cases c : acc.length = 0
    · rw [if_pos c] at hZ
      rw [if_neg (by omega), hZ, Option.bind_some, if_pos (by omega), w64_id (n := y + 1) (by omega) (by omega)]
      exact hih
    · rw [if_neg c] at hZ
      have hq : wrap64 ((acc.length : Int) - 1) = (acc.length : Int) - 1 := w64_id (by omega) (by omega)
      have hrd : (rd_T43 acc ((acc.length : Int) - 1)).f1 = (acc.getD (acc.length - 1) z43).f1 := by
        unfold rd_T43
        rw [show ((acc.length : Int) - 1).toNat = acc.length - 1 by omega]
      rw [if_pos (by omega), hq, if_pos (by omega), if_pos (by omega), hrd, hZ, Option.bind_some, if_pos (by omega), w64_id (n := y + 1) (by omega) (by omega)]
      exact hih
theorem ForecastExtends : ephemerislaw1_ForecastExtends.Pure := by
  intro s o l r a b hs ho hl hr ha hb
  have hw : znWf l := fun c hc => wf_i64 (hl.2.2 c hc).1
  have ha := wf_i64 ha
  have hb := wf_i64 hb
  obtain ⟨K, hK⟩ : ∃ K : Nat, 5000 ≤ K := ⟨_, Nat.le_refl _⟩
  refine ⟨K, ?_⟩
  unfold ephemerislaw1_ForecastExtends.f ephemerislaw1_summer.f
  rw [Option.bind_some]
  have hb0 : fxErr ⟨#[98, 97, 115, 101]⟩ 3600000 [] [(⟨3, 5, 6, 3600000, 7200000, (⟨#[83, 85, 77]⟩ : ByteArray)⟩ : S92)] 2024 2025 = 0 := by decide +kernel
  have hE1 : znAll ⟨#[98, 97, 115, 101]⟩ 3600000 (zExt [(⟨3, 5, 6, 3600000, 7200000, (⟨#[83, 85, 77]⟩ : ByteArray)⟩ : S92)] 3600000 ((2025 : Int) - 2024 + 1).toNat 2024 []) = 0 := by decide +kernel
  have hE2 := zExt_len [(⟨3, 5, 6, 3600000, 7200000, (⟨#[83, 85, 77]⟩ : ByteArray)⟩ : S92)] 3600000 ((2025 : Int) - 2024 + 1).toNat 2024 []
  have hE3 : ((rd_T43 (zExt [(⟨3, 5, 6, 3600000, 7200000, (⟨#[83, 85, 77]⟩ : ByteArray)⟩ : S92)] 3600000 ((2025 : Int) - 2024 + 1).toNat 2024 []) 0).f0 != 63847526400000) = false := by decide +kernel
  rw [forecast_Extend_ok _ _ _ _ _ _ (fun c hc => by cases hc) K (by omega) hb0, if_pos hE1, Option.bind_some]
  generalize zExt [(⟨3, 5, 6, 3600000, 7200000, (⟨#[83, 85, 77]⟩ : ByteArray)⟩ : S92)] 3600000 ((2025 : Int) - 2024 + 1).toNat 2024 [] = E0 at hE2 hE3 ⊢
  replace hE2 : E0.length = 2 := hE2
  simp only
  rw [if_pos trivial, if_pos (show (E0.length : Int) = 2 by omega), if_pos (show 0 < (E0.length : Int) by omega), hE3]
  clear hE3 hE2 hE1 hb0
  obtain ⟨k, rfl⟩ : ∃ m, K = m + 4 := ⟨K - 4, by omega⟩
  rw [show k + 4 = (k + 3) + 1 from rfl]
  simp only [ephemerislaw1_ForecastExtends.j0, Bool.false_eq_true, if_false]
  rw [ephemerisref1_ZoneRulesError_f r (k + 3) (by omega)]
  by_cases he : fxErr s o l r a b = 0
  · rw [forecast_Extend_ok s o l r a b hw (k + 3) (by omega) he, Option.bind_some, Option.bind_some]
    obtain ⟨h1, h2, h3, h4⟩ := fxErr_ok he
    obtain ⟨_, hoo, hz⟩ := znAll_ok h2
    have h200 := hz.1
    obtain ⟨hl4, _⟩ := zrAll_ok h1
    have hlen := zExt_len r o (b - a + 1).toNat a l
    have hmul : (b - a + 1).toNat * r.length ≤ 51 * 4 := Nat.mul_le_mul (by omega) hl4
    obtain ⟨X0, X1, X2, x12, hX⟩ : ∃ X0 X1 X2 x12, (X0, X1, X2, x12) = (if znAll s o (zExt r o (b - a + 1).toNat a l) = 0 then (s, o, zExt r o (b - a + 1).toNat a l, (0 : Int)) else ((⟨#[]⟩ : ByteArray), (0 : Int), ([] : List S43), znAll s o (zExt r o (b - a + 1).toNat a l))) := ⟨_, _, _, _, rfl⟩
    rw [← hX]
    simp only
    rw [if_pos h1, ephemerisref1_ZoneError_f s o l hw (k + 3) (by omega), Option.bind_some]
    rw [show k + 3 = (k + 2) + 1 from rfl]
    simp only [ephemerislaw1_ForecastExtends.j1]
    rw [if_pos h2, ephemerisref1_In_f, Option.bind_some, decide_eq_true (show -10000 ≤ a ∧ a ≤ 10000 by omega), if_pos rfl, ephemerisref1_In_f, Option.bind_some, decide_eq_true (show a ≤ b ∧ b ≤ 10000 by omega)]
    rw [show k + 2 = (k + 1) + 1 from rfl]
    simp only [ephemerislaw1_ForecastExtends.j2, Bool.not_true, Bool.false_eq_true, if_false]
    rw [w64_id (n := b - a) (by omega) (by omega), if_neg (by omega)]
    simp only [ephemerislaw1_ForecastExtends.j3]
    rw [if_pos h2, if_pos (by simp only [List.length_nil]; omega), List.nil_append]
    exact fx_l0 s o r h1 hoo b h3.2.2 (zExt r o (b - a + 1).toNat a l) X0 X1 X2 x12 hX (by omega) (b - a + 1).toNat a k l (by omega) h3.1 (by omega) (by omega) (zOk_good hw h2) rfl
  · rw [forecast_Extend_bad s o l r a b ha hb hw (k + 3) (by omega) he, Option.bind_some, Option.bind_some]
    simp only
    have fin : ∀ e, e = fxErr s o l r a b → ephemerislaw1_ForecastExtends.j3 (k + 1) r a b (fxErr s o l r a b) e s o l ⟨#[]⟩ 0 [] = some true := by
      intro e h
      subst h
      exact fx_j3_bad r a b _ he s o l k (by omega)
    have fin2 : ∀ e, e ≠ 0 → e = fxErr s o l r a b → ephemerislaw1_ForecastExtends.j1 (k + 3) r a b (fxErr s o l r a b) e s o l ⟨#[]⟩ 0 [] = some true := by
      intro e h0 h
      subst h
      rw [show k + 3 = (k + 2) + 1 from rfl]
      simp only [ephemerislaw1_ForecastExtends.j1]
      rw [if_neg h0]
      exact fx_j3_bad r a b _ he s o l (k + 1) (by omega)
    by_cases h1 : zrAll r = 0
    · rw [if_pos h1, ephemerisref1_ZoneError_f s o l hw (k + 3) (by omega), Option.bind_some]
      by_cases h2 : znAll s o l = 0
      · have e : fxErr s o l r a b = if -10000 ≤ a ∧ a ≤ b ∧ b ≤ 10000 then (if b - a > 50 then 2 else 0) else 3 := by unfold fxErr; rw [if_pos h1, if_pos h2]
        rw [show k + 3 = (k + 2) + 1 from rfl]
        simp only [ephemerislaw1_ForecastExtends.j1]
        rw [if_pos h2, ephemerisref1_In_f, Option.bind_some]
        rw [show k + 2 = (k + 1) + 1 from rfl]
        by_cases c1 : -10000 ≤ a ∧ a ≤ 10000
        · rw [decide_eq_true c1, if_pos rfl, ephemerisref1_In_f, Option.bind_some]
          by_cases c2 : a ≤ b ∧ b ≤ 10000
          · rw [decide_eq_true c2]
            simp only [ephemerislaw1_ForecastExtends.j2, Bool.not_true, Bool.false_eq_true, if_false]
            rw [if_pos (show -10000 ≤ a ∧ a ≤ b ∧ b ≤ 10000 by omega)] at e
            by_cases c3 : b - a > 50
            · rw [if_pos c3] at e
              rw [w64_id (n := b - a) (by omega) (by omega), if_pos c3]
              exact fin 2 e.symm
            · rw [if_neg c3] at e; exact absurd e he
          · rw [decide_eq_false c2]
            simp only [ephemerislaw1_ForecastExtends.j2, Bool.not_false, if_true]
            rw [if_neg (show ¬ (-10000 ≤ a ∧ a ≤ b ∧ b ≤ 10000) by omega)] at e
            exact fin 3 e.symm
        · rw [decide_eq_false c1, if_neg (by decide)]
          simp only [ephemerislaw1_ForecastExtends.j2, if_true]
          rw [if_neg (show ¬ (-10000 ≤ a ∧ a ≤ b ∧ b ≤ 10000) by omega)] at e
          exact fin 3 e.symm
      · exact fin2 _ h2 (by unfold fxErr; rw [if_pos h1, if_neg h2])
    · rw [if_neg h1]
      exact fin2 _ h1 (by unfold fxErr; rw [if_neg h1])
end Go.Proofs.YtolhlaadhfilnaaDoor.Pure
