/- The law ZonetextDiffs over numbers and lists: what the law's functions tell, and that the law holds. -/
import Derived.Test.YtolhlaadhfilnaaDoorPZonetextDiffsx8
import Derived.Test.YtolhlaadhfilnaaDoorM
import Derived.Test.YtolhlaadhfilnaaDoorT
import Derived.Test.YtolhlaadhfilnaaDoorZ
import Derived.Test.YtolhlaadhfilnaaDoorO
namespace Go.Proofs.YtolhlaadhfilnaaDoor.Pure
open Go.RowKit Go.Proofs.YtolhlaadhfilnaaDoor.PZonetextDiffs Go.Proofs.YtolhlaadhfilnaaDoorW.PrintWords Go.Proofs.YtolhlaadhfilnaaDoorW.PrintLast Go.Proofs.YtolhlaadhfilnaaDoor.M Go.Proofs.YtolhlaadhfilnaaDoor.T Go.Proofs.YtolhlaadhfilnaaDoor.Z Go.Proofs.YtolhlaadhfilnaaDoor.O
set_option linter.unusedVariables false
set_option linter.unusedSimpArgs false
/-- The law over numbers and lists. -/
def ephemerislaw1_ZonetextDiffs.Pure : Prop := ∀ (a0_0 : ByteArray) (a0_1 : Int) (l0_2 : List (S43)) (a1_0 : ByteArray) (a1_1 : Int) (l1_2 : List (S43)), a0_0.size ≤ 140737488351232 → (Lit.int .i64 a0_1).wf = true → (l0_2.length * 32 ≤ 140737488351232 ∧ l0_2.length ≤ 9223372036854775807 ∧ ∀ v ∈ l0_2, ((Lit.int .i64 v.f0).wf = true ∧ (Lit.int .i64 v.f1).wf = true ∧ v.f2.size ≤ 140737488351232)) → a1_0.size ≤ 140737488351232 → (Lit.int .i64 a1_1).wf = true → (l1_2.length * 32 ≤ 140737488351232 ∧ l1_2.length ≤ 9223372036854775807 ∧ ∀ v ∈ l1_2, ((Lit.int .i64 v.f0).wf = true ∧ (Lit.int .i64 v.f1).wf = true ∧ v.f2.size ≤ 140737488351232)) → ∃ k, ephemerislaw1_ZonetextDiffs.f k a0_0 a0_1 l0_2 a1_0 a1_1 l1_2 = some true

theorem ephemerisref1_In_f (x lo hi : Int) : ephemerisref1_In.f x lo hi = some (decide (lo ≤ x ∧ x ≤ hi)) := by
  unfold ephemerisref1_In.f
  by_cases h : x ≥ lo
  · rw [if_pos h]; congr 1; simp; omega
  · rw [if_neg h]; congr 1; simp; omega

theorem ephemerisref1_Day_f (x : Int) : ephemerisref1_Day.f x = some (decide (-4000000 ≤ x ∧ x ≤ 4000000)) := by
  unfold ephemerisref1_Day.f
  rw [ephemerisref1_In_f]; rfl

theorem ephemerisref1_Size_f {a : Int} (h0 : -9223372036854775808 ≤ a) (h1 : a ≤ 9223372036854775807) : ephemerisref1_Size.f a = some (ab a) := by
  unfold ephemerisref1_Size.f ab
  by_cases c : a < 0
  · rw [if_pos c, if_pos c, w64_id (n := a + 1) (by omega) (by omega), w64_id (n := -(a + 1)) (by omega) (by omega), u64_id (n := -(a + 1)) (by omega) (by omega), u64_id (by omega) (by omega)]
    congr 1; omega
  · rw [if_neg c, if_neg c, u64_id (by omega) (by omega)]

theorem ephemerisref1_Div_l0 (X Y : Int) (hX : 0 ≤ X) (hX1 : X < 18446744073709551616) (hY : 0 < Y) (hY1 : Y ≤ 9223372036854775808) :
    ∀ (n k : Nat), n ≤ 64 → n < k → ephemerisref1_Div.l0 k X Y (X / 2 ^ n / Y * 2 ^ n) (X / 2 ^ n % Y) ((n : Int) - 1) = some (X / Y, X % Y) := by
  intro n
  induction n with
  | zero =>
    intro k _ hk
    obtain ⟨k, rfl⟩ : ∃ m, k = m + 1 := ⟨k - 1, by omega⟩
    simp only [ephemerisref1_Div.l0]
    rw [if_neg (by omega)]
    simp
  | succ n ih =>
    intro k hn hk
    obtain ⟨k, rfl⟩ : ∃ m, k = m + 1 := ⟨k - 1, by omega⟩
    have ih := ih k (by omega) (by omega)
    have hhp := half_pow X n
    have hpow : (2 : Int) ^ (n + 1) = 2 * 2 ^ n := by rw [Int.pow_succ, Int.mul_comm]
    have hpp := pow_pos' n
    have hp63 := pow_le_63 n (by omega)
    have hd1 := div_pow_le X Y (n + 1) hX hY
    have hd0 := div_pow_le X Y n hX hY
    have hz : 0 ≤ X / 2 ^ n := Int.ediv_nonneg hX (by omega)
    obtain ⟨s1, s2⟩ := long_step (X / 2 ^ n) Y hz hY
    rw [← hhp] at s1 s2
    have r0 := Int.emod_nonneg (X / 2 ^ (n + 1)) (b := Y) (by omega)
    have r1 := Int.emod_lt_of_pos (X / 2 ^ (n + 1)) hY
    have hshr : shr .u64 X ((n : Int) + 1 - 1) = X / 2 ^ n := by
      rw [show (n : Int) + 1 - 1 = n from by omega]; exact shr_pow X n (by omega)
    have hshl : shl .u64 1 ((n : Int) + 1 - 1) = 2 ^ n := by
      rw [show (n : Int) + 1 - 1 = n from by omega]; exact shl_one n (by omega)
    have hzx : X / 2 ^ n ≤ X := Int.ediv_le_self _ hX
    have hmod : (X / 2 ^ (n + 1) / Y * 2 ^ (n + 1)) % 2 ^ (n + 1) = 0 := Int.mul_emod_left _ _
    have hor : Go.bits .or .u64 (X / 2 ^ (n + 1) / Y * 2 ^ (n + 1)) (2 ^ n) = X / 2 ^ (n + 1) / Y * 2 ^ (n + 1) + 2 ^ n :=
      or_join (n + 1) _ _ hd1.1 (by omega) hmod (by omega) (by omega) (by omega)
    have q2 : X / 2 ^ (n + 1) / Y * 2 ^ (n + 1) = 2 * (X / 2 ^ (n + 1) / Y) * 2 ^ n := by
      rw [hpow, Int.mul_comm 2 (X / (2 * 2 ^ n) / Y), Int.mul_assoc]
    generalize hR : X / 2 ^ (n + 1) % Y = R at *
    generalize hQ : X / 2 ^ (n + 1) / Y * 2 ^ (n + 1) = Q at *
    simp only [ephemerisref1_Div.l0]
    rw [show (((n + 1 : Nat) : Int) - 1) = (n : Int) + 1 - 1 from by omega]
    rw [if_pos (by omega), hshr, hshl, hor, w64_id (n := (n : Int) + 1 - 1 - 1) (by omega) (by omega), show (n : Int) + 1 - 1 - 1 = (n : Int) - 1 from by omega]
    rw [Go.Proofs.YtolhlaadhfilnaaDoor.M.and_one _ hz (by omega), u64_id (n := R * 2) (by omega) (by omega)]
    have hbit := Int.emod_nonneg (X / 2 ^ n) (b := 2) (by omega)
    have hbit1 := Int.emod_lt_of_pos (X / 2 ^ n) (b := 2) (by omega)
    rw [or_join 1 (R * 2) _ (by omega) (by omega) (by simp only [Int.reducePow]; omega) hbit (by simp only [Int.reducePow]; omega) (by omega)]
    rw [if_neg (by omega)]
    rw [show R * 2 + X / 2 ^ n % 2 = 2 * R + X / 2 ^ n % 2 from by omega]
    by_cases c : Y ≤ 2 * R + X / 2 ^ n % 2
    · rw [if_pos c, u64_id (by omega) (by omega)]
      have e := s1 c
      rw [e.1, e.2, Int.add_mul, Int.one_mul, ← q2] at ih
      exact ih
    · rw [if_neg c]
      have e := s2 c
      rw [e.1, e.2, ← q2] at ih
      exact ih
theorem ephemerisref1_Div_f {a b : Int} (k : Nat) (hk : 65 ≤ k) (ha : -9223372036854775808 ≤ a) (ha1 : a ≤ 9223372036854775807) (hb : -9223372036854775808 ≤ b) (hb1 : b ≤ 9223372036854775807) : ephemerisref1_Div.f k a b = some (divs a b) := by
  unfold ephemerisref1_Div.f
  by_cases c : b = 0
  · rw [if_pos c]; unfold divs; rw [if_pos c]
  rw [if_neg c, ephemerisref1_Size_f ha ha1, ephemerisref1_Size_f hb hb1]
  simp only [Option.bind_some]
  have hX := ab_nonneg a
  have hX1 := ab_le ha ha1
  have hY1 := ab_le hb hb1
  have hY : 0 < ab b := by unfold ab; split <;> omega
  have h64 := ephemerisref1_Div_l0 (ab a) (ab b) hX (by omega) hY hY1 64 k (by omega) (by omega)
  have hz : ab a / 2 ^ 64 = 0 := Int.ediv_eq_zero_of_lt hX (by simp only [Int.reducePow]; omega)
  rw [hz] at h64
  simp only [Int.zero_ediv, Int.zero_mul, Int.zero_emod] at h64
  rw [show (((64 : Nat) : Int) - 1) = 63 from by omega] at h64
  rw [h64]
  simp only [Option.bind_some, Option.some.injEq]
  have h1 := Int.mul_ediv_add_emod (ab a) (ab b)
  have h2 := Int.emod_nonneg (ab a) (b := ab b) (by omega)
  have h3 := Int.emod_lt_of_pos (ab a) hY
  have h4 : ab a / ab b ≤ ab a := Int.ediv_le_self _ hX
  have h5 : 0 ≤ ab a / ab b := Int.ediv_nonneg hX (by omega)
  have h6 : 2 ≤ ab b → ab a / ab b ≤ 4611686018427387904 := fun h => by
    have : ab a / ab b ≤ ab a / 2 := by
      have := Int.ediv_le_ediv (c := 2) (by omega) (a := ab a / ab b * 2) (b := ab a) (by
        have : ab a / ab b * 2 ≤ ab a / ab b * ab b := Int.mul_le_mul_of_nonneg_left h h5
        rw [Int.mul_comm (ab b)] at h1
        omega)
      omega
    omega
  have h7 : ab b = 1 → ab a / ab b = ab a ∧ ab a % ab b = 0 := fun h => by rw [h]; omega
  have uniq : ∀ {q r : Int}, a = b * q + r → (0 < b → 0 ≤ r ∧ r < b) → (b < 0 → b < r ∧ r ≤ 0) → ¬ (a = -9223372036854775808 ∧ b = -1) → divs a b = (q, r, 0) := by
    intro q r e1 e2 e3 e4
    have := fd_uniq e1 e2 e3 c
    unfold divs
    rw [if_neg c, if_neg e4, this.1, this.2]
  generalize hq : ab a / ab b = q at *
  generalize hr : ab a % ab b = r at *
  clear h64 hz
  have eY : ∀ s : Int, (-(ab b)) * s = -(ab b * s) := fun s => by rw [Int.neg_mul]
  by_cases sa : a < 0 <;> by_cases sb : b < 0
  · have xa : a = -(ab a) := by unfold ab; rw [if_pos sa]; omega
    have xb : b = -(ab b) := by unfold ab; rw [if_pos sb]; omega
    simp only [ephemerisref1_Div.e0, ephemerisref1_Div.e1, sa, sb, decide_true, bne_self_eq_false, Bool.false_eq_true, false_and, if_false, true_and, if_true]
    by_cases c2 : q > 9223372036854775807
    · rw [if_pos c2]
      unfold divs
      have : ab b = 1 := by
        by_cases h : 2 ≤ ab b
        · have := h6 h; omega
        · omega
      rw [if_neg c, if_pos (by omega)]
    · rw [if_neg c2, w64_id (by omega) (by omega), u64_def, w64_def]
      rw [uniq (q := q) (r := -r) (by rw [xb, eY]; omega) (by omega) (by omega) (fun h => by have := h7 (by omega); omega)]
      congr 2; omega
  · have xa : a = -(ab a) := by unfold ab; rw [if_pos sa]; omega
    have xb : b = ab b := by unfold ab; rw [if_neg sb]
    simp only [ephemerisref1_Div.e0, ephemerisref1_Div.e1, sa, sb, decide_true, decide_false, Bool.bne_false, Bool.false_eq_true, true_and, if_true, Bool.true_eq_false, false_and, if_false]
    by_cases c2 : r = 0
    · rw [if_neg (fun h => h c2), u64_def, w64_def, w64_id (by omega) (by omega)]
      rw [uniq (q := -q) (r := 0) (by rw [xb, Int.mul_neg]; omega) (by omega) (by omega) (by omega)]
      rw [c2]
      congr 1; omega
    · rw [if_pos c2, u64_id (n := q + 1) (by omega) (by omega), u64_id (n := ab b - r) (by omega) (by omega), u64_def, w64_def, w64_id (by omega) (by omega)]
      have : q ≤ 9223372036854775807 := by
        by_cases h : 2 ≤ ab b
        · have := h6 h; omega
        · have := h7 (by omega); omega
      have eb : b * q = ab b * q := by rw [← xb]
      rw [uniq (q := -(q + 1)) (r := ab b - r) (by rw [Int.mul_neg, Int.mul_add, Int.mul_one, eb]; omega) (by omega) (by omega) (by omega)]
      congr 1; omega
  · have xa : a = ab a := by unfold ab; rw [if_neg sa]
    have xb : b = -(ab b) := by unfold ab; rw [if_pos sb]; omega
    simp only [ephemerisref1_Div.e0, ephemerisref1_Div.e1, sa, sb, decide_true, decide_false, Bool.bne_true, Bool.not_false, Bool.false_eq_true, true_and, if_true, Bool.true_eq_false, false_and, if_false]
    by_cases c2 : r = 0
    · rw [if_neg (fun h => h c2), u64_def, w64_def, u64_def, w64_def]
      rw [uniq (q := -q) (r := 0) (by rw [xb, eY, Int.mul_neg]; omega) (by omega) (by omega) (by omega)]
      rw [c2]
      congr 1
      omega
    · rw [if_pos c2, u64_id (n := q + 1) (by omega) (by omega), u64_id (n := ab b - r) (by omega) (by omega), u64_def, w64_def, u64_def, w64_def]
      have eb := eY q
      rw [← xb] at eb
      rw [uniq (q := -(q + 1)) (r := -(ab b - r)) (by rw [Int.mul_neg, Int.mul_add, Int.mul_one, eb]; omega) (by omega) (by omega) (by omega)]
      congr 1
      · omega
      · congr 1; omega
  · have xa : a = ab a := by unfold ab; rw [if_neg sa]
    have xb : b = ab b := by unfold ab; rw [if_neg sb]
    simp only [ephemerisref1_Div.e0, ephemerisref1_Div.e1, sa, sb, decide_false, bne_self_eq_false, Bool.false_eq_true, false_and, if_false, true_and]
    rw [if_neg (by omega), w64_id (by omega) (by omega), w64_id (by omega) (by omega)]
    rw [uniq (q := q) (r := r) (by rw [xb]; omega) (by omega) (by omega) (by omega)]

theorem ephemerisref1_Floor_f {a b : Int} (k : Nat) (hk : 65 ≤ k) (ha : -9223372036854775808 ≤ a) (ha1 : a ≤ 9223372036854775807) (hb : 0 < b) (hb1 : b ≤ 9223372036854775807) : ephemerisref1_Floor.f k a b = some (a / b) := by
  unfold ephemerisref1_Floor.f
  rw [ephemerisref1_Div_f k hk ha ha1 (by omega) hb1, divs_pos hb]
  rfl

theorem ephemerisref1_Instant_f {t : Int} (k : Nat) (hk : 65 ≤ k) (h0 : -9223372036854775808 ≤ t) (h1 : t ≤ 9223372036854775807) : ephemerisref1_Instant.f k t = some (decide (-4000000 ≤ t / 86400000 ∧ t / 86400000 ≤ 4000000)) := by
  unfold ephemerisref1_Instant.f
  rw [ephemerisref1_Floor_f k hk h0 h1 (by omega) (by omega)]
  simp only [Option.bind_some]
  rw [ephemerisref1_Day_f]; rfl

theorem ephemerisref1_Name_l0 (s : ByteArray) (hs : s.size ≤ 12) : ∀ (d i k : Nat), i + d = s.size → d < k →
    ephemerisref1_Name.l0 k s (s.size : Int) (i : Int) = some (noWord s && letters (s.data.toList.drop i)) := by
  intro d
  induction d with
  | zero =>
    intro i k hi hk
    obtain ⟨k, rfl⟩ : ∃ m, k = m + 1 := ⟨k - 1, by omega⟩
    obtain rfl : i = s.size := by omega
    simp only [ephemerisref1_Name.l0]
    rw [if_neg (by omega), letters_end, Bool.and_true]
    unfold noWord
    by_cases c1 : s.toList = [121]
    · rw [if_pos c1]; simp [c1]
    rw [if_neg c1, bne_iff_ne.2 c1]
    by_cases c2 : s.toList = [97, 110, 100]
    · rw [if_pos c2]; simp [c2]
    rw [if_neg c2, bne_iff_ne.2 c2]
    by_cases c3 : s.toList = [111, 114]
    · rw [if_pos c3]; simp [c3]
    rw [if_neg c3, bne_iff_ne.2 c3]
    rfl
  | succ d ih =>
    intro i k hi hk
    obtain ⟨k, rfl⟩ : ∃ m, k = m + 1 := ⟨k - 1, by omega⟩
    simp only [ephemerisref1_Name.l0]
    rw [if_pos (by omega), if_pos (by omega), if_pos (by omega), letters_cons s i (by omega)]
    by_cases c1 : bt s i < 97
    · rw [if_pos c1, decide_eq_false (show ¬ 97 ≤ bt s i by omega)]; simp
    rw [if_neg c1, decide_eq_true (show 97 ≤ bt s i by omega)]
    by_cases c2 : bt s i > 122
    · rw [if_pos c2, decide_eq_false (show ¬ bt s i ≤ 122 by omega)]; simp
    rw [if_neg c2, decide_eq_true (show bt s i ≤ 122 by omega), w64_id (by omega) (by omega)]
    have := ih (i + 1) k (by omega) (by omega)
    rw [show ((i + 1 : Nat) : Int) = (i : Int) + 1 from by omega] at this
    rw [this]; simp
theorem ephemerisref1_Name_f (s : ByteArray) (k : Nat) (hk : 20 ≤ k) : ephemerisref1_Name.f k s = some (isName s) := by
  obtain ⟨k, rfl⟩ : ∃ m, k = m + 1 := ⟨k - 1, by omega⟩
  unfold ephemerisref1_Name.f isName
  by_cases h1 : s.toList = []
  · rw [if_pos h1, decide_eq_false (show ¬ 1 ≤ s.size by have := (toList_nil s).1 h1; omega)]
    simp [ephemerisref1_Name.j0]
  have h1' : ¬ s.size = 0 := fun h => h1 ((toList_nil s).2 h)
  rw [if_neg h1, decide_eq_true (show 1 ≤ s.size by omega)]
  simp only [ephemerisref1_Name.j0, decide_eq_true_eq]
  by_cases h2 : (s.size : Int) > 12
  · rw [if_pos h2, decide_eq_false (show ¬ s.size ≤ 12 by omega)]; rfl
  rw [if_neg h2, decide_eq_true (show s.size ≤ 12 by omega)]
  exact ephemerisref1_Name_l0 s (by omega) s.size 0 k (by omega) (by omega)

theorem ephemerisref1_Mod_f {a b : Int} (k : Nat) (hk : 65 ≤ k) (ha : -9223372036854775808 ≤ a) (ha1 : a ≤ 9223372036854775807) (hb : 0 < b) (hb1 : b ≤ 9223372036854775807) : ephemerisref1_Mod.f k a b = some (a % b) := by
  unfold ephemerisref1_Mod.f
  rw [ephemerisref1_Div_f k hk ha ha1 (by omega) hb1, divs_pos hb]
  rfl

theorem ephemerisref1_Offset_f (x : Int) (k : Nat) (hk : 65 ≤ k) : ephemerisref1_Offset.f k x = some (okOff x) := by
  unfold ephemerisref1_Offset.f okOff
  rw [ephemerisref1_In_f, Option.bind_some]
  by_cases h : -64800000 ≤ x ∧ x ≤ 64800000
  · rw [decide_eq_true h, if_pos rfl, ephemerisref1_Mod_f k hk (by omega) (by omega) (by omega) (by omega), Option.bind_some]
    congr 1
    by_cases c : x % 1000 = 0
    · rw [decide_eq_true ⟨h.1, h.2, c⟩, c]; rfl
    · rw [decide_eq_false (fun g => c g.2.2)]; simpa using c
  · rw [decide_eq_false h, if_neg (by decide), decide_eq_false (fun g => h ⟨g.1, g.2.1⟩)]

theorem ephemerisref1_Label_f (s : ByteArray) : ephemerisref1_Label.f s = some (isLabel s) := by
  unfold ephemerisref1_Label.f isLabel
  rw [ephemerisref1_In_f, Option.bind_some]
  by_cases h : 1 ≤ s.size ∧ s.size ≤ 6
  · rw [decide_eq_true (show (1 : Int) ≤ (s.size : Int) ∧ (s.size : Int) ≤ 6 by omega), if_pos rfl, decide_eq_true h]
    unfold strings_Trim.f
    rw [if_pos ⟨by omega, by decide, by decide⟩, Option.bind_some]
    congr 1
    rw [Bool.true_and, toList_data]
    show (Go.Lib.trimS s.data.toList abc == []) = caps s.data.toList
    by_cases c : caps s.data.toList = true
    · rw [c, (trim_caps _).2 c]; rfl
    · rw [Bool.not_eq_true] at c
      rw [c, beq_eq_false_iff_ne]
      intro e
      rw [(trim_caps _).1 e] at c
      cases c
  · rw [decide_eq_false (show ¬ ((1 : Int) ≤ (s.size : Int) ∧ (s.size : Int) ≤ 6) by omega), if_neg (by decide), decide_eq_false h]; rfl

/-- A change whose instant or offset is out of range. -/
def znBad (c : S43) : Bool := !(decide (-4000000 ≤ c.f0 / 86400000 ∧ c.f0 / 86400000 ≤ 4000000) && okOff c.f1)
/-- The first fault of the changes from the i-th on (d of them). -/
def znErr (l : List S43) : Nat → Nat → Int
  | 0, _ => 0
  | d + 1, i => if znBad (l.getD i z43) = true then 3 else if isLabel (l.getD i z43).f2 = true then (if 0 < i ∧ (l.getD i z43).f0 ≤ (l.getD (i - 1) z43).f0 then 9 else znErr l d (i + 1)) else 8
/-- What both checks of a zone tell. -/
def znAll (s : ByteArray) (o : Int) (l : List S43) : Int := if isName s = true then (if okOff o = true then (if l.length ≤ 200 then znErr l l.length 0 else 2) else 3) else 5
/-- The instants are numbers that an int holds. -/
def znWf (l : List S43) : Prop := ∀ c ∈ l, -9223372036854775808 ≤ c.f0 ∧ c.f0 ≤ 9223372036854775807
theorem znWf_get {l : List S43} (h : znWf l) {i : Nat} (hi : i < l.length) : -9223372036854775808 ≤ (l.getD i z43).f0 ∧ (l.getD i z43).f0 ≤ 9223372036854775807 := by
  rw [List.getD_eq_getElem?_getD, List.getElem?_eq_getElem hi]
  exact h _ (List.getElem_mem hi)
theorem zn_split (b x : Bool) {α : Type} (u : α) (e : Int) (y : Int) (v : Option Int) (p : Prop) [Decidable p] (h : v = some y) :
    (if b = true then some (3 : Int) else if x = true then (if p then some 9 else v) else some 8) = some (if b = true then 3 else if x = true then (if p then 9 else y) else 8) := by
  subst h
  split
  · rfl
  · split
    · split
      · rfl
      · rfl
    · rfl

theorem ephemerisref1_ZoneError_j1 (l : List S43) (s : ByteArray) (o : Int) (hl : l.length ≤ 200) (i : Nat) (hi : i < l.length) (k : Nat) (t : Bool) (y : Int) (hy : ephemerisref1_ZoneError.l0 k l (l.length : Int) ((i + 1 : Nat) : Int) s o l = some y) :
    ephemerisref1_ZoneError.j1 (k + 1) (i : Int) l (l.length : Int) (i : Int) t s o l (l.getD i z43).f0 (l.getD i z43).f1 (l.getD i z43).f2
      = some (if t = true then 3 else if isLabel (l.getD i z43).f2 = true then (if 0 < i ∧ (l.getD i z43).f0 ≤ (l.getD (i - 1) z43).f0 then 9 else y) else 8) := by
  simp only [ephemerisref1_ZoneError.j1]
  by_cases h : t = true
  · rw [if_pos h, if_pos h]
  rw [if_neg h, if_neg h, ephemerisref1_Label_f, Option.bind_some]
  by_cases h2 : isLabel (l.getD i z43).f2 = true
  · rw [if_pos h2, if_pos h2, w64_id (n := (i : Int) + 1) (by omega) (by omega), show ((i : Int) + 1) = ((i + 1 : Nat) : Int) from by omega, hy]
    by_cases h3 : 0 < i
    · rw [if_pos (by omega), w64_id (n := (i : Int) - 1) (by omega) (by omega), if_pos (by omega), if_pos (by omega)]
      rw [show rd_T43 l ((i : Int) - 1) = l.getD (i - 1) z43 from by unfold rd_T43; rw [show ((i : Int) - 1).toNat = i - 1 by omega]]
      by_cases h4 : (l.getD i z43).f0 ≤ (l.getD (i - 1) z43).f0
      · rw [if_pos (show _ ≥ _ from h4), if_pos ⟨h3, h4⟩]
      · rw [if_neg (show ¬ _ ≥ _ from h4), if_neg (fun g => h4 g.2)]
    · rw [if_neg (by omega), if_neg (fun g => h3 g.1)]
  · rw [if_neg h2, if_neg h2]
theorem ephemerisref1_ZoneError_l0 (l : List S43) (s : ByteArray) (o : Int) (hl : l.length ≤ 200) (hw : znWf l) : ∀ (d i k : Nat), i + d = l.length → 2 * d + 70 < k → ephemerisref1_ZoneError.l0 k l (l.length : Int) (i : Int) s o l = some (znErr l d i) := by
  intro d
  induction d with
  | zero =>
    intro i k hi hk
    obtain ⟨k, rfl⟩ : ∃ m, k = m + 1 := ⟨k - 1, by omega⟩
    simp only [ephemerisref1_ZoneError.l0]
    rw [if_neg (by omega)]; rfl
  | succ d ih =>
    intro i k hi hk
    obtain ⟨k, rfl⟩ : ∃ m, k = m + 2 := ⟨k - 2, by omega⟩
    rw [show k + 2 = (k + 1) + 1 from rfl]
    simp only [ephemerisref1_ZoneError.l0]
    rw [if_pos (by omega), if_pos (by omega), if_pos (by omega), show rd_T43 l (i : Int) = l.getD i z43 from rfl]
    have hg := znWf_get hw (i := i) (by omega)
    have hj := fun t => ephemerisref1_ZoneError_j1 l s o hl i (by omega) k t _ (ih (i + 1) k (by omega) (by omega))
    unfold znErr
    rw [ephemerisref1_Instant_f (k + 1) (by omega) hg.1 hg.2, Option.bind_some]
    by_cases c : -4000000 ≤ (l.getD i z43).f0 / 86400000 ∧ (l.getD i z43).f0 / 86400000 ≤ 4000000
    · rw [decide_eq_true c, if_pos rfl, ephemerisref1_Offset_f _ (k + 1) (by omega), Option.bind_some, hj]
      rw [show (!(okOff (l.getD i z43).f1)) = znBad (l.getD i z43) from by unfold znBad; rw [decide_eq_true c, Bool.true_and]]
    · rw [decide_eq_false c, if_neg (by decide), hj]
      rw [show (true : Bool) = znBad (l.getD i z43) from by unfold znBad; rw [decide_eq_false c]; rfl]
theorem ephemerisref1_ZoneError_f (s : ByteArray) (o : Int) (l : List S43) (hw : znWf l) (k : Nat) (hk : 600 ≤ k) : ephemerisref1_ZoneError.f k s o l = some (znAll s o l) := by
  unfold ephemerisref1_ZoneError.f znAll
  rw [ephemerisref1_Name_f _ k (by omega), Option.bind_some]
  by_cases h1 : isName s = true
  · rw [if_pos h1, if_pos h1, ephemerisref1_Offset_f _ k (by omega), Option.bind_some]
    by_cases h2 : okOff o = true
    · rw [if_pos h2, if_pos h2]
      by_cases h3 : l.length ≤ 200
      · rw [if_neg (by omega), if_pos h3]
        exact ephemerisref1_ZoneError_l0 l s o h3 hw l.length 0 k (by omega) (by omega)
      · rw [if_pos (by omega), if_neg h3]
    · rw [if_neg h2, if_neg h2]
  · rw [if_neg h1, if_neg h1]

theorem line_Check_f (x : Int) : line_Check.f x = some (if -4000000 ≤ x ∧ x ≤ 4000000 then 0 else 3) := by
  unfold line_Check.f
  by_cases h : x < -4000000
  · rw [if_pos h, if_neg (by omega)]
  · rw [if_neg h]
    by_cases h2 : x > 4000000
    · rw [if_pos h2, if_neg (by omega)]
    · rw [if_neg h2, if_pos (by omega)]

theorem whole_Div_f {a b : Int} (k : Nat) (hk : 1 ≤ k) (ha : -9223372036854775808 ≤ a) (ha1 : a ≤ 9223372036854775807) (hb : -9223372036854775808 ≤ b) (hb1 : b ≤ 9223372036854775807) : whole_Div.f k a b = some (divs a b) := by
  obtain ⟨k, rfl⟩ : ∃ m, k = m + 1 := ⟨k - 1, by omega⟩
  unfold whole_Div.f divs
  by_cases c : b = 0
  · rw [if_pos c, if_pos c]
  rw [if_neg c, if_neg c]
  by_cases d : a = -9223372036854775808 ∧ b = -1
  · rw [if_pos d.1, if_pos d, d.2]; simp [whole_Div.j0]
  have e : (if a = (-9223372036854775808) then (whole_Div.j0 (k + 1) a b (b == (-1))) else (whole_Div.j0 (k + 1) a b false)) = whole_Div.j0 (k + 1) a b false := by
    by_cases c1 : a = -9223372036854775808
    · rw [if_pos c1, show (b == -1) = false from beq_eq_false_iff_ne.2 (fun h => d ⟨c1, h⟩)]
    · rw [if_neg c1]
  rw [e, if_neg d]
  simp only [whole_Div.j0, Bool.false_eq_true, if_false]
  rw [if_neg c]
  obtain ⟨b1, b2⟩ := tdiv_bound a b c ha ha1 d
  obtain ⟨g1, g2, g3⟩ := fd_of_t a b c
  obtain ⟨t0, t1, t2, t3, t4⟩ := tdm a b c
  rw [w64_id b1 b2]
  by_cases hz : Int.tmod a b = 0
  · rw [if_pos hz, (g1 hz).1, (g1 hz).2, hz]
  · rw [if_neg hz]
    cases hs : (decide (Int.tmod a b < 0) != decide (b < 0)) with
    | true =>
      have hq : fd a b = Int.tdiv a b - 1 := (g2 hz hs).1
      have hfs := fd_spec a b c
      have hlow : -9223372036854775808 ≤ Int.tdiv a b - 1 := by
        by_cases hm : Int.tdiv a b = -9223372036854775808
        · exfalso
          have h9 : (Int.tdiv a b).natAbs = a.natAbs / b.natAbs := Int.natAbs_tdiv a b
          rw [hm] at h9
          have h10 : a.natAbs / b.natAbs ≤ a.natAbs := Nat.div_le_self _ _
          by_cases hb2 : b.natAbs = 1
          · have : b = 1 ∨ b = -1 := by omega
            rcases this with rfl | rfl
            · exact hz (by rw [Int.tmod_one])
            · exact hz (by rw [Int.tmod_neg, Int.tmod_one])
          · have : a.natAbs / b.natAbs ≤ a.natAbs / 2 := Nat.div_le_div_left (by omega) (by omega)
            omega
        · omega
      have hss : (Int.tmod a b < 0 ∧ 0 < b) ∨ (0 < Int.tmod a b ∧ b < 0) := by
        by_cases hx : Int.tmod a b < 0 <;> by_cases hy : b < 0 <;> simp [hx, hy] at hs
        · exact .inl ⟨hx, by omega⟩
        · exact .inr ⟨by omega, hy⟩
      simp only [if_true]
      rw [(g2 hz hs).1, (g2 hz hs).2, w64_id hlow (by omega), w64_id (n := Int.tmod a b + b) (by omega) (by omega)]
    | false =>
      simp only [Bool.false_eq_true, if_false]
      rw [(g3 hz hs).1, (g3 hz hs).2]

theorem line_Split_f {t : Int} (k : Nat) (hk : 1 ≤ k) (h0 : -9223372036854775808 ≤ t) (h1 : t ≤ 9223372036854775807) : line_Split.f k t = some (if -4000000 ≤ t / 86400000 ∧ t / 86400000 ≤ 4000000 then (t / 86400000, t % 86400000, 0) else (0, 0, 3)) := by
  unfold line_Split.f
  rw [whole_Div_f k hk h0 h1 (by omega) (by omega), divs_pos (by omega)]
  simp only [Option.bind_some]
  rw [line_Check_f]
  simp only [Option.bind_some]
  by_cases h : -4000000 ≤ t / 86400000 ∧ t / 86400000 ≤ 4000000
  · rw [if_pos h, if_pos h, if_pos rfl]
  · rw [if_neg h, if_neg h, if_neg (by omega)]

theorem rule_Name_f (s : ByteArray) : rule_Name.f s = some (isName s) := by
  have e : rule_Name.all s.data.toList = letters s.data.toList := rfl
  unfold rule_Name.f isName noWord
  rw [e]
  congr 1
  by_cases h1 : (s.size : Int) < 1
  · rw [if_pos h1, decide_eq_false (show ¬ 1 ≤ s.size by omega)]; rfl
  rw [if_neg h1, decide_eq_true (show 1 ≤ s.size by omega)]
  by_cases h2 : (s.size : Int) > 12
  · rw [if_pos h2, decide_eq_false (show ¬ s.size ≤ 12 by omega)]; rfl
  rw [if_neg h2, decide_eq_true (show s.size ≤ 12 by omega)]
  by_cases c1 : s.toList = [121]
  · rw [if_pos c1]; simp [c1]
  rw [if_neg c1, bne_iff_ne.2 c1]
  by_cases c2 : s.toList = [97, 110, 100]
  · rw [if_pos c2]; simp [c2]
  rw [if_neg c2, bne_iff_ne.2 c2]
  by_cases c3 : s.toList = [111, 114]
  · rw [if_pos c3]; simp [c3]
  rw [if_neg c3, bne_iff_ne.2 c3]
  by_cases c4 : s.toList = [110, 111, 116]
  · rw [if_pos c4]; simp [c4]
  rw [if_neg c4, bne_iff_ne.2 c4]
  rfl

theorem zone_IsOffset_f (x : Int) : zone_IsOffset.f x = some (okOff x) := by
  unfold zone_IsOffset.f okOff
  rw [tmod_thousand]
  by_cases h1 : x ≥ (-64800000)
  · rw [if_pos h1]
    by_cases h2 : x ≤ 64800000
    · rw [if_pos h2]; congr 1
      by_cases c : x % 1000 = 0
      · rw [decide_eq_true c, decide_eq_true ⟨by omega, h2, c⟩]
      · rw [decide_eq_false c, decide_eq_false (fun h => c h.2.2)]
    · rw [if_neg h2, decide_eq_false (fun h => h2 h.2.1)]
  · rw [if_neg h1, decide_eq_false (fun h => h1 (by omega))]

theorem zone_IsLabel_f (s : ByteArray) : zone_IsLabel.f s = some (isLabel s) := by
  have e : zone_IsLabel.all s.data.toList = caps s.data.toList := rfl
  unfold zone_IsLabel.f isLabel
  rw [e]
  congr 1
  by_cases h1 : (s.size : Int) < 1
  · rw [if_pos h1, decide_eq_false (show ¬ (1 ≤ s.size ∧ s.size ≤ 6) by omega)]; rfl
  rw [if_neg h1]
  by_cases h2 : (s.size : Int) > 6
  · rw [if_pos h2, decide_eq_false (show ¬ (1 ≤ s.size ∧ s.size ≤ 6) by omega)]; rfl
  rw [if_neg h2, decide_eq_true (show 1 ≤ s.size ∧ s.size ≤ 6 by omega)]
  rfl

theorem zone_Check_j1 (l : List S43) (s : ByteArray) (o : Int) (hl : l.length ≤ 200) (i : Nat) (hi : i < l.length) (k : Nat) (t : Bool) (y : Int) (hy : zone_Check.l0 k l (l.length : Int) ((i + 1 : Nat) : Int) s o l = some y) :
    zone_Check.j1 (k + 1) (i : Int) l (l.length : Int) (i : Int) t s o l (l.getD i z43).f0 (l.getD i z43).f1 (l.getD i z43).f2
      = some (if t = true then 3 else if isLabel (l.getD i z43).f2 = true then (if 0 < i ∧ (l.getD i z43).f0 ≤ (l.getD (i - 1) z43).f0 then 9 else y) else 8) := by
  simp only [zone_Check.j1]
  by_cases h : t = true
  · rw [if_pos h, if_pos h]
  rw [if_neg h, if_neg h, zone_IsLabel_f, Option.bind_some]
  by_cases h2 : isLabel (l.getD i z43).f2 = true
  · rw [if_pos h2, if_pos h2, w64_id (n := (i : Int) + 1) (by omega) (by omega), show ((i : Int) + 1) = ((i + 1 : Nat) : Int) from by omega, hy]
    by_cases h3 : 0 < i
    · rw [if_pos (by omega), w64_id (n := (i : Int) - 1) (by omega) (by omega), if_pos (by omega), if_pos (by omega)]
      rw [show rd_T43 l ((i : Int) - 1) = l.getD (i - 1) z43 from by unfold rd_T43; rw [show ((i : Int) - 1).toNat = i - 1 by omega]]
      by_cases h4 : (l.getD i z43).f0 ≤ (l.getD (i - 1) z43).f0
      · rw [if_pos h4, if_pos ⟨h3, h4⟩]
      · rw [if_neg h4, if_neg (fun g => h4 g.2)]
    · rw [if_neg (by omega), if_neg (fun g => h3 g.1)]
  · rw [if_neg h2, if_neg h2]
theorem zone_Check_l0 (l : List S43) (s : ByteArray) (o : Int) (hl : l.length ≤ 200) (hw : znWf l) : ∀ (d i k : Nat), i + d = l.length → 2 * d + 5 < k → zone_Check.l0 k l (l.length : Int) (i : Int) s o l = some (znErr l d i) := by
  intro d
  induction d with
  | zero =>
    intro i k hi hk
    obtain ⟨k, rfl⟩ : ∃ m, k = m + 1 := ⟨k - 1, by omega⟩
    simp only [zone_Check.l0]
    rw [if_neg (by omega)]; rfl
  | succ d ih =>
    intro i k hi hk
    obtain ⟨k, rfl⟩ : ∃ m, k = m + 2 := ⟨k - 2, by omega⟩
    rw [show k + 2 = (k + 1) + 1 from rfl]
    simp only [zone_Check.l0]
    rw [if_pos (by omega), if_pos (by omega), if_pos (by omega), show rd_T43 l (i : Int) = l.getD i z43 from rfl]
    have hg := znWf_get hw (i := i) (by omega)
    have hj := fun t => zone_Check_j1 l s o hl i (by omega) k t _ (ih (i + 1) k (by omega) (by omega))
    unfold znErr
    rw [line_Split_f (k + 1) (by omega) hg.1 hg.2, Option.bind_some]
    by_cases c : -4000000 ≤ (l.getD i z43).f0 / 86400000 ∧ (l.getD i z43).f0 / 86400000 ≤ 4000000
    · rw [if_pos c, if_pos rfl, zone_IsOffset_f, Option.bind_some, hj]
      rw [show (!(okOff (l.getD i z43).f1)) = znBad (l.getD i z43) from by unfold znBad; rw [decide_eq_true c, Bool.true_and]]
    · rw [if_neg c, if_neg (by decide), hj]
      rw [show true = znBad (l.getD i z43) from by unfold znBad; rw [decide_eq_false c]; rfl]
theorem zone_Check_f (s : ByteArray) (o : Int) (l : List S43) (hw : znWf l) (k : Nat) (hk : 600 ≤ k) : zone_Check.f k s o l = some (znAll s o l) := by
  unfold zone_Check.f znAll
  rw [rule_Name_f, Option.bind_some]
  by_cases h1 : isName s = true
  · rw [if_pos h1, if_pos h1, zone_IsOffset_f, Option.bind_some]
    by_cases h2 : okOff o = true
    · rw [if_pos h2, if_pos h2]
      by_cases h3 : l.length ≤ 200
      · rw [if_neg (by omega), if_pos h3]
        exact zone_Check_l0 l s o h3 hw l.length 0 k (by omega) (by omega)
      · rw [if_pos (by omega), if_neg h3]
    · rw [if_neg h2, if_neg h2]
  · rw [if_neg h1, if_neg h1]

/-- Where an instant stands among the changes. -/
def IsPos (l : List S43) (t : Int) (r : Nat) : Prop := r ≤ l.length ∧ (∀ j, j < r → (l.getD j z43).f0 ≤ t) ∧ ∀ j, r ≤ j → j < l.length → t < (l.getD j z43).f0
/-- The changes are of a valid zone. -/
def ZnOk (l : List S43) : Prop := l.length ≤ 200 ∧ ∀ j, j < l.length → znBad (l.getD j z43) = false ∧ isLabel (l.getD j z43).f2 = true ∧ (0 < j → (l.getD (j - 1) z43).f0 < (l.getD j z43).f0)
theorem znErr_ok (l : List S43) : ∀ (d i : Nat), i + d = l.length → znErr l d i = 0 → ∀ j, i ≤ j → j < l.length → znBad (l.getD j z43) = false ∧ isLabel (l.getD j z43).f2 = true ∧ (0 < j → (l.getD (j - 1) z43).f0 < (l.getD j z43).f0)
  | 0, i, hi, _, j, h1, h2 => absurd h2 (by omega)
  | d + 1, i, hi, h, j, h1, h2 => by
    unfold znErr at h
    by_cases c1 : znBad (l.getD i z43) = true
    · rw [if_pos c1] at h; cases h
    rw [if_neg c1] at h
    by_cases c2 : isLabel (l.getD i z43).f2 = true
    · rw [if_pos c2] at h
      by_cases c3 : 0 < i ∧ (l.getD i z43).f0 ≤ (l.getD (i - 1) z43).f0
      · rw [if_pos c3] at h; cases h
      rw [if_neg c3] at h
      by_cases e : j = i
      · subst e
        exact ⟨by simpa using c1, c2, fun g => by omega⟩
      · exact znErr_ok l d (i + 1) (by omega) h j (by omega) h2
    · rw [if_neg c2] at h; cases h
theorem znAll_ok {s : ByteArray} {o : Int} {l : List S43} (h : znAll s o l = 0) : isName s = true ∧ okOff o = true ∧ ZnOk l := by
  unfold znAll at h
  by_cases h1 : isName s = true
  · rw [if_pos h1] at h
    by_cases h2 : okOff o = true
    · rw [if_pos h2] at h
      by_cases h3 : l.length ≤ 200
      · rw [if_pos h3] at h
        exact ⟨h1, h2, h3, fun j hj => znErr_ok l l.length 0 (by omega) h j (by omega) hj⟩
      · rw [if_neg h3] at h; cases h
    · rw [if_neg h2] at h; cases h
  · rw [if_neg h1] at h; cases h
theorem okOff_le {x : Int} (h : okOff x = true) : -64800000 ≤ x ∧ x ≤ 64800000 := by
  unfold okOff at h
  have := of_decide_eq_true h
  exact ⟨this.1, this.2.1⟩
theorem zn_rise {l : List S43} (h : ZnOk l) : ∀ (d i : Nat), i + d < l.length → (l.getD i z43).f0 ≤ (l.getD (i + d) z43).f0
  | 0, i, _ => Int.le_refl _
  | d + 1, i, hi => by
    have h1 := zn_rise h d i (by omega)
    have h2 := (h.2 (i + (d + 1)) hi).2.2 (by omega)
    rw [show i + (d + 1) - 1 = i + d from by omega] at h2
    omega
theorem zn_off {l : List S43} (h : ZnOk l) {j : Nat} (hj : j < l.length) : (-4000000 ≤ (l.getD j z43).f0 / 86400000 ∧ (l.getD j z43).f0 / 86400000 ≤ 4000000) ∧ -64800000 ≤ (l.getD j z43).f1 ∧ (l.getD j z43).f1 ≤ 64800000 := by
  have := (h.2 j hj).1
  unfold znBad at this
  rw [Bool.not_eq_false', Bool.and_eq_true] at this
  exact ⟨of_decide_eq_true this.1, okOff_le this.2⟩
/-- What is in force at the r-th place. -/
def atPos (o : Int) (l : List S43) (r : Nat) : Int × ByteArray := if 0 < r then ((l.getD (r - 1) z43).f1, (l.getD (r - 1) z43).f2) else (o, ⟨#[]⟩)
theorem atPos_le {o : Int} {l : List S43} {r : Nat} (ho : okOff o = true) (h : ZnOk l) (hr : r ≤ l.length) : -64800000 ≤ (atPos o l r).1 ∧ (atPos o l r).1 ≤ 64800000 := by
  unfold atPos
  split
  · exact (zn_off h (by omega)).2
  · exact okOff_le ho
/-- The error of an instant in a zone. -/
def znBegin (s : ByteArray) (o : Int) (l : List S43) (t : Int) : Int := if znAll s o l = 0 then (if -4000000 ≤ t / 86400000 ∧ t / 86400000 ≤ 4000000 then 0 else 3) else znAll s o l
theorem base_wf : znWf [(⟨0, 7200000, (⟨#[83, 85, 77]⟩ : ByteArray)⟩ : S43)] := by
  intro c hc
  rw [List.mem_singleton] at hc
  subst hc
  decide

/-- Are two changes alike? -/
def eqZ (x c : S43) : Bool := (x.f0 == c.f0 && (x.f1 == c.f1 && (x.f2.toList == c.f2.toList)))
/-- Does the list contain a change like c? -/
def hasZ (l : List S43) (c : S43) : Bool := l.any fun x => eqZ x c
theorem eqZ_f0 {x c : S43} (h : eqZ x c = true) : x.f0 = c.f0 := by
  unfold eqZ at h
  rw [Bool.and_eq_true] at h
  exact beq_iff_eq.1 h.1
theorem eqZ_comm (x c : S43) : eqZ x c = eqZ c x := by
  unfold eqZ
  rw [Bool.beq_comm (a := x.f0), Bool.beq_comm (a := x.f1), Bool.beq_comm (a := x.f2.toList)]
theorem eqZ_ne {x c : S43} (h : x.f0 ≠ c.f0) : eqZ x c = false := by
  cases he : eqZ x c with
  | true => exact absurd (eqZ_f0 he) h
  | false => rfl
theorem hasZ_false {l : List S43} {c : S43} (h : ∀ x ∈ l, x.f0 ≠ c.f0) : hasZ l c = false := by
  unfold hasZ
  rw [List.any_eq_false]
  intro x hx
  rw [eqZ_ne (h x hx)]; decide
theorem hasZ_cons (x : S43) (l : List S43) (c : S43) : hasZ (x :: l) c = (eqZ x c || hasZ l c) := by unfold hasZ; rw [List.any_cons]
theorem hasZ_far {x : S43} (l : List S43) {c : S43} (h : x.f0 ≠ c.f0) : hasZ (x :: l) c = hasZ l c := by rw [hasZ_cons, eqZ_ne h, Bool.false_or]
/-- Where an edit stands: by its instant, what is dropped ahead of what is added. -/
def keyE (e : S56) : Int := 2 * e.f1.f0 + e.f0
theorem key_ext {α : Type} (key : α → Int) : ∀ (a b : List α), a.Pairwise (fun x y => key x < key y) → b.Pairwise (fun x y => key x < key y) → (∀ x, x ∈ a ↔ x ∈ b) → a = b
  | [], [], _, _, _ => rfl
  | [], y :: b, _, _, h => absurd ((h y).2 List.mem_cons_self) (by simp)
  | x :: a, [], _, _, h => absurd ((h x).1 List.mem_cons_self) (by simp)
  | x :: a, y :: b, ha, hb, h => by
    rw [List.pairwise_cons] at ha hb
    have e : x = y := by
      rcases List.mem_cons.1 ((h x).1 List.mem_cons_self) with g | g
      · exact g
      · rcases List.mem_cons.1 ((h y).2 List.mem_cons_self) with g' | g'
        · exact g'.symm
        · have h1 := hb.1 x g
          have h2 := ha.1 y g'
          omega
    subst e
    rw [key_ext key a b ha.2 hb.2 (fun z => ?_)]
    constructor
    · intro hz
      rcases List.mem_cons.1 ((h z).1 (List.mem_cons_of_mem _ hz)) with g | g
      · have := ha.1 z hz; rw [g] at this; omega
      · exact g
    · intro hz
      rcases List.mem_cons.1 ((h z).2 (List.mem_cons_of_mem _ hz)) with g | g
      · have := hb.1 z hz; rw [g] at this; omega
      · exact g
/-- Rising instants. -/
def srtZ (l : List S43) : Prop := l.Pairwise fun x y => x.f0 < y.f0
theorem srtZ_of {l : List S43} (h : ZnOk l) : srtZ l := by
  unfold srtZ
  rw [List.pairwise_iff_getElem]
  intro i j hi hj hij
  have h1 := zn_rise h (j - 1 - i) i (by omega)
  have h2 := (h.2 j hj).2.2 (by omega)
  rw [show i + (j - 1 - i) = j - 1 from by omega] at h1
  have e1 : l.getD i z43 = l[i] := by rw [List.getD_eq_getElem?_getD, List.getElem?_eq_getElem hi]; rfl
  have e2 : l.getD j z43 = l[j] := by rw [List.getD_eq_getElem?_getD, List.getElem?_eq_getElem hj]; rfl
  rw [e1] at h1
  rw [e2] at h2
  omega
theorem has_l0 (l : List S43) (c : S43) (hl : l.length ≤ 200) : ∀ (d i k : Nat), i + d = l.length → d < k → ephemerisref1_ZoneEdits_1.l0 k l (l.length : Int) (i : Int) c.f0 c.f1 c.f2 = some (hasZ (l.drop i) c) := by
  intro d
  induction d with
  | zero =>
    intro i k hi hk
    obtain ⟨k, rfl⟩ : ∃ q, k = q + 1 := ⟨k - 1, by omega⟩
    simp only [ephemerisref1_ZoneEdits_1.l0]
    rw [if_neg (by omega), List.drop_of_length_le (by omega)]; rfl
  | succ d ih =>
    intro i k hi hk
    obtain ⟨k, rfl⟩ : ∃ q, k = q + 1 := ⟨k - 1, by omega⟩
    have h1 : i < l.length := by omega
    have er : rd_T43 l (i : Int) = l[i] := by
      show l.getD i z43 = _
      rw [List.getD_eq_getElem?_getD, List.getElem?_eq_getElem h1]; rfl
    simp only [ephemerisref1_ZoneEdits_1.l0]
    rw [if_pos (by omega), if_pos (by omega), if_pos (by omega), er, List.drop_eq_getElem_cons h1, hasZ_cons, w64_id (by omega) (by omega)]
    have hih := ih (i + 1) k (by omega) (by omega)
    rw [show ((i + 1 : Nat) : Int) = (i : Int) + 1 from by omega] at hih
    rw [hih]
    show (if eqZ l[i] c = true then some true else some (hasZ (l.drop (i + 1)) c)) = _
    by_cases c1 : eqZ l[i] c = true
    · rw [if_pos c1, c1]; rfl
    · rw [if_neg c1]
      rw [Bool.not_eq_true] at c1
      rw [c1]; rfl
theorem has_f (l : List S43) (c : S43) (hl : l.length ≤ 200) (k : Nat) (hk : 300 ≤ k) : ephemerisref1_ZoneEdits_1.f k l c.f0 c.f1 c.f2 = some (hasZ l c) := by
  have := has_l0 l c hl l.length 0 k (by omega) (by omega)
  rw [List.drop_zero] at this
  exact this
/-- The list with e at place p. -/
theorem shift_set {α : Type} (out : List α) (z e : α) (p : Nat) (hp : p ≤ out.length) : (((out ++ [z]).take (p + 1) ++ ((out ++ [z]).drop p).take ((out ++ [z]).length - (p + 1))).set p e) = out.take p ++ e :: out.drop p := by
  have hl : (out ++ [z]).length = out.length + 1 := by simp
  have h1 : (out ++ [z]).take (p + 1) = out.take p ++ [(out ++ [z])[p]'(by omega)] := by
    rw [List.take_succ_eq_append_getElem (by omega), List.take_append_of_le_length hp]
  have h2 : ((out ++ [z]).drop p).take ((out ++ [z]).length - (p + 1)) = out.drop p := by
    rw [List.drop_append_of_le_length hp, hl, List.take_append_of_le_length (by rw [List.length_drop]; omega), List.take_of_length_le (by rw [List.length_drop]; omega)]
  rw [h1, h2, List.append_assoc, List.set_append_right _ _ (by rw [List.length_take]; omega), List.length_take, Nat.min_eq_left hp, Nat.sub_self]
  rfl
theorem rd_E (out : List S56) (i : Nat) (h : i < out.length) : rd_T56 out (i : Int) = out[i] := by
  show out.getD i z56 = _
  rw [List.getD_eq_getElem?_getD, List.getElem?_eq_getElem h]; rfl
theorem bounds_f (Y : List S56) (p : Nat) (h : p < Y.length) : runtime_boundsError_RuntimeError.f Y (p : Int) = some (Y.take (p + 1) ++ (Y.drop p).take (Y.length - (p + 1))) := by
  unfold runtime_boundsError_RuntimeError.f
  rw [if_pos ⟨by omega, by omega⟩]; rfl
/-- The place for an added change is found from behind; the change is laid there. -/
theorem edits_l2 (a b : List S43) (out : List S56) (i : Int) (c : S43) (s : Nat) (hs : s ≤ out.length) (hl : out.length ≤ 1000) (hlo : ∀ q (h : q < out.length), q < s → out[q].f1.f0 ≤ c.f0) (hhi : ∀ q (h : q < out.length), s ≤ q → c.f0 < out[q].f1.f0)
    (R : List S56) (K : Nat) (hR : ∀ k, K < k → ephemerisref1_ZoneEdits.l1 k a (out.take s ++ ⟨2, c⟩ :: out.drop s) b (b.length : Int) (wrap64 (i + 1)) = some R) : ∀ (d p k : Nat), p = s + d → p ≤ out.length → K + d + 1 < k →
    ephemerisref1_ZoneEdits.l2 k a out (p : Int) b (b.length : Int) i c.f0 c.f1 c.f2 = some R := by
  intro d
  induction d with
  | zero =>
    intro p k hp hpl hk
    obtain ⟨k, rfl⟩ : ∃ q, k = q + 1 := ⟨k - 1, by omega⟩
    obtain rfl : p = s := by omega
    have hin : (if out.length < 3518437208883 then ((runtime_boundsError_RuntimeError.f (out ++ [(⟨0, (⟨0, 0, (⟨#[]⟩ : ByteArray)⟩ : S43)⟩ : S56)]) (p : Int)).bind fun t228 => (if 0 ≤ (p : Int) then (if (p : Int) < (t228.length : Int) then (ephemerisref1_ZoneEdits.l1 k a (t228.set (p : Int).toNat (⟨2, (⟨c.f0, c.f1, c.f2⟩ : S43)⟩ : S56)) b (b.length : Int) (wrap64 (i + 1))) else (none)) else (none))) else (none)) = some R := by
      rw [if_pos (by omega), bounds_f _ _ (by rw [List.length_append, List.length_singleton]; omega), Option.bind_some, if_pos (by omega), if_pos (by simp only [List.length_append, List.length_take, List.length_drop, List.length_singleton]; omega), show (p : Int).toNat = p from rfl, shift_set _ _ _ _ hs]
      exact hR k (by omega)
    simp only [ephemerisref1_ZoneEdits.l2]
    by_cases h0 : p = 0
    · rw [if_neg (by omega)]; exact hin
    · rw [if_pos (by omega), w64_id (n := (p : Int) - 1) (by omega) (by omega), if_pos (by omega), if_pos (by omega), show (p : Int) - 1 = ((p - 1 : Nat) : Int) from by omega, rd_E out (p - 1) (by omega), if_neg (by have := hlo (p - 1) (by omega) (by omega); omega)]
      exact hin
  | succ d ih =>
    intro p k hp hpl hk
    obtain ⟨k, rfl⟩ : ∃ q, k = q + 1 := ⟨k - 1, by omega⟩
    simp only [ephemerisref1_ZoneEdits.l2]
    rw [if_pos (by omega), w64_id (n := (p : Int) - 1) (by omega) (by omega), if_pos (by omega), if_pos (by omega), show (p : Int) - 1 = ((p - 1 : Nat) : Int) from by omega, rd_E out (p - 1) (by omega), if_pos (by have := hhi (p - 1) (by omega) (by omega); omega)]
    exact ih (p - 1) k (by omega) (by omega) (by omega)
/-- Where a change belongs in a list of edits that stand in their order. -/
theorem place (out : List S56) (x : Int) (hp : out.Pairwise fun e f => e.f1.f0 ≤ f.f1.f0) : ∃ s, s ≤ out.length ∧ (∀ q (h : q < out.length), q < s → out[q].f1.f0 ≤ x) ∧ ∀ q (h : q < out.length), s ≤ q → x < out[q].f1.f0 := by
  induction out with
  | nil => exact ⟨0, Nat.le_refl _, fun q h => absurd h (by simp), fun q h => absurd h (by simp)⟩
  | cons e r ih =>
    rw [List.pairwise_cons] at hp
    by_cases c : e.f1.f0 ≤ x
    · obtain ⟨s, h1, h2, h3⟩ := ih hp.2
      refine ⟨s + 1, by simp; omega, fun q h hq => ?_, fun q h hq => ?_⟩
      · cases q with
        | zero => exact c
        | succ q => simpa using h2 q (by simpa using h) (by omega)
      · cases q with
        | zero => omega
        | succ q => simpa using h3 q (by simpa using h) (by omega)
    · refine ⟨0, by omega, fun q h hq => by omega, fun q h _ => ?_⟩
      cases q with
      | zero => simpa using c
      | succ q =>
        have := hp.1 _ (List.getElem_mem (l := r) (n := q) (by simpa using h))
        have e1 : (e :: r)[q + 1] = r[q]'(by simpa using h) := rfl
        rw [e1]; omega
theorem pw_le {out : List S56} (hp : out.Pairwise fun e f => keyE e < keyE f) (hk : ∀ e ∈ out, e.f0 = 1 ∨ e.f0 = 2) : out.Pairwise fun e f => e.f1.f0 ≤ f.f1.f0 := by
  refine List.Pairwise.imp_of_mem (fun {e f} he hf h => ?_) hp
  unfold keyE at h
  rcases hk e he with h1 | h1 <;> rcases hk f hf with h2 | h2 <;> omega
/-- An added change at its place. -/
theorem ins_ok {out : List S56} {c : S43} {s : Nat} (hs : s ≤ out.length) (hlo : ∀ q (h : q < out.length), q < s → out[q].f1.f0 ≤ c.f0) (hhi : ∀ q (h : q < out.length), s ≤ q → c.f0 < out[q].f1.f0) (hp : out.Pairwise fun e f => keyE e < keyE f)
    (hk : ∀ e ∈ out, e.f0 = 1 ∨ (e.f0 = 2 ∧ e.f1.f0 < c.f0)) : (out.take s ++ ⟨2, c⟩ :: out.drop s).Pairwise (fun e f => keyE e < keyE f) ∧ ∀ e, e ∈ out.take s ++ ⟨2, c⟩ :: out.drop s ↔ e ∈ out ∨ e = ⟨2, c⟩ := by
  have lo : ∀ e ∈ out.take s, keyE e < keyE ⟨2, c⟩ := by
    intro e he
    obtain ⟨q, hq, rfl⟩ := List.getElem_of_mem he
    rw [List.length_take] at hq
    rw [List.getElem_take]
    have h1 := hlo q (by omega) (by omega)
    have h2 := hk _ (List.getElem_mem (l := out) (n := q) (by omega))
    unfold keyE
    show 2 * out[q].f1.f0 + out[q].f0 < 2 * c.f0 + 2
    omega
  have hi : ∀ e ∈ out.drop s, keyE ⟨2, c⟩ < keyE e := by
    intro e he
    obtain ⟨q, hq, rfl⟩ := List.getElem_of_mem he
    rw [List.length_drop] at hq
    rw [List.getElem_drop]
    have h1 := hhi (s + q) (by omega) (by omega)
    have h2 := hk _ (List.getElem_mem (l := out) (n := s + q) (by omega))
    unfold keyE
    show 2 * c.f0 + 2 < 2 * out[s + q].f1.f0 + out[s + q].f0
    omega
  have hsp : out = out.take s ++ out.drop s := (List.take_append_drop s out).symm
  have hp2 := hp
  rw [hsp, List.pairwise_append] at hp2
  refine ⟨?_, fun e => ?_⟩
  · rw [List.pairwise_append, List.pairwise_cons]
    refine ⟨hp2.1, ⟨fun f hf => hi f hf, hp2.2.1⟩, fun e he f hf => ?_⟩
    rcases List.mem_cons.1 hf with g | g
    · subst g; exact lo e he
    · have h1 := lo e he; have h2 := hi f g; omega
  · constructor
    · intro h
      rcases List.mem_append.1 h with g | g
      · exact .inl (List.mem_of_mem_take g)
      · rcases List.mem_cons.1 g with g | g
        · exact .inr g
        · exact .inl (List.mem_of_mem_drop g)
    · rintro (h | h)
      · rw [hsp] at h
        rcases List.mem_append.1 h with g | g
        · exact List.mem_append_left _ g
        · exact List.mem_append_right _ (List.mem_cons_of_mem _ g)
      · subst h; exact List.mem_append_right _ List.mem_cons_self
theorem edits_l1 (a b : List S43) (ha : a.length ≤ 200) (hb : b.length ≤ 200) (hsb : srtZ b) : ∀ (d i : Nat) (out : List S56), i + d = b.length → out.length + d ≤ 500 → out.Pairwise (fun e f => keyE e < keyE f) → (∀ e ∈ out, e.f0 = 1 ∨ (e.f0 = 2 ∧ ∀ c ∈ b.drop i, e.f1.f0 < c.f0)) →
    ∃ R : List S56, (∀ k, 1000 * d + 1000 < k → ephemerisref1_ZoneEdits.l1 k a out b (b.length : Int) (i : Int) = some R) ∧ R.length ≤ 500 ∧ R.Pairwise (fun e f => keyE e < keyE f) ∧ ∀ e, e ∈ R ↔ e ∈ out ∨ ∃ c ∈ b.drop i, hasZ a c = false ∧ e = ⟨2, c⟩ := by
  intro d
  induction d with
  | zero =>
    intro i out hi hl hp hk
    refine ⟨out, fun k hk => ?_, by omega, hp, fun e => ?_⟩
    · obtain ⟨k, rfl⟩ : ∃ q, k = q + 1 := ⟨k - 1, by omega⟩
      simp only [ephemerisref1_ZoneEdits.l1]
      rw [if_neg (by omega)]
    · rw [List.drop_of_length_le (by omega)]
      simp
  | succ d ih =>
    intro i out hi hl hp hk
    have h1 : i < b.length := by omega
    have hdr := List.drop_eq_getElem_cons h1
    have hsd : (b[i] :: b.drop (i + 1)).Pairwise fun x y => x.f0 < y.f0 := by rw [← hdr]; exact List.Pairwise.sublist (List.drop_sublist _ _) hsb
    rw [List.pairwise_cons] at hsd
    obtain ⟨c, hc⟩ : ∃ c, c = b[i] := ⟨_, rfl⟩
    rw [← hc] at hdr hsd
    have er : rd_T43 b (i : Int) = c := by
      show b.getD i z43 = _
      rw [List.getD_eq_getElem?_getD, List.getElem?_eq_getElem h1, hc]; rfl
    cases hh : hasZ a c with
    | true =>
      obtain ⟨R, hR, hRl, hRp, hRm⟩ := ih (i + 1) out (by omega) (by omega) hp (fun e he => by
        rcases hk e he with g | ⟨g, g'⟩
        · exact .inl g
        · exact .inr ⟨g, fun x hx => g' x (by rw [hdr]; exact List.mem_cons_of_mem _ hx)⟩)
      refine ⟨R, fun k hk => ?_, hRl, hRp, fun e => ?_⟩
      · obtain ⟨k, rfl⟩ : ∃ q, k = q + 1 := ⟨k - 1, by omega⟩
        simp only [ephemerisref1_ZoneEdits.l1]
        rw [if_pos (by omega), if_pos (by omega), if_pos (by omega), er, has_f a c ha k (by omega), Option.bind_some, hh, if_pos rfl, w64_id (by omega) (by omega), show (i : Int) + 1 = ((i + 1 : Nat) : Int) from by omega]
        exact hR k (by omega)
      · rw [hRm e, hdr]
        constructor
        · rintro (g | ⟨x, hx, g⟩)
          · exact .inl g
          · exact .inr ⟨x, List.mem_cons_of_mem _ hx, g⟩
        · rintro (g | ⟨x, hx, g, g'⟩)
          · exact .inl g
          · rcases List.mem_cons.1 hx with hx | hx
            · subst hx; rw [hh] at g; cases g
            · exact .inr ⟨x, hx, g, g'⟩
    | false =>
      have hk1 : ∀ e ∈ out, e.f0 = 1 ∨ (e.f0 = 2 ∧ e.f1.f0 < c.f0) := fun e he => by
        rcases hk e he with g | ⟨g, g'⟩
        · exact .inl g
        · exact .inr ⟨g, g' c (by rw [hdr]; exact List.mem_cons_self)⟩
      obtain ⟨s, hs, hlo, hhi⟩ := place out c.f0 (pw_le hp (fun e he => by rcases hk e he with g | ⟨g, _⟩; exact .inl g; exact .inr g))
      obtain ⟨hp2, hm2⟩ := ins_ok hs hlo hhi hp hk1
      have hlen : (out.take s ++ (⟨2, c⟩ : S56) :: out.drop s).length = out.length + 1 := by rw [List.length_append, List.length_cons, List.length_take, List.length_drop]; omega
      obtain ⟨R, hR, hRl, hRp, hRm⟩ := ih (i + 1) (out.take s ++ ⟨2, c⟩ :: out.drop s) (by omega) (by rw [hlen]; omega) hp2 (fun e he => by
        rcases (hm2 e).1 he with g | g
        · rcases hk e g with g | ⟨g, g'⟩
          · exact .inl g
          · exact .inr ⟨g, fun x hx => g' x (by rw [hdr]; exact List.mem_cons_of_mem _ hx)⟩
        · subst g; exact .inr ⟨rfl, fun x hx => hsd.1 x hx⟩)
      refine ⟨R, fun k hk => ?_, hRl, hRp, fun e => ?_⟩
      · obtain ⟨k, rfl⟩ : ∃ q, k = q + 1 := ⟨k - 1, by omega⟩
        simp only [ephemerisref1_ZoneEdits.l1]
        rw [if_pos (by omega), if_pos (by omega), if_pos (by omega), er, has_f a c ha k (by omega), Option.bind_some, hh, if_neg (by decide)]
        refine edits_l2 a b out (i : Int) c s hs (by omega) hlo hhi R (1000 * d + 1000) (fun k hk => ?_) (out.length - s) out.length k (by omega) (Nat.le_refl _) (by omega)
        rw [w64_id (by omega) (by omega), show (i : Int) + 1 = ((i + 1 : Nat) : Int) from by omega]
        exact hR k hk
      · rw [hRm e, hdr, hm2 e]
        constructor
        · rintro ((g | g) | ⟨x, hx, g⟩)
          · exact .inl g
          · exact .inr ⟨c, List.mem_cons_self, hh, g⟩
          · exact .inr ⟨x, List.mem_cons_of_mem _ hx, g⟩
        · rintro (g | ⟨x, hx, g, g'⟩)
          · exact .inl (.inl g)
          · rcases List.mem_cons.1 hx with hx | hx
            · subst hx; exact .inl (.inr g')
            · exact .inr ⟨x, hx, g, g'⟩
theorem edits_l0 (a b : List S43) (ha : a.length ≤ 200) (hb : b.length ≤ 200) (hsa : srtZ a) (hsb : srtZ b) : ∀ (d i : Nat) (out : List S56), i + d = a.length → out.length + d ≤ 200 → out.Pairwise (fun e f => keyE e < keyE f) → (∀ e ∈ out, e.f0 = 1 ∧ ∀ c ∈ a.drop i, e.f1.f0 < c.f0) →
    ∃ R : List S56, (∀ k, d + 300000 < k → ephemerisref1_ZoneEdits.l0 k a b out a (a.length : Int) (i : Int) = some R) ∧ R.length ≤ 500 ∧ R.Pairwise (fun e f => keyE e < keyE f) ∧ ∀ e, e ∈ R ↔ (e ∈ out ∨ ∃ c ∈ a.drop i, hasZ b c = false ∧ e = ⟨1, c⟩) ∨ ∃ c ∈ b, hasZ a c = false ∧ e = ⟨2, c⟩ := by
  intro d
  induction d with
  | zero =>
    intro i out hi hl hp hk
    obtain ⟨R, hR, hRl, hRp, hRm⟩ := edits_l1 a b ha hb hsb b.length 0 out (by omega) (by omega) hp (fun e he => .inl (hk e he).1)
    refine ⟨R, fun k hk => ?_, hRl, hRp, fun e => ?_⟩
    · obtain ⟨k, rfl⟩ : ∃ q, k = q + 1 := ⟨k - 1, by omega⟩
      simp only [ephemerisref1_ZoneEdits.l0]
      rw [if_neg (by omega)]
      exact hR k (by omega)
    · rw [hRm e, List.drop_zero, List.drop_of_length_le (show a.length ≤ i by omega)]
      simp
  | succ d ih =>
    intro i out hi hl hp hk
    have h1 : i < a.length := by omega
    have hdr := List.drop_eq_getElem_cons h1
    have hsd : (a[i] :: a.drop (i + 1)).Pairwise fun x y => x.f0 < y.f0 := by rw [← hdr]; exact List.Pairwise.sublist (List.drop_sublist _ _) hsa
    rw [List.pairwise_cons] at hsd
    obtain ⟨c, hc⟩ : ∃ c, c = a[i] := ⟨_, rfl⟩
    rw [← hc] at hdr hsd
    have er : rd_T43 a (i : Int) = c := by
      show a.getD i z43 = _
      rw [List.getD_eq_getElem?_getD, List.getElem?_eq_getElem h1, hc]; rfl
    cases hh : hasZ b c with
    | true =>
      obtain ⟨R, hR, hRl, hRp, hRm⟩ := ih (i + 1) out (by omega) (by omega) hp (fun e he => ⟨(hk e he).1, fun x hx => (hk e he).2 x (by rw [hdr]; exact List.mem_cons_of_mem _ hx)⟩)
      refine ⟨R, fun k hk => ?_, hRl, hRp, fun e => ?_⟩
      · obtain ⟨k, rfl⟩ : ∃ q, k = q + 1 := ⟨k - 1, by omega⟩
        simp only [ephemerisref1_ZoneEdits.l0]
        rw [if_pos (by omega), if_pos (by omega), if_pos (by omega), er, has_f b c hb k (by omega), Option.bind_some, hh, if_pos rfl, w64_id (by omega) (by omega), show (i : Int) + 1 = ((i + 1 : Nat) : Int) from by omega]
        exact hR k (by omega)
      · rw [hRm e, hdr]
        constructor
        · rintro ((g | ⟨x, hx, g⟩) | g)
          · exact .inl (.inl g)
          · exact .inl (.inr ⟨x, List.mem_cons_of_mem _ hx, g⟩)
          · exact .inr g
        · rintro ((g | ⟨x, hx, g, g'⟩) | g)
          · exact .inl (.inl g)
          · rcases List.mem_cons.1 hx with hx | hx
            · subst hx; rw [hh] at g; cases g
            · exact .inl (.inr ⟨x, hx, g, g'⟩)
          · exact .inr g
    | false =>
      have hp2 : (out ++ [(⟨1, c⟩ : S56)]).Pairwise fun e f => keyE e < keyE f := by
        rw [List.pairwise_append]
        refine ⟨hp, List.pairwise_singleton _ _, fun e he f hf => ?_⟩
        rw [List.mem_singleton] at hf
        subst hf
        obtain ⟨g1, g2⟩ := hk e he
        have g3 := g2 c (by rw [hdr]; exact List.mem_cons_self)
        unfold keyE
        show 2 * e.f1.f0 + e.f0 < 2 * c.f0 + 1
        omega
      obtain ⟨R, hR, hRl, hRp, hRm⟩ := ih (i + 1) (out ++ [⟨1, c⟩]) (by omega) (by rw [List.length_append, List.length_singleton]; omega) hp2 (fun e he => by
        rcases List.mem_append.1 he with g | g
        · exact ⟨(hk e g).1, fun x hx => (hk e g).2 x (by rw [hdr]; exact List.mem_cons_of_mem _ hx)⟩
        · rw [List.mem_singleton] at g; subst g; exact ⟨rfl, fun x hx => hsd.1 x hx⟩)
      refine ⟨R, fun k hk => ?_, hRl, hRp, fun e => ?_⟩
      · obtain ⟨k, rfl⟩ : ∃ q, k = q + 1 := ⟨k - 1, by omega⟩
        simp only [ephemerisref1_ZoneEdits.l0]
        rw [if_pos (by omega), if_pos (by omega), if_pos (by omega), er, has_f b c hb k (by omega), Option.bind_some, hh, if_neg (by decide), if_pos (by omega), w64_id (by omega) (by omega), show (i : Int) + 1 = ((i + 1 : Nat) : Int) from by omega]
        exact hR k (by omega)
      · rw [hRm e, hdr]
        simp only [List.mem_append, List.mem_singleton]
        constructor
        · rintro (((g | g) | ⟨x, hx, g⟩) | g)
          · exact .inl (.inl g)
          · exact .inl (.inr ⟨c, List.mem_cons_self, hh, g⟩)
          · exact .inl (.inr ⟨x, List.mem_cons_of_mem _ hx, g⟩)
          · exact .inr g
        · rintro ((g | ⟨x, hx, g, g'⟩) | g)
          · exact .inl (.inl (.inl g))
          · rcases List.mem_cons.1 hx with hx | hx
            · subst hx; exact .inl (.inl (.inr g'))
            · exact .inl (.inr ⟨x, hx, g, g'⟩)
          · exact .inr g

theorem diff_drop (k : Nat) (acc : List S56) (x : S43) (a b : List S43) (hacc : acc.length < 10000) (hb : ∀ y, b.head? = some y → x.f0 < y.f0) : zonetext_Diff.l0 (k + 3) acc (x :: a) b = zonetext_Diff.l0 k (acc ++ [⟨1, x⟩]) a b := by
  have hn : ((x :: a).length : Int) > 0 := by rw [List.length_cons]; omega
  have hj : zonetext_Diff.j3 (k + 1) acc (x :: a) b true = zonetext_Diff.l0 k (acc ++ [⟨1, x⟩]) a b := by
    simp only [zonetext_Diff.j3, if_true]
    rw [if_pos (by omega), if_pos (by omega), if_pos (by omega)]; rfl
  rw [show k + 3 = (k + 2) + 1 from rfl]
  simp only [zonetext_Diff.l0]
  rw [if_pos hn, show k + 2 = (k + 1) + 1 from rfl]
  simp only [zonetext_Diff.j2, if_true]
  cases b with
  | nil => rw [if_pos (by rfl)]; exact hj
  | cons y b =>
    have hm : ((y :: b).length : Int) > 0 := by rw [List.length_cons]; omega
    rw [if_neg (by omega), if_pos hn, if_pos (by omega), if_pos (by omega), show rd_T43 (x :: a) 0 = x from rfl, show rd_T43 (y :: b) 0 = y from rfl, decide_eq_true (hb y rfl)]
    exact hj
theorem diff_j4 (k : Nat) (acc : List S56) (y : S43) (a b : List S43) (hacc : acc.length < 10000) : zonetext_Diff.j4 (k + 1) acc a (y :: b) true = zonetext_Diff.l0 k (acc ++ [⟨2, y⟩]) a b := by
  have hm : ((y :: b).length : Int) > 0 := by rw [List.length_cons]; omega
  simp only [zonetext_Diff.j4, if_true]
  rw [if_pos (by omega), if_pos (by omega), if_pos (by omega)]; rfl
theorem diff_add_nil (k : Nat) (acc : List S56) (y : S43) (b : List S43) (hacc : acc.length < 10000) : zonetext_Diff.l0 (k + 4) acc [] (y :: b) = zonetext_Diff.l0 k (acc ++ [⟨2, y⟩]) [] b := by
  have hm : ((y :: b).length : Int) > 0 := by rw [List.length_cons]; omega
  rw [show k + 4 = (k + 3) + 1 from rfl]
  simp only [zonetext_Diff.l0]
  rw [if_neg (by decide), decide_eq_true hm, show k + 3 = (k + 2) + 1 from rfl]
  simp only [zonetext_Diff.j2, if_true]
  rw [if_neg (by omega), if_neg (by decide), show k + 2 = (k + 1) + 1 from rfl]
  simp only [zonetext_Diff.j3, Bool.false_eq_true, if_false]
  rw [if_pos (by rfl)]
  exact diff_j4 k acc y [] b hacc
theorem diff_two (k : Nat) (acc : List S56) (x y : S43) (a b : List S43) (h : ¬ x.f0 < y.f0) : zonetext_Diff.l0 (k + 4) acc (x :: a) (y :: b) = zonetext_Diff.j4 (k + 1) acc (x :: a) (y :: b) (decide (y.f0 < x.f0)) := by
  have hn : ((x :: a).length : Int) > 0 := by rw [List.length_cons]; omega
  have hm : ((y :: b).length : Int) > 0 := by rw [List.length_cons]; omega
  rw [show k + 4 = (k + 3) + 1 from rfl]
  simp only [zonetext_Diff.l0]
  rw [if_pos hn, show k + 3 = (k + 2) + 1 from rfl]
  simp only [zonetext_Diff.j2, if_true]
  rw [if_neg (by omega), if_pos hn, if_pos (by omega), if_pos (by omega), show rd_T43 (x :: a) 0 = x from rfl, show rd_T43 (y :: b) 0 = y from rfl, decide_eq_false h, show k + 2 = (k + 1) + 1 from rfl]
  simp only [zonetext_Diff.j3, Bool.false_eq_true, if_false]
  rw [if_neg (by omega), if_pos (by omega), if_pos (by omega)]; rfl
theorem diff_same (k : Nat) (acc : List S56) (x y : S43) (a b : List S43) (hacc : acc.length < 10000) : zonetext_Diff.j4 (k + 1) acc (x :: a) (y :: b) false = if eqZ x y = true then zonetext_Diff.l0 k acc a b else zonetext_Diff.l0 k (acc ++ [⟨1, x⟩, ⟨2, y⟩]) a b := by
  have hn : ((x :: a).length : Int) > 0 := by rw [List.length_cons]; omega
  have hm : ((y :: b).length : Int) > 0 := by rw [List.length_cons]; omega
  simp only [zonetext_Diff.j4, Bool.false_eq_true, if_false]
  rw [if_pos (by omega), if_pos (by omega), show rd_T43 (x :: a) 0 = x from rfl, show rd_T43 (y :: b) 0 = y from rfl]
  have e : (!(x.f0 == y.f0) || (!(x.f1 == y.f1) || (!(x.f2.toList == y.f2.toList)))) = !(eqZ x y) := by unfold eqZ; rw [Bool.not_and, Bool.not_and]
  rw [e]
  by_cases c : eqZ x y = true
  · rw [if_pos c, c, if_neg (by decide), if_pos (by omega), if_pos (by omega)]; rfl
  · rw [if_neg c]
    rw [Bool.not_eq_true] at c
    rw [c, if_pos (show (!false) = true from rfl), Option.bind_some, if_pos (by simp only [List.length_cons, List.length_nil]; omega), if_pos (by omega), if_pos (by omega)]; rfl
theorem pw_cons {e0 : S56} {D : List S56} (hD : D.Pairwise fun e f => keyE e < keyE f) (h : ∀ e ∈ D, keyE e0 < keyE e) : (e0 :: D).Pairwise fun e f => keyE e < keyE f := List.pairwise_cons.2 ⟨h, hD⟩
/-- What the edits from a to b are. -/
def isDiff (a b : List S43) (e : S56) : Prop := (∃ c ∈ a, hasZ b c = false ∧ e = ⟨1, c⟩) ∨ ∃ c ∈ b, hasZ a c = false ∧ e = ⟨2, c⟩
theorem isDiff_key {a b : List S43} {e : S56} {t : Int} (ha : ∀ c ∈ a, t < c.f0) (hb : ∀ c ∈ b, t < c.f0) (h : isDiff a b e) : 2 * t + 2 < keyE e := by
  unfold keyE
  rcases h with ⟨c, hc, _, rfl⟩ | ⟨c, hc, _, rfl⟩
  · have := ha c hc
    show 2 * t + 2 < 2 * c.f0 + 1; omega
  · have := hb c hc
    show 2 * t + 2 < 2 * c.f0 + 2; omega
theorem diff_l0 : ∀ (n : Nat) (a b : List S43), a.length + b.length = n → srtZ a → srtZ b → ∃ D : List S56, (∀ k (acc : List S56), acc.length + 2 * n < 5000 → 4 * n + 10 < k → zonetext_Diff.l0 k acc a b = some (acc ++ D, 0)) ∧ D.length ≤ n ∧ D.Pairwise (fun e f => keyE e < keyE f) ∧ ∀ e, e ∈ D ↔ isDiff a b e := by
  intro n
  induction n using Nat.strongRecOn with
  | ind n ih =>
    intro a b hn ha hb
    unfold srtZ at ha hb
    cases a with
    | nil =>
      cases b with
      | nil =>
        refine ⟨[], fun k acc _ hk => ?_, by simp, List.Pairwise.nil, fun e => ?_⟩
        · obtain ⟨k, rfl⟩ : ∃ q, k = q + 2 := ⟨k - 2, by omega⟩
          rw [show k + 2 = (k + 1) + 1 from rfl]
          simp only [zonetext_Diff.l0]
          rw [if_neg (by decide), decide_eq_false (by decide)]
          simp only [zonetext_Diff.j2, Bool.false_eq_true, if_false]
          rw [List.append_nil]
        · unfold isDiff; simp
      | cons y b =>
        rw [List.pairwise_cons] at hb
        simp only [List.length_nil, List.length_cons] at hn
        obtain ⟨D, h1, h2, h3, h4⟩ := ih (n - 1) (by omega) [] b (by simp only [List.length_nil]; omega) ha hb.2
        refine ⟨⟨2, y⟩ :: D, fun k acc hacc hk => ?_, by rw [List.length_cons]; omega, pw_cons h3 (fun e he => ?_), fun e => ?_⟩
        · obtain ⟨k, rfl⟩ : ∃ q, k = q + 4 := ⟨k - 4, by omega⟩
          rw [diff_add_nil k acc y b (by omega), h1 k _ (by rw [List.length_append, List.length_singleton]; omega) (by omega), List.append_assoc]; rfl
        · have := isDiff_key (t := y.f0) (fun c hc => by cases hc) (fun c hc => hb.1 c hc) ((h4 e).1 he)
          exact this
        · rw [List.mem_cons, h4 e]
          unfold isDiff
          simp only [List.not_mem_nil, false_and, exists_false, false_or, List.mem_cons]
          constructor
          · rintro (g | ⟨c, hc, g⟩)
            · exact ⟨y, .inl rfl, rfl, g⟩
            · exact ⟨c, .inr hc, g⟩
          · rintro ⟨c, hc | hc, g, g'⟩
            · subst hc; exact .inl g'
            · exact .inr ⟨c, hc, g, g'⟩
    | cons x a =>
      rw [List.pairwise_cons] at ha
      simp only [List.length_cons] at hn
      by_cases hx : ∀ y, b.head? = some y → x.f0 < y.f0
      · -- x is dropped
        have hbx : ∀ c ∈ b, x.f0 < c.f0 := by
          intro c hc
          cases b with
          | nil => cases hc
          | cons y b =>
            rw [List.pairwise_cons] at hb
            have h0 := hx y rfl
            rcases List.mem_cons.1 hc with g | g
            · subst g; exact h0
            · have := hb.1 c g; omega
        obtain ⟨D, h1, h2, h3, h4⟩ := ih (n - 1) (by omega) a b (by omega) ha.2 hb
        have hx0 : hasZ b x = false := hasZ_false (fun c hc => by have := hbx c hc; omega)
        refine ⟨⟨1, x⟩ :: D, fun k acc hacc hk => ?_, by rw [List.length_cons]; omega, pw_cons h3 (fun e he => ?_), fun e => ?_⟩
        · obtain ⟨k, rfl⟩ : ∃ q, k = q + 3 := ⟨k - 3, by omega⟩
          rw [diff_drop k acc x a b (by omega) hx, h1 k _ (by rw [List.length_append, List.length_singleton]; omega) (by omega), List.append_assoc]; rfl
        · have := isDiff_key (t := x.f0) (fun c hc => ha.1 c hc) hbx ((h4 e).1 he)
          unfold keyE at this ⊢
          show 2 * x.f0 + 1 < 2 * e.f1.f0 + e.f0
          omega
        · rw [List.mem_cons, h4 e]
          unfold isDiff
          constructor
          · rintro (g | ⟨c, hc, g⟩ | ⟨c, hc, g, g'⟩)
            · exact .inl ⟨x, List.mem_cons_self, hx0, g⟩
            · exact .inl ⟨c, List.mem_cons_of_mem _ hc, g⟩
            · exact .inr ⟨c, hc, by rw [hasZ_far a (by have := hbx c hc; omega)]; exact g, g'⟩
          · rintro (⟨c, hc, g, g'⟩ | ⟨c, hc, g, g'⟩)
            · rcases List.mem_cons.1 hc with hc | hc
              · subst hc; exact .inl g'
              · exact .inr (.inl ⟨c, hc, g, g'⟩)
            · rw [hasZ_far a (by have := hbx c hc; omega)] at g
              exact .inr (.inr ⟨c, hc, g, g'⟩)
      · cases b with
        | nil => exact absurd (fun y h => by cases h) hx
        | cons y b =>
          have hy : ¬ x.f0 < y.f0 := fun h => hx (fun z hz => by rw [List.head?_cons] at hz; rw [← Option.some.inj hz]; exact h)
          rw [List.pairwise_cons] at hb
          simp only [List.length_cons] at hn
          by_cases hyx : y.f0 < x.f0
          · -- y is added
            have hax : ∀ c ∈ x :: a, y.f0 < c.f0 := by
              intro c hc
              rcases List.mem_cons.1 hc with g | g
              · subst g; exact hyx
              · have := ha.1 c g; omega
            obtain ⟨D, h1, h2, h3, h4⟩ := ih (n - 1) (by omega) (x :: a) b (by rw [List.length_cons]; omega) (List.pairwise_cons.2 ha) hb.2
            have hy0 : hasZ (x :: a) y = false := hasZ_false (fun c hc => by have := hax c hc; omega)
            refine ⟨⟨2, y⟩ :: D, fun k acc hacc hk => ?_, by rw [List.length_cons]; omega, pw_cons h3 (fun e he => ?_), fun e => ?_⟩
            · obtain ⟨k, rfl⟩ : ∃ q, k = q + 4 := ⟨k - 4, by omega⟩
              rw [diff_two k acc x y a b hy, decide_eq_true hyx, diff_j4 k acc y (x :: a) b (by omega), h1 k _ (by rw [List.length_append, List.length_singleton]; omega) (by omega), List.append_assoc]; rfl
            · exact isDiff_key (t := y.f0) hax (fun c hc => hb.1 c hc) ((h4 e).1 he)
            · rw [List.mem_cons, h4 e]
              unfold isDiff
              constructor
              · rintro (g | ⟨c, hc, g, g'⟩ | ⟨c, hc, g⟩)
                · exact .inr ⟨y, List.mem_cons_self, hy0, g⟩
                · exact .inl ⟨c, hc, by rw [hasZ_far b (by have := hax c hc; omega)]; exact g, g'⟩
                · exact .inr ⟨c, List.mem_cons_of_mem _ hc, g⟩
              · rintro (⟨c, hc, g, g'⟩ | ⟨c, hc, g, g'⟩)
                · rw [hasZ_far b (by have := hax c hc; omega)] at g
                  exact .inr (.inl ⟨c, hc, g, g'⟩)
                · rcases List.mem_cons.1 hc with hc | hc
                  · subst hc; exact .inl g'
                  · exact .inr (.inr ⟨c, hc, g, g'⟩)
          · -- both stand at one instant
            have hxy : x.f0 = y.f0 := by omega
            obtain ⟨D, h1, h2, h3, h4⟩ := ih (n - 2) (by omega) a b (by omega) ha.2 hb.2
            have hxb : hasZ (y :: b) x = eqZ x y := by
              rw [hasZ_cons, eqZ_comm y x, hasZ_false (l := b) (fun c hc => by have := hb.1 c hc; omega), Bool.or_false]
            have hya : hasZ (x :: a) y = eqZ x y := by
              rw [hasZ_cons, hasZ_false (l := a) (fun c hc => by have := ha.1 c hc; omega), Bool.or_false]
            have hcb : ∀ c ∈ a, hasZ (y :: b) c = hasZ b c := fun c hc => hasZ_far b (by have := ha.1 c hc; omega)
            have hca : ∀ c ∈ b, hasZ (x :: a) c = hasZ a c := fun c hc => hasZ_far a (by have := hb.1 c hc; omega)
            have hkey : ∀ e ∈ D, 2 * x.f0 + 2 < keyE e := fun e he => isDiff_key (t := x.f0) (fun c hc => ha.1 c hc) (fun c hc => by have := hb.1 c hc; omega) ((h4 e).1 he)
            cases hq : eqZ x y with
            | true =>
              refine ⟨D, fun k acc hacc hk => ?_, by omega, h3, fun e => ?_⟩
              · obtain ⟨k, rfl⟩ : ∃ q, k = q + 4 := ⟨k - 4, by omega⟩
                rw [diff_two k acc x y a b hy, decide_eq_false hyx, diff_same k acc x y a b (by omega), if_pos hq]
                exact h1 k acc (by omega) (by omega)
              · rw [h4 e]
                unfold isDiff
                constructor
                · rintro (⟨c, hc, g, g'⟩ | ⟨c, hc, g, g'⟩)
                  · exact .inl ⟨c, List.mem_cons_of_mem _ hc, by rw [hcb c hc]; exact g, g'⟩
                  · exact .inr ⟨c, List.mem_cons_of_mem _ hc, by rw [hca c hc]; exact g, g'⟩
                · rintro (⟨c, hc, g, g'⟩ | ⟨c, hc, g, g'⟩)
                  · rcases List.mem_cons.1 hc with hc | hc
                    · subst hc; rw [hxb, hq] at g; cases g
                    · rw [hcb c hc] at g; exact .inl ⟨c, hc, g, g'⟩
                  · rcases List.mem_cons.1 hc with hc | hc
                    · subst hc; rw [hya, hq] at g; cases g
                    · rw [hca c hc] at g; exact .inr ⟨c, hc, g, g'⟩
            | false =>
              refine ⟨⟨1, x⟩ :: ⟨2, y⟩ :: D, fun k acc hacc hk => ?_, by rw [List.length_cons, List.length_cons]; omega, pw_cons (pw_cons h3 (fun e he => ?_)) (fun e he => ?_), fun e => ?_⟩
              · obtain ⟨k, rfl⟩ : ∃ q, k = q + 4 := ⟨k - 4, by omega⟩
                rw [diff_two k acc x y a b hy, decide_eq_false hyx, diff_same k acc x y a b (by omega), if_neg (by rw [hq]; decide), h1 k _ (by simp only [List.length_append, List.length_cons, List.length_nil]; omega) (by omega), List.append_assoc]; rfl
              · have := hkey e he
                unfold keyE at this ⊢
                show 2 * y.f0 + 2 < 2 * e.f1.f0 + e.f0
                omega
              · rcases List.mem_cons.1 he with g | g
                · subst g
                  unfold keyE
                  show 2 * x.f0 + 1 < 2 * y.f0 + 2
                  omega
                · have := hkey e g
                  unfold keyE at this ⊢
                  show 2 * x.f0 + 1 < 2 * e.f1.f0 + e.f0
                  omega
              · rw [List.mem_cons, List.mem_cons, h4 e]
                unfold isDiff
                constructor
                · rintro (g | g | ⟨c, hc, g, g'⟩ | ⟨c, hc, g, g'⟩)
                  · exact .inl ⟨x, List.mem_cons_self, by rw [hxb, hq], g⟩
                  · exact .inr ⟨y, List.mem_cons_self, by rw [hya, hq], g⟩
                  · exact .inl ⟨c, List.mem_cons_of_mem _ hc, by rw [hcb c hc]; exact g, g'⟩
                  · exact .inr ⟨c, List.mem_cons_of_mem _ hc, by rw [hca c hc]; exact g, g'⟩
                · rintro (⟨c, hc, g, g'⟩ | ⟨c, hc, g, g'⟩)
                  · rcases List.mem_cons.1 hc with hc | hc
                    · subst hc; exact .inl g'
                    · rw [hcb c hc] at g; exact .inr (.inr (.inl ⟨c, hc, g, g'⟩))
                  · rcases List.mem_cons.1 hc with hc | hc
                    · subst hc; exact .inr (.inl g')
                    · rw [hca c hc] at g; exact .inr (.inr (.inr ⟨c, hc, g, g'⟩))
/-- Both lists of edits are one. -/
theorem edits_one (a b : List S43) (ha : ZnOk a) (hb : ZnOk b) : ∃ D : List S56, D.length ≤ 500 ∧ (∀ k, 2000 ≤ k → zonetext_Diff.l0 k [] a b = some (D, 0)) ∧ ∀ k, 400000 ≤ k → ephemerisref1_ZoneEdits.f k a b = some D := by
  have sa := srtZ_of ha
  have sb := srtZ_of hb
  have la := ha.1
  have lb := hb.1
  obtain ⟨D, h1, h2, h3, h4⟩ := diff_l0 (a.length + b.length) a b rfl sa sb
  obtain ⟨R, g1, g2, g3, g4⟩ := edits_l0 a b la lb sa sb a.length 0 [] (by omega) (by simp; omega) List.Pairwise.nil (fun e he => by cases he)
  have e : R = D := key_ext keyE R D g3 h3 (fun x => by
    rw [g4 x, h4 x, List.drop_zero]
    unfold isDiff
    simp)
  subst e
  refine ⟨R, g2, fun k hk => ?_, fun k hk => ?_⟩
  · have := h1 k [] (by simp; omega) (by omega)
    rw [List.nil_append] at this
    exact this
  · unfold ephemerisref1_ZoneEdits.f
    exact g1 k (by omega)

/-- The error of two zones that are compared. -/
def zdErr (s : ByteArray) (o : Int) (a : List S43) (s2 : ByteArray) (o2 : Int) (b : List S43) : Int := if znAll s o a = 0 then (if znAll s2 o2 b = 0 then (if s.toList = s2.toList ∧ o = o2 then 0 else 8) else znAll s2 o2 b) else znAll s o a
theorem zdErr_ok {s : ByteArray} {o : Int} {a : List S43} {s2 : ByteArray} {o2 : Int} {b : List S43} (h : zdErr s o a s2 o2 b = 0) : znAll s o a = 0 ∧ znAll s2 o2 b = 0 ∧ s.toList = s2.toList ∧ o = o2 := by
  unfold zdErr at h
  by_cases h1 : znAll s o a = 0
  · rw [if_pos h1] at h
    by_cases h2 : znAll s2 o2 b = 0
    · rw [if_pos h2] at h
      by_cases h3 : s.toList = s2.toList ∧ o = o2
      · exact ⟨h1, h2, h3⟩
      · rw [if_neg h3] at h; cases h
    · rw [if_neg h2] at h; exact absurd h h2
  · rw [if_neg h1] at h; exact absurd h h1
theorem diff_f (s : ByteArray) (o : Int) (a : List S43) (s2 : ByteArray) (o2 : Int) (b : List S43) (ha : znWf a) (hb : znWf b) (k : Nat) (hk : 600 ≤ k) : zonetext_Diff.f (k + 1) s o a s2 o2 b = if zdErr s o a s2 o2 b = 0 then zonetext_Diff.l0 k [] a b else some ([], zdErr s o a s2 o2 b) := by
  unfold zonetext_Diff.f zdErr
  rw [zone_Check_f s o a ha (k + 1) (by omega), Option.bind_some]
  by_cases h1 : znAll s o a = 0
  · rw [if_pos h1, if_pos h1, zone_Check_f s2 o2 b hb (k + 1) (by omega), Option.bind_some]
    by_cases h2 : znAll s2 o2 b = 0
    · rw [if_pos h2, if_pos h2]
      by_cases h3 : s.toList = s2.toList
      · rw [if_pos h3]
        by_cases h4 : o = o2
        · rw [show (if s.toList = s2.toList ∧ o = o2 then (0 : Int) else 8) = 0 from if_pos ⟨h3, h4⟩, if_pos rfl]
          simp only [zonetext_Diff.j0]
          rw [if_neg (by simp [h4])]
        · rw [show (if s.toList = s2.toList ∧ o = o2 then (0 : Int) else 8) = 8 from if_neg (fun g => h4 g.2), if_neg (show ¬ (8 : Int) = 0 by decide)]
          simp only [zonetext_Diff.j0]
          rw [if_pos (by simpa using h4)]
      · rw [if_neg h3, show (if s.toList = s2.toList ∧ o = o2 then (0 : Int) else 8) = 8 from if_neg (fun g => h3 g.1), if_neg (show ¬ (8 : Int) = 0 by decide)]
        simp only [zonetext_Diff.j0, if_true]
    · rw [if_neg h2, if_neg h2, if_neg h2]
  · rw [if_neg h1, if_neg h1, if_neg h1]
theorem zdiffs_l0 (D : List S56) (hD : D.length ≤ 1000) : ∀ (d i k : Nat), i + d = D.length → d < k → ephemerislaw1_ZonetextDiffs.l0 k D D (D.length : Int) (i : Int) = some true := by
  intro d
  induction d with
  | zero =>
    intro i k hi hk
    obtain ⟨k, rfl⟩ : ∃ q, k = q + 1 := ⟨k - 1, by omega⟩
    simp only [ephemerislaw1_ZonetextDiffs.l0]
    rw [if_neg (by omega)]
  | succ d ih =>
    intro i k hi hk
    obtain ⟨k, rfl⟩ : ∃ q, k = q + 1 := ⟨k - 1, by omega⟩
    simp only [ephemerislaw1_ZonetextDiffs.l0]
    rw [if_pos (by omega), if_pos (by omega), if_pos (by omega), if_pos (by omega), if_neg (by simp), w64_id (by omega) (by omega)]
    exact ih (i + 1) k (by omega) (by omega)
theorem zdiffs_j3 (k : Nat) (X : List S56) (x8 e : Int) (he : e ≠ 0) (h8 : x8 = e) (hX : X = []) (s : ByteArray) (o : Int) (a : List S43) (s2 : ByteArray) (o2 : Int) (b : List S43) : ephemerislaw1_ZonetextDiffs.j3 (k + 1) X x8 e s o a s2 o2 b = some true := by
  subst hX
  simp only [ephemerislaw1_ZonetextDiffs.j3]
  rw [if_neg he, if_pos (by rfl), h8]; simp
theorem ZonetextDiffs : ephemerislaw1_ZonetextDiffs.Pure := by
  intro s o a s2 o2 b hs ho ha0 hs2 ho2 hb0
  have ha : znWf a := fun c hc => wf_i64 (ha0.2.2 c hc).1
  have hb : znWf b := fun c hc => wf_i64 (hb0.2.2 c hc).1
  obtain ⟨K, hK⟩ : ∃ K : Nat, 500000 ≤ K := ⟨_, Nat.le_refl _⟩
  refine ⟨K, ?_⟩
  unfold ephemerislaw1_ZonetextDiffs.f ephemerislaw1_base.f
  rw [Option.bind_some]
  simp only
  have hz0 : zdErr ⟨#[98, 97, 115, 101]⟩ 3600000 [(⟨0, 7200000, (⟨#[83, 85, 77]⟩ : ByteArray)⟩ : S43)] ⟨#[98, 97, 115, 101]⟩ 3600000 [] = 0 := by
    have h1 : znAll ⟨#[98, 97, 115, 101]⟩ 3600000 [(⟨0, 7200000, (⟨#[83, 85, 77]⟩ : ByteArray)⟩ : S43)] = 0 := by decide +kernel
    have h2 : znAll ⟨#[98, 97, 115, 101]⟩ 3600000 [] = 0 := by decide +kernel
    unfold zdErr
    rw [if_pos h1, if_pos h2, if_pos ⟨rfl, rfl⟩]
  obtain ⟨k, rfl⟩ : ∃ m, K = m + 6 := ⟨K - 6, by omega⟩
  rw [show k + 6 = (k + 5) + 1 from rfl, diff_f _ _ _ _ _ _ base_wf (fun c hc => by cases hc) (k + 5) (by omega), if_pos hz0, show k + 5 = (k + 2) + 3 from rfl, diff_drop (k + 2) [] _ [] [] (by decide) (fun y hy => by cases hy)]
  have hl : zonetext_Diff.l0 (k + 2) ([] ++ [(⟨1, (⟨0, 7200000, (⟨#[83, 85, 77]⟩ : ByteArray)⟩ : S43)⟩ : S56)]) [] [] = some ([⟨1, ⟨0, 7200000, ⟨#[83, 85, 77]⟩⟩⟩], 0) := by
    rw [show k + 2 = (k + 1) + 1 from rfl]
    simp only [zonetext_Diff.l0]
    rw [if_neg (by decide), decide_eq_false (by decide)]
    simp only [zonetext_Diff.j2, Bool.false_eq_true, if_false]
    rfl
  rw [hl, Option.bind_some]
  simp only
  rw [if_pos trivial, if_pos (by rfl), if_pos (by decide), if_pos (by rfl), Option.bind_some]
  simp only
  rw [if_pos (by decide)]
  rw [show (!((rd_T56 [(⟨1, (⟨0, 7200000, (⟨#[83, 85, 77]⟩ : ByteArray)⟩ : S43)⟩ : S56)] 0).f1.f0 == (rd_T43 [(⟨0, 7200000, (⟨#[83, 85, 77]⟩ : ByteArray)⟩ : S43)] 0).f0) || (!((rd_T56 [(⟨1, (⟨0, 7200000, (⟨#[83, 85, 77]⟩ : ByteArray)⟩ : S43)⟩ : S56)] 0).f1.f1 == (rd_T43 [(⟨0, 7200000, (⟨#[83, 85, 77]⟩ : ByteArray)⟩ : S43)] 0).f1) || (!((rd_T56 [(⟨1, (⟨0, 7200000, (⟨#[83, 85, 77]⟩ : ByteArray)⟩ : S43)⟩ : S56)] 0).f1.f2.toList == (rd_T43 [(⟨0, 7200000, (⟨#[83, 85, 77]⟩ : ByteArray)⟩ : S43)] 0).f2.toList)))) = false from by
    show (!((0 : Int) == 0) || (!((7200000 : Int) == 7200000) || (!((⟨#[83, 85, 77]⟩ : ByteArray).toList == (⟨#[83, 85, 77]⟩ : ByteArray).toList)))) = false
    simp]
  rw [show k + 2 + 3 + 1 = (k + 5) + 1 from rfl]
  simp only [ephemerislaw1_ZonetextDiffs.j0, Bool.false_eq_true, if_false]
  rw [show k + 5 = (k + 4) + 1 from rfl, diff_f s o a s2 o2 b ha hb (k + 4) (by omega), ephemerisref1_ZoneError_f s o a ha (k + 4 + 1) (by omega)]
  by_cases he : zdErr s o a s2 o2 b = 0
  · obtain ⟨h1, h2, h3, h4⟩ := zdErr_ok he
    obtain ⟨D, hDl, hD1, hD2⟩ := edits_one a b (znAll_ok h1).2.2 (znAll_ok h2).2.2
    rw [if_pos he, hD1 (k + 4) (by omega), Option.bind_some, Option.bind_some, if_pos h1, ephemerisref1_ZoneError_f s2 o2 b hb (k + 4 + 1) (by omega), Option.bind_some]
    simp only [ephemerislaw1_ZonetextDiffs.j1]
    rw [if_pos h2, if_pos h3, show k + 4 = (k + 3) + 1 from rfl]
    simp only [ephemerislaw1_ZonetextDiffs.j2]
    rw [if_neg (by simp [h4]), show k + 3 = (k + 2) + 1 from rfl]
    simp only [ephemerislaw1_ZonetextDiffs.j3]
    rw [if_pos h2, hD2 (k + 2) (by omega), Option.bind_some, if_pos trivial, show k + 2 = (k + 1) + 1 from rfl]
    simp only [ephemerislaw1_ZonetextDiffs.j4, bne_self_eq_false, Bool.false_eq_true, if_false]
    exact zdiffs_l0 D (by omega) D.length 0 (k + 1) (by omega) (by omega)
  · rw [if_neg he, Option.bind_some, Option.bind_some]
    simp only
    by_cases h1 : znAll s o a = 0
    · rw [if_pos h1, ephemerisref1_ZoneError_f s2 o2 b hb (k + 4 + 1) (by omega), Option.bind_some]
      simp only [ephemerislaw1_ZonetextDiffs.j1]
      by_cases h2 : znAll s2 o2 b = 0
      · rw [if_pos h2, show k + 4 = (k + 3) + 1 from rfl]
        by_cases h3 : s.toList = s2.toList ∧ o = o2
        · exact absurd (by unfold zdErr; rw [if_pos h1, if_pos h2, if_pos h3]) he
        · have e : zdErr s o a s2 o2 b = 8 := by unfold zdErr; rw [if_pos h1, if_pos h2, if_neg h3]
          rw [e]
          by_cases h4 : s.toList = s2.toList
          · rw [if_pos h4]
            simp only [ephemerislaw1_ZonetextDiffs.j2]
            rw [if_pos (by simpa using fun g => h3 ⟨h4, g⟩)]
            exact zdiffs_j3 (k + 2) [] 8 8 (by decide) rfl rfl s o a s2 o2 b
          · rw [if_neg h4]
            simp only [ephemerislaw1_ZonetextDiffs.j2, if_true]
            exact zdiffs_j3 (k + 2) [] 8 8 (by decide) rfl rfl s o a s2 o2 b
      · have e : zdErr s o a s2 o2 b = znAll s2 o2 b := by unfold zdErr; rw [if_pos h1, if_neg h2]
        rw [if_neg h2, e, show k + 4 = (k + 3) + 1 from rfl]
        simp only [ephemerislaw1_ZonetextDiffs.j2, Bool.false_eq_true, if_false]
        exact zdiffs_j3 (k + 2) [] _ _ h2 rfl rfl s o a s2 o2 b
    · have e : zdErr s o a s2 o2 b = znAll s o a := by unfold zdErr; rw [if_neg h1]
      rw [if_neg h1, e]
      simp only [ephemerislaw1_ZonetextDiffs.j1]
      rw [if_neg h1, show k + 4 = (k + 3) + 1 from rfl]
      simp only [ephemerislaw1_ZonetextDiffs.j2, Bool.false_eq_true, if_false]
      exact zdiffs_j3 (k + 2) [] _ _ h1 rfl rfl s o a s2 o2 b
end Go.Proofs.YtolhlaadhfilnaaDoor.Pure
