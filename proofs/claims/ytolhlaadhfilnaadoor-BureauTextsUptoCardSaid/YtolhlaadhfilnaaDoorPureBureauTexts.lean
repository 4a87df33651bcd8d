/- The law BureauTexts over numbers and lists: what the law's functions tell, and that the law holds. -/
import Derived.Test.YtolhlaadhfilnaaDoorPBureauTextsx5
import Derived.Test.YtolhlaadhfilnaaDoorM
import Derived.Test.YtolhlaadhfilnaaDoorT
import Derived.Test.YtolhlaadhfilnaaDoorZ
import Derived.Test.YtolhlaadhfilnaaDoorO
import Derived.Test.YtolhlaadhfilnaaDoorU
import Derived.Lib.ItoaLen
namespace Go.Proofs.YtolhlaadhfilnaaDoor.Pure
open Go.RowKit Go.Proofs.YtolhlaadhfilnaaDoor.PBureauTexts Go.Proofs.YtolhlaadhfilnaaDoorW.PrintWords Go.Proofs.YtolhlaadhfilnaaDoorW.PrintLast Go.Proofs.YtolhlaadhfilnaaDoor.M Go.Proofs.YtolhlaadhfilnaaDoor.T Go.Proofs.YtolhlaadhfilnaaDoor.Z Go.Proofs.YtolhlaadhfilnaaDoor.O Go.Proofs.YtolhlaadhfilnaaDoor.U
set_option linter.unusedVariables false
set_option linter.unusedSimpArgs false
/-- The law over numbers and lists. -/
def ephemerislaw1_BureauTexts.Pure : Prop := ∀ (a0_0 : ByteArray) (a0_1 : Int) (l0_2 : List (S43)) (a1 : Int), a0_0.size ≤ 140737488351232 → (Lit.int .i64 a0_1).wf = true → (l0_2.length * 32 ≤ 140737488351232 ∧ l0_2.length ≤ 9223372036854775807 ∧ ∀ v ∈ l0_2, ((Lit.int .i64 v.f0).wf = true ∧ (Lit.int .i64 v.f1).wf = true ∧ v.f2.size ≤ 140737488351232)) → (Lit.int .i64 a1).wf = true → ∃ k, ephemerislaw1_BureauTexts.f k a0_0 a0_1 l0_2 a1 = some true

theorem ephemerisref1_In_f (x lo hi : Int) : ephemerisref1_In.f x lo hi = some (decide (lo ≤ x ∧ x ≤ hi)) := by
  unfold ephemerisref1_In.f
  by_cases h : x ≥ lo
  · rw [if_pos h]; congr 1; simp; omega
  · rw [if_neg h]; congr 1; simp; omega

theorem ephemerisref1_Day_f (x : Int) : ephemerisref1_Day.f x = some (decide (-4000000 ≤ x ∧ x ≤ 4000000)) := by
  unfold ephemerisref1_Day.f
  rw [ephemerisref1_In_f]; rfl

theorem ephemerisref1_Size_f {a : Int} (h0 : -9223372036854775808 ≤ a) (h1 : a ≤ 9223372036854775807) : ephemerisref1_Size.f a = some (ab a) := by
  unfold ephemerisref1_Size.f ab
  by_cases c : a < 0
  · rw [if_pos c, if_pos c, w64_id (n := a + 1) (by omega) (by omega), w64_id (n := -(a + 1)) (by omega) (by omega), u64_id (n := -(a + 1)) (by omega) (by omega), u64_id (by omega) (by omega)]
    congr 1; omega
  · rw [if_neg c, if_neg c, u64_id (by omega) (by omega)]

theorem ephemerisref1_Div_l0 (X Y : Int) (hX : 0 ≤ X) (hX1 : X < 18446744073709551616) (hY : 0 < Y) (hY1 : Y ≤ 9223372036854775808) :
    ∀ (n k : Nat), n ≤ 64 → n < k → ephemerisref1_Div.l0 k X Y (X / 2 ^ n / Y * 2 ^ n) (X / 2 ^ n % Y) ((n : Int) - 1) = some (X / Y, X % Y) := by
  intro n
  induction n with
  | zero =>
    intro k _ hk
    obtain ⟨k, rfl⟩ : ∃ m, k = m + 1 := ⟨k - 1, by omega⟩
    simp only [ephemerisref1_Div.l0]
    rw [if_neg (by omega)]
    simp
  | succ n ih =>
    intro k hn hk
    obtain ⟨k, rfl⟩ : ∃ m, k = m + 1 := ⟨k - 1, by omega⟩
    have ih := ih k (by omega) (by omega)
    have hhp := half_pow X n
    have hpow : (2 : Int) ^ (n + 1) = 2 * 2 ^ n := by rw [Int.pow_succ, Int.mul_comm]
    have hpp := pow_pos' n
    have hp63 := pow_le_63 n (by omega)
    have hd1 := div_pow_le X Y (n + 1) hX hY
    have hd0 := div_pow_le X Y n hX hY
    have hz : 0 ≤ X / 2 ^ n := Int.ediv_nonneg hX (by omega)
    obtain ⟨s1, s2⟩ := long_step (X / 2 ^ n) Y hz hY
    rw [← hhp] at s1 s2
    have r0 := Int.emod_nonneg (X / 2 ^ (n + 1)) (b := Y) (by omega)
    have r1 := Int.emod_lt_of_pos (X / 2 ^ (n + 1)) hY
    have hshr : shr .u64 X ((n : Int) + 1 - 1) = X / 2 ^ n := by
      rw [show (n : Int) + 1 - 1 = n from by omega]; exact shr_pow X n (by omega)
    have hshl : shl .u64 1 ((n : Int) + 1 - 1) = 2 ^ n := by
      rw [show (n : Int) + 1 - 1 = n from by omega]; exact shl_one n (by omega)
    have hzx : X / 2 ^ n ≤ X := Int.ediv_le_self _ hX
    have hmod : (X / 2 ^ (n + 1) / Y * 2 ^ (n + 1)) % 2 ^ (n + 1) = 0 := Int.mul_emod_left _ _
    have hor : Go.bits .or .u64 (X / 2 ^ (n + 1) / Y * 2 ^ (n + 1)) (2 ^ n) = X / 2 ^ (n + 1) / Y * 2 ^ (n + 1) + 2 ^ n :=
      or_join (n + 1) _ _ hd1.1 (by omega) hmod (by omega) (by omega) (by omega)
    have q2 : X / 2 ^ (n + 1) / Y * 2 ^ (n + 1) = 2 * (X / 2 ^ (n + 1) / Y) * 2 ^ n := by
      rw [hpow, Int.mul_comm 2 (X / (2 * 2 ^ n) / Y), Int.mul_assoc]
    generalize hR : X / 2 ^ (n + 1) % Y = R at *
    generalize hQ : X / 2 ^ (n + 1) / Y * 2 ^ (n + 1) = Q at *
    simp only [ephemerisref1_Div.l0]
    rw [show (((n + 1 : Nat) : Int) - 1) = (n : Int) + 1 - 1 from by omega]
    rw [if_pos (by omega), hshr, hshl, hor, w64_id (n := (n : Int) + 1 - 1 - 1) (by omega) (by omega), show (n : Int) + 1 - 1 - 1 = (n : Int) - 1 from by omega]
    rw [Go.Proofs.YtolhlaadhfilnaaDoor.M.and_one _ hz (by omega), u64_id (n := R * 2) (by omega) (by omega)]
    have hbit := Int.emod_nonneg (X / 2 ^ n) (b := 2) (by omega)
    have hbit1 := Int.emod_lt_of_pos (X / 2 ^ n) (b := 2) (by omega)
    rw [or_join 1 (R * 2) _ (by omega) (by omega) (by simp only [Int.reducePow]; omega) hbit (by simp only [Int.reducePow]; omega) (by omega)]
    rw [if_neg (by omega)]
    rw [show R * 2 + X / 2 ^ n % 2 = 2 * R + X / 2 ^ n % 2 from by omega]
    by_cases c : Y ≤ 2 * R + X / 2 ^ n % 2
    · rw [if_pos c, u64_id (by omega) (by omega)]
      have e := s1 c
      rw [e.1, e.2, Int.add_mul, Int.one_mul, ← q2] at ih
      exact ih
    · rw [if_neg c]
      have e := s2 c
      rw [e.1, e.2, ← q2] at ih
      exact ih
theorem ephemerisref1_Div_f {a b : Int} (k : Nat) (hk : 65 ≤ k) (ha : -9223372036854775808 ≤ a) (ha1 : a ≤ 9223372036854775807) (hb : -9223372036854775808 ≤ b) (hb1 : b ≤ 9223372036854775807) : ephemerisref1_Div.f k a b = some (divs a b) := by
  unfold ephemerisref1_Div.f
  by_cases c : b = 0
  · rw [if_pos c]; unfold divs; rw [if_pos c]
  rw [if_neg c, ephemerisref1_Size_f ha ha1, ephemerisref1_Size_f hb hb1]
  simp only [Option.bind_some]
  have hX := ab_nonneg a
  have hX1 := ab_le ha ha1
  have hY1 := ab_le hb hb1
  have hY : 0 < ab b := by unfold ab; split <;> omega
  have h64 := ephemerisref1_Div_l0 (ab a) (ab b) hX (by omega) hY hY1 64 k (by omega) (by omega)
  have hz : ab a / 2 ^ 64 = 0 := Int.ediv_eq_zero_of_lt hX (by simp only [Int.reducePow]; omega)
  rw [hz] at h64
  simp only [Int.zero_ediv, Int.zero_mul, Int.zero_emod] at h64
  rw [show (((64 : Nat) : Int) - 1) = 63 from by omega] at h64
  rw [h64]
  simp only [Option.bind_some, Option.some.injEq]
  have h1 := Int.mul_ediv_add_emod (ab a) (ab b)
  have h2 := Int.emod_nonneg (ab a) (b := ab b) (by omega)
  have h3 := Int.emod_lt_of_pos (ab a) hY
  have h4 : ab a / ab b ≤ ab a := Int.ediv_le_self _ hX
  have h5 : 0 ≤ ab a / ab b := Int.ediv_nonneg hX (by omega)
  have h6 : 2 ≤ ab b → ab a / ab b ≤ 4611686018427387904 := fun h => by
    have : ab a / ab b ≤ ab a / 2 := by
      have := Int.ediv_le_ediv (c := 2) (by omega) (a := ab a / ab b * 2) (b := ab a) (by
        have : ab a / ab b * 2 ≤ ab a / ab b * ab b := Int.mul_le_mul_of_nonneg_left h h5
        rw [Int.mul_comm (ab b)] at h1
        omega)
      omega
    omega
  have h7 : ab b = 1 → ab a / ab b = ab a ∧ ab a % ab b = 0 := fun h => by rw [h]; omega
  have uniq : ∀ {q r : Int}, a = b * q + r → (0 < b → 0 ≤ r ∧ r < b) → (b < 0 → b < r ∧ r ≤ 0) → ¬ (a = -9223372036854775808 ∧ b = -1) → divs a b = (q, r, 0) := by
    intro q r e1 e2 e3 e4
    have := fd_uniq e1 e2 e3 c
    unfold divs
    rw [if_neg c, if_neg e4, this.1, this.2]
  generalize hq : ab a / ab b = q at *
  generalize hr : ab a % ab b = r at *
  clear h64 hz
  have eY : ∀ s : Int, (-(ab b)) * s = -(ab b * s) := fun s => by rw [Int.neg_mul]
  by_cases sa : a < 0 <;> by_cases sb : b < 0
  · have xa : a = -(ab a) := by unfold ab; rw [if_pos sa]; omega
    have xb : b = -(ab b) := by unfold ab; rw [if_pos sb]; omega
    simp only [ephemerisref1_Div.e0, ephemerisref1_Div.e1, sa, sb, decide_true, bne_self_eq_false, Bool.false_eq_true, false_and, if_false, true_and, if_true]
    by_cases c2 : q > 9223372036854775807
    · rw [if_pos c2]
      unfold divs
      have : ab b = 1 := by
        by_cases h : 2 ≤ ab b
        · have := h6 h; omega
        · omega
      rw [if_neg c, if_pos (by omega)]
    · rw [if_neg c2, w64_id (by omega) (by omega), u64_def, w64_def]
      rw [uniq (q := q) (r := -r) (by rw [xb, eY]; omega) (by omega) (by omega) (fun h => by have := h7 (by omega); omega)]
      congr 2; omega
  · have xa : a = -(ab a) := by unfold ab; rw [if_pos sa]; omega
    have xb : b = ab b := by unfold ab; rw [if_neg sb]
    simp only [ephemerisref1_Div.e0, ephemerisref1_Div.e1, sa, sb, decide_true, decide_false, Bool.bne_false, Bool.false_eq_true, true_and, if_true, Bool.true_eq_false, false_and, if_false]
    by_cases c2 : r = 0
    · rw [if_neg (fun h => h c2), u64_def, w64_def, w64_id (by omega) (by omega)]
      rw [uniq (q := -q) (r := 0) (by rw [xb, Int.mul_neg]; omega) (by omega) (by omega) (by omega)]
      rw [c2]
      congr 1; omega
    · rw [if_pos c2, u64_id (n := q + 1) (by omega) (by omega), u64_id (n := ab b - r) (by omega) (by omega), u64_def, w64_def, w64_id (by omega) (by omega)]
      have : q ≤ 9223372036854775807 := by
        by_cases h : 2 ≤ ab b
        · have := h6 h; omega
        · have := h7 (by omega); omega
      have eb : b * q = ab b * q := by rw [← xb]
      rw [uniq (q := -(q + 1)) (r := ab b - r) (by rw [Int.mul_neg, Int.mul_add, Int.mul_one, eb]; omega) (by omega) (by omega) (by omega)]
      congr 1; omega
  · have xa : a = ab a := by unfold ab; rw [if_neg sa]
    have xb : b = -(ab b) := by unfold ab; rw [if_pos sb]; omega
    simp only [ephemerisref1_Div.e0, ephemerisref1_Div.e1, sa, sb, decide_true, decide_false, Bool.bne_true, Bool.not_false, Bool.false_eq_true, true_and, if_true, Bool.true_eq_false, false_and, if_false]
    by_cases c2 : r = 0
    · rw [if_neg (fun h => h c2), u64_def, w64_def, u64_def, w64_def]
      rw [uniq (q := -q) (r := 0) (by rw [xb, eY, Int.mul_neg]; omega) (by omega) (by omega) (by omega)]
      rw [c2]
      congr 1
      omega
    · rw [if_pos c2, u64_id (n := q + 1) (by omega) (by omega), u64_id (n := ab b - r) (by omega) (by omega), u64_def, w64_def, u64_def, w64_def]
      have eb := eY q
      rw [← xb] at eb
      rw [uniq (q := -(q + 1)) (r := -(ab b - r)) (by rw [Int.mul_neg, Int.mul_add, Int.mul_one, eb]; omega) (by omega) (by omega) (by omega)]
      congr 1
      · omega
      · congr 1; omega
  · have xa : a = ab a := by unfold ab; rw [if_neg sa]
    have xb : b = ab b := by unfold ab; rw [if_neg sb]
    simp only [ephemerisref1_Div.e0, ephemerisref1_Div.e1, sa, sb, decide_false, bne_self_eq_false, Bool.false_eq_true, false_and, if_false, true_and]
    rw [if_neg (by omega), w64_id (by omega) (by omega), w64_id (by omega) (by omega)]
    rw [uniq (q := q) (r := r) (by rw [xb]; omega) (by omega) (by omega) (by omega)]

theorem ephemerisref1_Floor_f {a b : Int} (k : Nat) (hk : 65 ≤ k) (ha : -9223372036854775808 ≤ a) (ha1 : a ≤ 9223372036854775807) (hb : 0 < b) (hb1 : b ≤ 9223372036854775807) : ephemerisref1_Floor.f k a b = some (a / b) := by
  unfold ephemerisref1_Floor.f
  rw [ephemerisref1_Div_f k hk ha ha1 (by omega) hb1, divs_pos hb]
  rfl

theorem ephemerisref1_Instant_f {t : Int} (k : Nat) (hk : 65 ≤ k) (h0 : -9223372036854775808 ≤ t) (h1 : t ≤ 9223372036854775807) : ephemerisref1_Instant.f k t = some (decide (-4000000 ≤ t / 86400000 ∧ t / 86400000 ≤ 4000000)) := by
  unfold ephemerisref1_Instant.f
  rw [ephemerisref1_Floor_f k hk h0 h1 (by omega) (by omega)]
  simp only [Option.bind_some]
  rw [ephemerisref1_Day_f]; rfl

theorem ephemerisref1_Name_l0 (s : ByteArray) (hs : s.size ≤ 12) : ∀ (d i k : Nat), i + d = s.size → d < k →
    ephemerisref1_Name.l0 k s (s.size : Int) (i : Int) = some (noWord s && letters (s.data.toList.drop i)) := by
  intro d
  induction d with
  | zero =>
    intro i k hi hk
    obtain ⟨k, rfl⟩ : ∃ m, k = m + 1 := ⟨k - 1, by omega⟩
    obtain rfl : i = s.size := by omega
    simp only [ephemerisref1_Name.l0]
    rw [if_neg (by omega), letters_end, Bool.and_true]
    unfold noWord
    by_cases c1 : s.toList = [121]
    · rw [if_pos c1]; simp [c1]
    rw [if_neg c1, bne_iff_ne.2 c1]
    by_cases c2 : s.toList = [97, 110, 100]
    · rw [if_pos c2]; simp [c2]
    rw [if_neg c2, bne_iff_ne.2 c2]
    by_cases c3 : s.toList = [111, 114]
    · rw [if_pos c3]; simp [c3]
    rw [if_neg c3, bne_iff_ne.2 c3]
    rfl
  | succ d ih =>
    intro i k hi hk
    obtain ⟨k, rfl⟩ : ∃ m, k = m + 1 := ⟨k - 1, by omega⟩
    simp only [ephemerisref1_Name.l0]
    rw [if_pos (by omega), if_pos (by omega), if_pos (by omega), letters_cons s i (by omega)]
    by_cases c1 : bt s i < 97
    · rw [if_pos c1, decide_eq_false (show ¬ 97 ≤ bt s i by omega)]; simp
    rw [if_neg c1, decide_eq_true (show 97 ≤ bt s i by omega)]
    by_cases c2 : bt s i > 122
    · rw [if_pos c2, decide_eq_false (show ¬ bt s i ≤ 122 by omega)]; simp
    rw [if_neg c2, decide_eq_true (show bt s i ≤ 122 by omega), w64_id (by omega) (by omega)]
    have := ih (i + 1) k (by omega) (by omega)
    rw [show ((i + 1 : Nat) : Int) = (i : Int) + 1 from by omega] at this
    rw [this]; simp
theorem ephemerisref1_Name_f (s : ByteArray) (k : Nat) (hk : 20 ≤ k) : ephemerisref1_Name.f k s = some (isName s) := by
  obtain ⟨k, rfl⟩ : ∃ m, k = m + 1 := ⟨k - 1, by omega⟩
  unfold ephemerisref1_Name.f isName
  by_cases h1 : s.toList = []
  · rw [if_pos h1, decide_eq_false (show ¬ 1 ≤ s.size by have := (toList_nil s).1 h1; omega)]
    simp [ephemerisref1_Name.j0]
  have h1' : ¬ s.size = 0 := fun h => h1 ((toList_nil s).2 h)
  rw [if_neg h1, decide_eq_true (show 1 ≤ s.size by omega)]
  simp only [ephemerisref1_Name.j0, decide_eq_true_eq]
  by_cases h2 : (s.size : Int) > 12
  · rw [if_pos h2, decide_eq_false (show ¬ s.size ≤ 12 by omega)]; rfl
  rw [if_neg h2, decide_eq_true (show s.size ≤ 12 by omega)]
  exact ephemerisref1_Name_l0 s (by omega) s.size 0 k (by omega) (by omega)

theorem ephemerisref1_Mod_f {a b : Int} (k : Nat) (hk : 65 ≤ k) (ha : -9223372036854775808 ≤ a) (ha1 : a ≤ 9223372036854775807) (hb : 0 < b) (hb1 : b ≤ 9223372036854775807) : ephemerisref1_Mod.f k a b = some (a % b) := by
  unfold ephemerisref1_Mod.f
  rw [ephemerisref1_Div_f k hk ha ha1 (by omega) hb1, divs_pos hb]
  rfl

theorem ephemerisref1_Offset_f (x : Int) (k : Nat) (hk : 65 ≤ k) : ephemerisref1_Offset.f k x = some (okOff x) := by
  unfold ephemerisref1_Offset.f okOff
  rw [ephemerisref1_In_f, Option.bind_some]
  by_cases h : -64800000 ≤ x ∧ x ≤ 64800000
  · rw [decide_eq_true h, if_pos rfl, ephemerisref1_Mod_f k hk (by omega) (by omega) (by omega) (by omega), Option.bind_some]
    congr 1
    by_cases c : x % 1000 = 0
    · rw [decide_eq_true ⟨h.1, h.2, c⟩, c]; rfl
    · rw [decide_eq_false (fun g => c g.2.2)]; simpa using c
  · rw [decide_eq_false h, if_neg (by decide), decide_eq_false (fun g => h ⟨g.1, g.2.1⟩)]

theorem ephemerisref1_Label_f (s : ByteArray) : ephemerisref1_Label.f s = some (isLabel s) := by
  unfold ephemerisref1_Label.f isLabel
  rw [ephemerisref1_In_f, Option.bind_some]
  by_cases h : 1 ≤ s.size ∧ s.size ≤ 6
  · rw [decide_eq_true (show (1 : Int) ≤ (s.size : Int) ∧ (s.size : Int) ≤ 6 by omega), if_pos rfl, decide_eq_true h]
    unfold strings_Trim.f
    rw [if_pos ⟨by omega, by decide, by decide⟩, Option.bind_some]
    congr 1
    rw [Bool.true_and, toList_data]
    show (Go.Lib.trimS s.data.toList abc == []) = caps s.data.toList
    by_cases c : caps s.data.toList = true
    · rw [c, (trim_caps _).2 c]; rfl
    · rw [Bool.not_eq_true] at c
      rw [c, beq_eq_false_iff_ne]
      intro e
      rw [(trim_caps _).1 e] at c
      cases c
  · rw [decide_eq_false (show ¬ ((1 : Int) ≤ (s.size : Int) ∧ (s.size : Int) ≤ 6) by omega), if_neg (by decide), decide_eq_false h]; rfl

/-- A change whose instant or offset is out of range. -/
def znBad (c : S43) : Bool := !(decide (-4000000 ≤ c.f0 / 86400000 ∧ c.f0 / 86400000 ≤ 4000000) && okOff c.f1)
/-- The first fault of the changes from the i-th on (d of them). -/
def znErr (l : List S43) : Nat → Nat → Int
  | 0, _ => 0
  | d + 1, i => if znBad (l.getD i z43) = true then 3 else if isLabel (l.getD i z43).f2 = true then (if 0 < i ∧ (l.getD i z43).f0 ≤ (l.getD (i - 1) z43).f0 then 9 else znErr l d (i + 1)) else 8
/-- What both checks of a zone tell. -/
def znAll (s : ByteArray) (o : Int) (l : List S43) : Int := if isName s = true then (if okOff o = true then (if l.length ≤ 200 then znErr l l.length 0 else 2) else 3) else 5
/-- The instants are numbers that an int holds. -/
def znWf (l : List S43) : Prop := ∀ c ∈ l, -9223372036854775808 ≤ c.f0 ∧ c.f0 ≤ 9223372036854775807
theorem znWf_get {l : List S43} (h : znWf l) {i : Nat} (hi : i < l.length) : -9223372036854775808 ≤ (l.getD i z43).f0 ∧ (l.getD i z43).f0 ≤ 9223372036854775807 := by
  rw [List.getD_eq_getElem?_getD, List.getElem?_eq_getElem hi]
  exact h _ (List.getElem_mem hi)
theorem zn_split (b x : Bool) {α : Type} (u : α) (e : Int) (y : Int) (v : Option Int) (p : Prop) [Decidable p] (h : v = some y) :
    (if b = true then some (3 : Int) else if x = true then (if p then some 9 else v) else some 8) = some (if b = true then 3 else if x = true then (if p then 9 else y) else 8) := by
  subst h
  split
  · rfl
  · split
    · split
      · rfl
      · rfl
    · rfl

theorem ephemerisref1_ZoneError_j1 (l : List S43) (s : ByteArray) (o : Int) (hl : l.length ≤ 200) (i : Nat) (hi : i < l.length) (k : Nat) (t : Bool) (y : Int) (hy : ephemerisref1_ZoneError.l0 k l (l.length : Int) ((i + 1 : Nat) : Int) s o l = some y) :
    ephemerisref1_ZoneError.j1 (k + 1) (i : Int) l (l.length : Int) (i : Int) t s o l (l.getD i z43).f0 (l.getD i z43).f1 (l.getD i z43).f2
      = some (if t = true then 3 else if isLabel (l.getD i z43).f2 = true then (if 0 < i ∧ (l.getD i z43).f0 ≤ (l.getD (i - 1) z43).f0 then 9 else y) else 8) := by
  simp only [ephemerisref1_ZoneError.j1]
  by_cases h : t = true
  · rw [if_pos h, if_pos h]
  rw [if_neg h, if_neg h, ephemerisref1_Label_f, Option.bind_some]
  by_cases h2 : isLabel (l.getD i z43).f2 = true
  · rw [if_pos h2, if_pos h2, w64_id (n := (i : Int) + 1) (by omega) (by omega), show ((i : Int) + 1) = ((i + 1 : Nat) : Int) from by omega, hy]
    by_cases h3 : 0 < i
    · rw [if_pos (by omega), w64_id (n := (i : Int) - 1) (by omega) (by omega), if_pos (by omega), if_pos (by omega)]
      rw [show rd_T43 l ((i : Int) - 1) = l.getD (i - 1) z43 from by unfold rd_T43; rw [show ((i : Int) - 1).toNat = i - 1 by omega]]
      by_cases h4 : (l.getD i z43).f0 ≤ (l.getD (i - 1) z43).f0
      · rw [if_pos (show _ ≥ _ from h4), if_pos ⟨h3, h4⟩]
      · rw [if_neg (show ¬ _ ≥ _ from h4), if_neg (fun g => h4 g.2)]
    · rw [if_neg (by omega), if_neg (fun g => h3 g.1)]
  · rw [if_neg h2, if_neg h2]
theorem ephemerisref1_ZoneError_l0 (l : List S43) (s : ByteArray) (o : Int) (hl : l.length ≤ 200) (hw : znWf l) : ∀ (d i k : Nat), i + d = l.length → 2 * d + 70 < k → ephemerisref1_ZoneError.l0 k l (l.length : Int) (i : Int) s o l = some (znErr l d i) := by
  intro d
  induction d with
  | zero =>
    intro i k hi hk
    obtain ⟨k, rfl⟩ : ∃ m, k = m + 1 := ⟨k - 1, by omega⟩
    simp only [ephemerisref1_ZoneError.l0]
    rw [if_neg (by omega)]; rfl
  | succ d ih =>
    intro i k hi hk
    obtain ⟨k, rfl⟩ : ∃ m, k = m + 2 := ⟨k - 2, by omega⟩
    rw [show k + 2 = (k + 1) + 1 from rfl]
    simp only [ephemerisref1_ZoneError.l0]
    rw [if_pos (by omega), if_pos (by omega), if_pos (by omega), show rd_T43 l (i : Int) = l.getD i z43 from rfl]
    have hg := znWf_get hw (i := i) (by omega)
    have hj := fun t => ephemerisref1_ZoneError_j1 l s o hl i (by omega) k t _ (ih (i + 1) k (by omega) (by omega))
    unfold znErr
    rw [ephemerisref1_Instant_f (k + 1) (by omega) hg.1 hg.2, Option.bind_some]
    by_cases c : -4000000 ≤ (l.getD i z43).f0 / 86400000 ∧ (l.getD i z43).f0 / 86400000 ≤ 4000000
    · rw [decide_eq_true c, if_pos rfl, ephemerisref1_Offset_f _ (k + 1) (by omega), Option.bind_some, hj]
      rw [show (!(okOff (l.getD i z43).f1)) = znBad (l.getD i z43) from by unfold znBad; rw [decide_eq_true c, Bool.true_and]]
    · rw [decide_eq_false c, if_neg (by decide), hj]
      rw [show (true : Bool) = znBad (l.getD i z43) from by unfold znBad; rw [decide_eq_false c]; rfl]
theorem ephemerisref1_ZoneError_f (s : ByteArray) (o : Int) (l : List S43) (hw : znWf l) (k : Nat) (hk : 600 ≤ k) : ephemerisref1_ZoneError.f k s o l = some (znAll s o l) := by
  unfold ephemerisref1_ZoneError.f znAll
  rw [ephemerisref1_Name_f _ k (by omega), Option.bind_some]
  by_cases h1 : isName s = true
  · rw [if_pos h1, if_pos h1, ephemerisref1_Offset_f _ k (by omega), Option.bind_some]
    by_cases h2 : okOff o = true
    · rw [if_pos h2, if_pos h2]
      by_cases h3 : l.length ≤ 200
      · rw [if_neg (by omega), if_pos h3]
        exact ephemerisref1_ZoneError_l0 l s o h3 hw l.length 0 k (by omega) (by omega)
      · rw [if_pos (by omega), if_neg h3]
    · rw [if_neg h2, if_neg h2]
  · rw [if_neg h1, if_neg h1]

theorem line_Check_f (x : Int) : line_Check.f x = some (if -4000000 ≤ x ∧ x ≤ 4000000 then 0 else 3) := by
  unfold line_Check.f
  by_cases h : x < -4000000
  · rw [if_pos h, if_neg (by omega)]
  · rw [if_neg h]
    by_cases h2 : x > 4000000
    · rw [if_pos h2, if_neg (by omega)]
    · rw [if_neg h2, if_pos (by omega)]

theorem whole_Div_f {a b : Int} (k : Nat) (hk : 1 ≤ k) (ha : -9223372036854775808 ≤ a) (ha1 : a ≤ 9223372036854775807) (hb : -9223372036854775808 ≤ b) (hb1 : b ≤ 9223372036854775807) : whole_Div.f k a b = some (divs a b) := by
  obtain ⟨k, rfl⟩ : ∃ m, k = m + 1 := ⟨k - 1, by omega⟩
  unfold whole_Div.f divs
  by_cases c : b = 0
  · rw [if_pos c, if_pos c]
  rw [if_neg c, if_neg c]
  by_cases d : a = -9223372036854775808 ∧ b = -1
  · rw [if_pos d.1, if_pos d, d.2]; simp [whole_Div.j0]
  have e : (if a = (-9223372036854775808) then (whole_Div.j0 (k + 1) a b (b == (-1))) else (whole_Div.j0 (k + 1) a b false)) = whole_Div.j0 (k + 1) a b false := by
    by_cases c1 : a = -9223372036854775808
    · rw [if_pos c1, show (b == -1) = false from beq_eq_false_iff_ne.2 (fun h => d ⟨c1, h⟩)]
    · rw [if_neg c1]
  rw [e, if_neg d]
  simp only [whole_Div.j0, Bool.false_eq_true, if_false]
  rw [if_neg c]
  obtain ⟨b1, b2⟩ := tdiv_bound a b c ha ha1 d
  obtain ⟨g1, g2, g3⟩ := fd_of_t a b c
  obtain ⟨t0, t1, t2, t3, t4⟩ := tdm a b c
  rw [w64_id b1 b2]
  by_cases hz : Int.tmod a b = 0
  · rw [if_pos hz, (g1 hz).1, (g1 hz).2, hz]
  · rw [if_neg hz]
    cases hs : (decide (Int.tmod a b < 0) != decide (b < 0)) with
    | true =>
      have hq : fd a b = Int.tdiv a b - 1 := (g2 hz hs).1
      have hfs := fd_spec a b c
      have hlow : -9223372036854775808 ≤ Int.tdiv a b - 1 := by
        by_cases hm : Int.tdiv a b = -9223372036854775808
        · exfalso
          have h9 : (Int.tdiv a b).natAbs = a.natAbs / b.natAbs := Int.natAbs_tdiv a b
          rw [hm] at h9
          have h10 : a.natAbs / b.natAbs ≤ a.natAbs := Nat.div_le_self _ _
          by_cases hb2 : b.natAbs = 1
          · have : b = 1 ∨ b = -1 := by omega
            rcases this with rfl | rfl
            · exact hz (by rw [Int.tmod_one])
            · exact hz (by rw [Int.tmod_neg, Int.tmod_one])
          · have : a.natAbs / b.natAbs ≤ a.natAbs / 2 := Nat.div_le_div_left (by omega) (by omega)
            omega
        · omega
      have hss : (Int.tmod a b < 0 ∧ 0 < b) ∨ (0 < Int.tmod a b ∧ b < 0) := by
        by_cases hx : Int.tmod a b < 0 <;> by_cases hy : b < 0 <;> simp [hx, hy] at hs
        · exact .inl ⟨hx, by omega⟩
        · exact .inr ⟨by omega, hy⟩
      simp only [if_true]
      rw [(g2 hz hs).1, (g2 hz hs).2, w64_id hlow (by omega), w64_id (n := Int.tmod a b + b) (by omega) (by omega)]
    | false =>
      simp only [Bool.false_eq_true, if_false]
      rw [(g3 hz hs).1, (g3 hz hs).2]

theorem line_Split_f {t : Int} (k : Nat) (hk : 1 ≤ k) (h0 : -9223372036854775808 ≤ t) (h1 : t ≤ 9223372036854775807) : line_Split.f k t = some (if -4000000 ≤ t / 86400000 ∧ t / 86400000 ≤ 4000000 then (t / 86400000, t % 86400000, 0) else (0, 0, 3)) := by
  unfold line_Split.f
  rw [whole_Div_f k hk h0 h1 (by omega) (by omega), divs_pos (by omega)]
  simp only [Option.bind_some]
  rw [line_Check_f]
  simp only [Option.bind_some]
  by_cases h : -4000000 ≤ t / 86400000 ∧ t / 86400000 ≤ 4000000
  · rw [if_pos h, if_pos h, if_pos rfl]
  · rw [if_neg h, if_neg h, if_neg (by omega)]

theorem rule_Name_f (s : ByteArray) : rule_Name.f s = some (isName s) := by
  have e : rule_Name.all s.data.toList = letters s.data.toList := rfl
  unfold rule_Name.f isName noWord
  rw [e]
  congr 1
  by_cases h1 : (s.size : Int) < 1
  · rw [if_pos h1, decide_eq_false (show ¬ 1 ≤ s.size by omega)]; rfl
  rw [if_neg h1, decide_eq_true (show 1 ≤ s.size by omega)]
  by_cases h2 : (s.size : Int) > 12
  · rw [if_pos h2, decide_eq_false (show ¬ s.size ≤ 12 by omega)]; rfl
  rw [if_neg h2, decide_eq_true (show s.size ≤ 12 by omega)]
  by_cases c1 : s.toList = [121]
  · rw [if_pos c1]; simp [c1]
  rw [if_neg c1, bne_iff_ne.2 c1]
  by_cases c2 : s.toList = [97, 110, 100]
  · rw [if_pos c2]; simp [c2]
  rw [if_neg c2, bne_iff_ne.2 c2]
  by_cases c3 : s.toList = [111, 114]
  · rw [if_pos c3]; simp [c3]
  rw [if_neg c3, bne_iff_ne.2 c3]
  by_cases c4 : s.toList = [110, 111, 116]
  · rw [if_pos c4]; simp [c4]
  rw [if_neg c4, bne_iff_ne.2 c4]
  rfl

theorem zone_IsOffset_f (x : Int) : zone_IsOffset.f x = some (okOff x) := by
  unfold zone_IsOffset.f okOff
  rw [tmod_thousand]
  by_cases h1 : x ≥ (-64800000)
  · rw [if_pos h1]
    by_cases h2 : x ≤ 64800000
    · rw [if_pos h2]; congr 1
      by_cases c : x % 1000 = 0
      · rw [decide_eq_true c, decide_eq_true ⟨by omega, h2, c⟩]
      · rw [decide_eq_false c, decide_eq_false (fun h => c h.2.2)]
    · rw [if_neg h2, decide_eq_false (fun h => h2 h.2.1)]
  · rw [if_neg h1, decide_eq_false (fun h => h1 (by omega))]

theorem zone_IsLabel_f (s : ByteArray) : zone_IsLabel.f s = some (isLabel s) := by
  have e : zone_IsLabel.all s.data.toList = caps s.data.toList := rfl
  unfold zone_IsLabel.f isLabel
  rw [e]
  congr 1
  by_cases h1 : (s.size : Int) < 1
  · rw [if_pos h1, decide_eq_false (show ¬ (1 ≤ s.size ∧ s.size ≤ 6) by omega)]; rfl
  rw [if_neg h1]
  by_cases h2 : (s.size : Int) > 6
  · rw [if_pos h2, decide_eq_false (show ¬ (1 ≤ s.size ∧ s.size ≤ 6) by omega)]; rfl
  rw [if_neg h2, decide_eq_true (show 1 ≤ s.size ∧ s.size ≤ 6 by omega)]
  rfl

theorem zone_Check_j1 (l : List S43) (s : ByteArray) (o : Int) (hl : l.length ≤ 200) (i : Nat) (hi : i < l.length) (k : Nat) (t : Bool) (y : Int) (hy : zone_Check.l0 k l (l.length : Int) ((i + 1 : Nat) : Int) s o l = some y) :
    zone_Check.j1 (k + 1) (i : Int) l (l.length : Int) (i : Int) t s o l (l.getD i z43).f0 (l.getD i z43).f1 (l.getD i z43).f2
      = some (if t = true then 3 else if isLabel (l.getD i z43).f2 = true then (if 0 < i ∧ (l.getD i z43).f0 ≤ (l.getD (i - 1) z43).f0 then 9 else y) else 8) := by
  simp only [zone_Check.j1]
  by_cases h : t = true
  · rw [if_pos h, if_pos h]
  rw [if_neg h, if_neg h, zone_IsLabel_f, Option.bind_some]
  by_cases h2 : isLabel (l.getD i z43).f2 = true
  · rw [if_pos h2, if_pos h2, w64_id (n := (i : Int) + 1) (by omega) (by omega), show ((i : Int) + 1) = ((i + 1 : Nat) : Int) from by omega, hy]
    by_cases h3 : 0 < i
    · rw [if_pos (by omega), w64_id (n := (i : Int) - 1) (by omega) (by omega), if_pos (by omega), if_pos (by omega)]
      rw [show rd_T43 l ((i : Int) - 1) = l.getD (i - 1) z43 from by unfold rd_T43; rw [show ((i : Int) - 1).toNat = i - 1 by omega]]
      by_cases h4 : (l.getD i z43).f0 ≤ (l.getD (i - 1) z43).f0
      · rw [if_pos h4, if_pos ⟨h3, h4⟩]
      · rw [if_neg h4, if_neg (fun g => h4 g.2)]
    · rw [if_neg (by omega), if_neg (fun g => h3 g.1)]
  · rw [if_neg h2, if_neg h2]
theorem zone_Check_l0 (l : List S43) (s : ByteArray) (o : Int) (hl : l.length ≤ 200) (hw : znWf l) : ∀ (d i k : Nat), i + d = l.length → 2 * d + 5 < k → zone_Check.l0 k l (l.length : Int) (i : Int) s o l = some (znErr l d i) := by
  intro d
  induction d with
  | zero =>
    intro i k hi hk
    obtain ⟨k, rfl⟩ : ∃ m, k = m + 1 := ⟨k - 1, by omega⟩
    simp only [zone_Check.l0]
    rw [if_neg (by omega)]; rfl
  | succ d ih =>
    intro i k hi hk
    obtain ⟨k, rfl⟩ : ∃ m, k = m + 2 := ⟨k - 2, by omega⟩
    rw [show k + 2 = (k + 1) + 1 from rfl]
    simp only [zone_Check.l0]
    rw [if_pos (by omega), if_pos (by omega), if_pos (by omega), show rd_T43 l (i : Int) = l.getD i z43 from rfl]
    have hg := znWf_get hw (i := i) (by omega)
    have hj := fun t => zone_Check_j1 l s o hl i (by omega) k t _ (ih (i + 1) k (by omega) (by omega))
    unfold znErr
    rw [line_Split_f (k + 1) (by omega) hg.1 hg.2, Option.bind_some]
    by_cases c : -4000000 ≤ (l.getD i z43).f0 / 86400000 ∧ (l.getD i z43).f0 / 86400000 ≤ 4000000
    · rw [if_pos c, if_pos rfl, zone_IsOffset_f, Option.bind_some, hj]
      rw [show (!(okOff (l.getD i z43).f1)) = znBad (l.getD i z43) from by unfold znBad; rw [decide_eq_true c, Bool.true_and]]
    · rw [if_neg c, if_neg (by decide), hj]
      rw [show true = znBad (l.getD i z43) from by unfold znBad; rw [decide_eq_false c]; rfl]
theorem zone_Check_f (s : ByteArray) (o : Int) (l : List S43) (hw : znWf l) (k : Nat) (hk : 600 ≤ k) : zone_Check.f k s o l = some (znAll s o l) := by
  unfold zone_Check.f znAll
  rw [rule_Name_f, Option.bind_some]
  by_cases h1 : isName s = true
  · rw [if_pos h1, if_pos h1, zone_IsOffset_f, Option.bind_some]
    by_cases h2 : okOff o = true
    · rw [if_pos h2, if_pos h2]
      by_cases h3 : l.length ≤ 200
      · rw [if_neg (by omega), if_pos h3]
        exact zone_Check_l0 l s o h3 hw l.length 0 k (by omega) (by omega)
      · rw [if_pos (by omega), if_neg h3]
    · rw [if_neg h2, if_neg h2]
  · rw [if_neg h1, if_neg h1]

/-- The decimal numeral. -/
def bNum (n : Int) : ByteArray := ⟨(Go.Lib.itoa n).toArray⟩
theorem strconv_Itoa_f {n : Int} (h : -9223372036854775808 ≤ n ∧ n ≤ 9223372036854775807) : strconv_Itoa.f n = some (bNum n) := by
  unfold strconv_Itoa.f; rw [if_pos h]; rfl
theorem bNum_size {n : Int} (h : -9223372036854775808 ≤ n ∧ n ≤ 9223372036854775807) : (bNum n).size ≤ 21 := by
  show (Go.Lib.itoa n).toArray.size ≤ 21
  rw [List.size_toArray]
  exact Go.Lib.itoa_length_le n h.1 h.2
/-- The text of a change. -/
def bRow (c : S43) : ByteArray := (((((⟨#[32]⟩ : ByteArray) ++ bNum c.f0) ++ (⟨#[32]⟩ : ByteArray)) ++ bNum c.f1) ++ (⟨#[32]⟩ : ByteArray)) ++ c.f2
/-- The text s with the changes from the i-th on (d of them) behind it. -/
def bTxt (l : List S43) (a : Int) : Nat → Nat → ByteArray → ByteArray
  | 0, _, s => s
  | d + 1, i, s => bTxt l a d (i + 1) (if (l.getD i z43).f0 ≥ a then s ++ bRow (l.getD i z43) else s)
/-- Room for the texts of the changes from the i-th on. -/
def bSum (l : List S43) : Nat → Nat → Nat
  | 0, _ => 0
  | d + 1, i => (l.getD i z43).f2.size + 45 + bSum l d (i + 1)
/-- The numbers of the changes are such that an int holds. -/
def bWf (l : List S43) : Prop := ∀ j, j < l.length → (-9223372036854775808 ≤ (l.getD j z43).f0 ∧ (l.getD j z43).f0 ≤ 9223372036854775807) ∧ -9223372036854775808 ≤ (l.getD j z43).f1 ∧ (l.getD j z43).f1 ≤ 9223372036854775807
theorem one_sp : (⟨#[32]⟩ : ByteArray).size = 1 := rfl
theorem bRow_size (c : S43) (h0 : -9223372036854775808 ≤ c.f0 ∧ c.f0 ≤ 9223372036854775807) (h1 : -9223372036854775808 ≤ c.f1 ∧ c.f1 ≤ 9223372036854775807) : (bRow c).size ≤ c.f2.size + 45 := by
  unfold bRow
  simp only [ByteArray.size_append, one_sp]
  have := bNum_size h0
  have := bNum_size h1
  omega
/-- What both loops do with one change: the text of the change is made. -/
theorem bureau_step {β : Type} (c : S43) (s : ByteArray) (h0 : -9223372036854775808 ≤ c.f0 ∧ c.f0 ≤ 9223372036854775807) (h1 : -9223372036854775808 ≤ c.f1 ∧ c.f1 ≤ 9223372036854775807) (hs : s.size + c.f2.size + 45 ≤ 9223372036854775807) (g : ByteArray → Option β) :
    ((strconv_Itoa.f c.f0).bind fun t => (if 1 + t.size ≤ 9223372036854775807 then (if ((⟨#[32]⟩ : ByteArray) ++ t).size + 1 ≤ 9223372036854775807 then ((strconv_Itoa.f c.f1).bind fun u => (if (((⟨#[32]⟩ : ByteArray) ++ t) ++ (⟨#[32]⟩ : ByteArray)).size + u.size ≤ 9223372036854775807 then (if ((((⟨#[32]⟩ : ByteArray) ++ t) ++ (⟨#[32]⟩ : ByteArray)) ++ u).size + 1 ≤ 9223372036854775807 then (if (((((⟨#[32]⟩ : ByteArray) ++ t) ++ (⟨#[32]⟩ : ByteArray)) ++ u) ++ (⟨#[32]⟩ : ByteArray)).size + c.f2.size ≤ 9223372036854775807 then (if s.size + ((((((⟨#[32]⟩ : ByteArray) ++ t) ++ (⟨#[32]⟩ : ByteArray)) ++ u) ++ (⟨#[32]⟩ : ByteArray)) ++ c.f2).size ≤ 9223372036854775807 then g (s ++ ((((((⟨#[32]⟩ : ByteArray) ++ t) ++ (⟨#[32]⟩ : ByteArray)) ++ u) ++ (⟨#[32]⟩ : ByteArray)) ++ c.f2)) else none) else none) else none) else none)) else none) else none)) = g (s ++ bRow c) := by
  have b0 := bNum_size h0
  have b1 := bNum_size h1
  rw [strconv_Itoa_f h0, Option.bind_some, if_pos (by omega), if_pos (by rw [ByteArray.size_append, one_sp]; omega), strconv_Itoa_f h1, Option.bind_some]
  rw [if_pos (by simp only [ByteArray.size_append, one_sp]; omega), if_pos (by simp only [ByteArray.size_append, one_sp]; omega), if_pos (by simp only [ByteArray.size_append, one_sp]; omega), if_pos (by simp only [ByteArray.size_append, one_sp]; omega)]
  rfl
theorem bureau_Text_l0 (l : List S43) (a : Int) (hl : l.length ≤ 1048576) (hw : bWf l) : ∀ (d i k : Nat) (s : ByteArray), i + d = l.length → d < k → s.size + bSum l d i ≤ 1000000000000 →
    bureau_Text.l0 k a s l (l.length : Int) (i : Int) = some (if (bTxt l a d i s).size > 200 then (⟨#[]⟩, 2) else (bTxt l a d i s, 0)) := by
  intro d
  induction d with
  | zero =>
    intro i k s hi hk hs
    obtain ⟨k, rfl⟩ : ∃ q, k = q + 1 := ⟨k - 1, by omega⟩
    rw [show bTxt l a 0 i s = s from rfl]
    simp only [bureau_Text.l0]
    rw [if_neg (by omega)]
    by_cases h : s.size > 200
    · rw [if_pos h, if_pos (show (s.size : Int) > 200 by omega)]
    · rw [if_neg h, if_neg (show ¬ (s.size : Int) > 200 by omega)]
  | succ d ih =>
    intro i k s hi hk hs
    obtain ⟨k, rfl⟩ : ∃ q, k = q + 1 := ⟨k - 1, by omega⟩
    simp only [bSum] at hs
    rw [show bTxt l a (d + 1) i s = bTxt l a d (i + 1) (if (l.getD i z43).f0 ≥ a then s ++ bRow (l.getD i z43) else s) from rfl]
    obtain ⟨h0, h1⟩ := hw i (by omega)
    simp only [bureau_Text.l0]
    rw [if_pos (by omega), if_pos (by omega), if_pos (by omega), show rd_T43 l (i : Int) = l.getD i z43 from rfl, w64_id (n := (i : Int) + 1) (by omega) (by omega), show (i : Int) + 1 = ((i + 1 : Nat) : Int) from by omega]
    by_cases c : (l.getD i z43).f0 ≥ a
    · rw [if_pos c, if_pos c, bureau_step _ s h0 h1 (by omega) (fun q => bureau_Text.l0 k a q l (l.length : Int) ((i + 1 : Nat) : Int))]
      exact ih (i + 1) k _ (by omega) (by omega) (by have := bRow_size _ h0 h1; rw [ByteArray.size_append]; omega)
    · rw [if_neg c, if_neg c]
      exact ih (i + 1) k _ (by omega) (by omega) (by omega)
/-- The whole text. -/
def bText (s : ByteArray) (l : List S43) (a : Int) : ByteArray := bTxt l a l.length 0 ((s ++ (⟨#[32]⟩ : ByteArray)) ++ bNum a)
/-- The error of a zone and an instant. -/
def bErr (s : ByteArray) (o : Int) (l : List S43) (a : Int) : Int := if znAll s o l = 0 then (if -4000000 ≤ a / 86400000 ∧ a / 86400000 ≤ 4000000 then 0 else 3) else znAll s o l
theorem bureau_Text_f (s : ByteArray) (o : Int) (l : List S43) (a : Int) (hl : l.length ≤ 1048576) (hw : bWf l) (hz : znWf l) (ha : -9223372036854775808 ≤ a ∧ a ≤ 9223372036854775807) (hs : s.size + bSum l l.length 0 ≤ 100000000000) (k : Nat) (hk : 1048600 ≤ k) :
    bureau_Text.f k s o l a = some (if bErr s o l a = 0 then (if (bText s l a).size > 200 then (⟨#[]⟩, 2) else (bText s l a, 0)) else (⟨#[]⟩, bErr s o l a)) := by
  unfold bureau_Text.f bErr
  have hb := bNum_size ha
  rw [zone_Check_f s o l hz k (by omega), Option.bind_some]
  by_cases h1 : znAll s o l = 0
  · rw [if_pos h1, if_pos h1, line_Split_f k (by omega) ha.1 ha.2, Option.bind_some]
    by_cases h2 : -4000000 ≤ a / 86400000 ∧ a / 86400000 ≤ 4000000
    · rw [if_pos h2, if_pos h2, if_pos rfl, if_pos (by omega), strconv_Itoa_f ha, Option.bind_some, if_pos (by rw [ByteArray.size_append, one_sp]; omega), if_pos rfl]
      exact bureau_Text_l0 l a hl hw l.length 0 k _ (by omega) (by omega) (by simp only [ByteArray.size_append, one_sp]; omega)
    · rw [if_neg h2, if_neg h2]; rfl
  · rw [if_neg h1, if_neg h1, if_neg h1]

theorem bureau_l0 (l : List S43) (a : Int) (hl : l.length ≤ 1048576) (hw : bWf l) (x7 : ByteArray) (x8 x9 : Int) : ∀ (d i k : Nat) (s : ByteArray), i + d = l.length → d + 2 < k → s.size + bSum l d i ≤ 1000000000000 →
    ephemerislaw1_BureauTexts.l0 k a x7 x8 x9 s l (l.length : Int) (i : Int) = some (if x9 = 0 then (if (bTxt l a d i s).size > 200 then (x7.toList == [] && x8 == 2) else (x8 == 0 && x7.toList == (bTxt l a d i s).toList)) else (x7.toList == [] && x8 == x9)) := by
  intro d
  induction d with
  | zero =>
    intro i k s hi hk hs
    obtain ⟨k, rfl⟩ : ∃ q, k = q + 2 := ⟨k - 2, by omega⟩
    rw [show bTxt l a 0 i s = s from rfl]
    rw [show k + 2 = (k + 1) + 1 from rfl]
    simp only [ephemerislaw1_BureauTexts.l0]
    rw [if_neg (by omega)]
    by_cases h9 : x9 = 0
    · rw [if_pos h9, if_pos h9]
      by_cases h : s.size > 200
      · rw [if_pos h, decide_eq_true (show (s.size : Int) > 200 by omega)]
        simp only [ephemerislaw1_BureauTexts.j4, if_true]
        rw [if_neg (by decide)]
        by_cases c : x7.toList = []
        · rw [if_pos c, c]; simp
        · rw [if_neg c]; simp [c]
      · rw [if_neg h, decide_eq_false (show ¬ (s.size : Int) > 200 by omega)]
        simp only [ephemerislaw1_BureauTexts.j4, Bool.false_eq_true, if_false]
        rw [if_pos h9]
        by_cases c : x8 = 0
        · rw [if_pos c, c]; simp
        · rw [if_neg c]; simp [c]
    · rw [if_neg h9, if_neg h9]
      simp only [ephemerislaw1_BureauTexts.j4, Bool.false_eq_true, if_false]
      rw [if_neg h9]
      by_cases c : x7.toList = []
      · rw [if_pos c, c]; simp
      · rw [if_neg c]; simp [c]
  | succ d ih =>
    intro i k s hi hk hs
    obtain ⟨k, rfl⟩ : ∃ q, k = q + 1 := ⟨k - 1, by omega⟩
    simp only [bSum] at hs
    rw [show bTxt l a (d + 1) i s = bTxt l a d (i + 1) (if (l.getD i z43).f0 ≥ a then s ++ bRow (l.getD i z43) else s) from rfl]
    obtain ⟨h0, h1⟩ := hw i (by omega)
    simp only [ephemerislaw1_BureauTexts.l0]
    rw [if_pos (by omega), if_pos (by omega), if_pos (by omega), show rd_T43 l (i : Int) = l.getD i z43 from rfl, w64_id (n := (i : Int) + 1) (by omega) (by omega), show (i : Int) + 1 = ((i + 1 : Nat) : Int) from by omega]
    by_cases c : (l.getD i z43).f0 ≥ a
    · rw [if_pos c, if_pos c, bureau_step _ s h0 h1 (by omega) (fun q => ephemerislaw1_BureauTexts.l0 k a x7 x8 x9 q l (l.length : Int) ((i + 1 : Nat) : Int))]
      exact ih (i + 1) k _ (by omega) (by omega) (by have := bRow_size _ h0 h1; rw [ByteArray.size_append]; omega)
    · rw [if_neg c, if_neg c]
      exact ih (i + 1) k _ (by omega) (by omega) (by omega)
theorem bSum_le (l : List S43) : ∀ (d i : Nat), i + d = l.length → bSum l d i = ((l.drop i).map fun v => v.f2.size + 1).sum + 44 * d := by
  intro d
  induction d with
  | zero => intro i hi; rw [List.drop_of_length_le (by omega)]; rfl
  | succ d ih =>
    intro i hi
    simp only [bSum]
    rw [ih (i + 1) (by omega), List.drop_eq_getElem_cons (show i < l.length by omega), List.map_cons, List.sum_cons, List.getD_eq_getElem?_getD, List.getElem?_eq_getElem (show i < l.length by omega), Option.getD_some]
    omega
theorem sum_len (l : List S43) : l.length ≤ (l.map fun v => v.f2.size + 1).sum := by
  induction l with
  | nil => exact Nat.le_refl _
  | cons x r ih => simp only [List.length_cons, List.map_cons, List.sum_cons]; omega
/-- The law over numbers and lists, where the texts that come in are of bulk at most 1048576. -/
theorem BureauTexts (s : ByteArray) (o : Int) (l : List S43) (a : Int) (hs0 : s.size ≤ 140737488351232) (ho : (Lit.int .i64 o).wf = true) (hl0 : l.length * 32 ≤ 140737488351232 ∧ l.length ≤ 9223372036854775807 ∧ ∀ v ∈ l, (Lit.int .i64 v.f0).wf = true ∧ (Lit.int .i64 v.f1).wf = true ∧ v.f2.size ≤ 140737488351232) (ha0 : (Lit.int .i64 a).wf = true)
    (hs : s.size ≤ 1048576) (hsum : (l.map fun v => v.f2.size + 1).sum ≤ 1048576) : ∃ k, ephemerislaw1_BureauTexts.f k s o l a = some true := by
  have hz : znWf l := fun c hc => wf_i64 (hl0.2.2 c hc).1
  have hw : bWf l := by
    intro j hj
    rw [List.getD_eq_getElem?_getD, List.getElem?_eq_getElem hj]
    have := hl0.2.2 _ (List.getElem_mem hj)
    exact ⟨wf_i64 this.1, wf_i64 this.2.1⟩
  have ha := wf_i64 ha0
  have hl : l.length ≤ 1048576 := Nat.le_trans (sum_len l) hsum
  have hbs := bSum_le l l.length 0 (by omega)
  rw [List.drop_zero] at hbs
  have hb := bNum_size ha
  obtain ⟨K, hK⟩ : ∃ K : Nat, 1048700 ≤ K := ⟨_, Nat.le_refl _⟩
  refine ⟨K, ?_⟩
  unfold ephemerislaw1_BureauTexts.f ephemerislaw1_base.f
  rw [Option.bind_some]
  simp only
  have hbw : bWf [(⟨0, 7200000, (⟨#[83, 85, 77]⟩ : ByteArray)⟩ : S43)] := by
    intro j hj
    obtain rfl : j = 0 := by simp at hj; exact hj
    exact ⟨⟨by decide, by decide⟩, by decide, by decide⟩
  have hbz : znWf [(⟨0, 7200000, (⟨#[83, 85, 77]⟩ : ByteArray)⟩ : S43)] := by
    intro c hc
    rw [List.mem_singleton] at hc
    subst hc
    decide
  have hb0 : bErr ⟨#[98, 97, 115, 101]⟩ 3600000 [(⟨0, 7200000, (⟨#[83, 85, 77]⟩ : ByteArray)⟩ : S43)] 0 = 0 := by decide +kernel
  have hb1 : (bText ⟨#[98, 97, 115, 101]⟩ [(⟨0, 7200000, (⟨#[83, 85, 77]⟩ : ByteArray)⟩ : S43)] 0) = ⟨#[98, 97, 115, 101, 32, 48, 32, 48, 32, 55, 50, 48, 48, 48, 48, 48, 32, 83, 85, 77]⟩ := by decide +kernel
  rw [bureau_Text_f _ 3600000 _ 0 (by decide) hbw hbz (by decide) (by decide) K (by omega), if_pos hb0, hb1, if_neg (by decide), Option.bind_some]
  rw [if_pos (by decide +kernel)]
  obtain ⟨k, rfl⟩ : ∃ m, K = m + 3 := ⟨K - 3, by omega⟩
  rw [show k + 3 = (k + 2) + 1 from rfl]
  have e0 : ((0 : Int) != 0) = false := by decide
  simp only [e0, ephemerislaw1_BureauTexts.j0, Bool.false_eq_true, if_false]
  rw [bureau_Text_f s o l a hl hw hz ha (by omega) (k + 2) (by omega), Option.bind_some, ephemerisref1_ZoneError_f s o l hz (k + 2) (by omega), Option.bind_some]
  have hl0' := fun x7 x8 x9 => bureau_l0 l a hl hw x7 x8 x9 l.length 0 k ((s ++ (⟨#[32]⟩ : ByteArray)) ++ bNum a) (by omega) (by omega) (by simp only [ByteArray.size_append, one_sp]; omega)
  have hj2 : ∀ x7 x8 x9, ephemerislaw1_BureauTexts.j2 (k + 1) a x7 x8 x9 s o l = some (if x9 = 0 then (if (bText s l a).size > 200 then (x7.toList == [] && x8 == 2) else (x8 == 0 && x7.toList == (bText s l a).toList)) else (x7.toList == [] && x8 == x9)) := by
    intro x7 x8 x9
    simp only [ephemerislaw1_BureauTexts.j2]
    rw [if_pos (by omega), strconv_Itoa_f ha, Option.bind_some, if_pos (by rw [ByteArray.size_append, one_sp]; omega)]
    exact hl0' x7 x8 x9
  have nil0 : (⟨#[]⟩ : ByteArray).toList = [] := (toList_nil _).2 rfl
  have fin : ∀ e, e = bErr s o l a → ephemerislaw1_BureauTexts.j2 (k + 1) a (if bErr s o l a = 0 then (if (bText s l a).size > 200 then ((⟨#[]⟩ : ByteArray), (2 : Int)) else (bText s l a, 0)) else (⟨#[]⟩, bErr s o l a)).1 (if bErr s o l a = 0 then (if (bText s l a).size > 200 then ((⟨#[]⟩ : ByteArray), (2 : Int)) else (bText s l a, 0)) else (⟨#[]⟩, bErr s o l a)).2 e s o l = some true := by
    intro e he
    subst he
    rw [hj2]
    by_cases h : bErr s o l a = 0
    · rw [if_pos h, if_pos h]
      by_cases c : (bText s l a).size > 200
      · rw [if_pos c, if_pos c, nil0]; rfl
      · rw [if_neg c, if_neg c]; simp
    · rw [if_neg h, if_neg h, nil0]; simp
  rw [show k + 2 = (k + 1) + 1 from rfl]
  by_cases h1 : znAll s o l = 0
  · rw [if_pos h1, ephemerisref1_Instant_f (k + 1 + 1) (by omega) ha.1 ha.2, Option.bind_some]
    by_cases h2 : -4000000 ≤ a / 86400000 ∧ a / 86400000 ≤ 4000000
    · rw [decide_eq_true h2]
      simp only [ephemerislaw1_BureauTexts.j1, Bool.not_true, Bool.false_eq_true, if_false]
      exact fin _ (by unfold bErr; rw [if_pos h1, if_pos h2]; exact h1)
    · rw [decide_eq_false h2]
      simp only [ephemerislaw1_BureauTexts.j1, Bool.not_false, if_true]
      exact fin _ (by unfold bErr; rw [if_pos h1, if_neg h2])
  · rw [if_neg h1]
    simp only [ephemerislaw1_BureauTexts.j1, Bool.false_eq_true, if_false]
    exact fin _ (by unfold bErr; rw [if_neg h1])
end Go.Proofs.YtolhlaadhfilnaaDoor.Pure
