/- The law LunisolarFromDays over numbers and lists: what the law's functions tell, and that the law holds. -/
import Derived.Test.YtlefdgllpdbkjaaPLunisolarFromDaysx15
import Derived.Test.YtlefdgllpdbkjaaM
import Derived.Test.YtlefdgllpdbkjaaT
import Derived.Test.YtlefdgllpdbkjaaF
import Derived.Test.YtlefdgllpdbkjaaL
import Derived.Test.YtlefdgllpdbkjaaP
import Derived.Test.YtlefdgllpdbkjaaB
import Derived.Test.YtlefdgllpdbkjaaQ
import Derived.Test.YtlefdgllpdbkjaaN
import Derived.Test.YtlefdgllpdbkjaaO
namespace Go.Proofs.Ytlefdgllpdbkjaa.Pure
open Go.RowKit Go.Proofs.Ytlefdgllpdbkjaa.PLunisolarFromDays Go.Proofs.YtlefdgllpdbkjaaW.PrintWords Go.Proofs.YtlefdgllpdbkjaaW.PrintLast Go.Proofs.Ytlefdgllpdbkjaa.M Go.Proofs.Ytlefdgllpdbkjaa.T Go.Proofs.Ytlefdgllpdbkjaa.F Go.Proofs.Ytlefdgllpdbkjaa.L Go.Proofs.Ytlefdgllpdbkjaa.P Go.Proofs.Ytlefdgllpdbkjaa.B Go.Proofs.Ytlefdgllpdbkjaa.Q Go.Proofs.Ytlefdgllpdbkjaa.N Go.Proofs.Ytlefdgllpdbkjaa.O
set_option linter.unusedVariables false
set_option linter.unusedSimpArgs false
/-- The law over numbers and lists. -/
def ephemerislaw1_LunisolarFromDays.Pure : Prop := ∀ (a0_0 : ByteArray) (a0_1 : Int) (a0_2 : Int) (a0_3 : Int) (a0_4 : Int) (a0_5 : Int) (a0_6 : Int) (a0_7 : Int) (a0_8 : Int) (l0_9 : List (Int)) (l0_10 : List (Int)) (a1 : Int), a0_0.size ≤ 140737488351232 → (Lit.int .i64 a0_1).wf = true → (Lit.int .i64 a0_2).wf = true → (Lit.int .i64 a0_3).wf = true → (Lit.int .i64 a0_4).wf = true → (Lit.int .i64 a0_5).wf = true → (Lit.int .i64 a0_6).wf = true → (Lit.int .i64 a0_7).wf = true → (Lit.int .i64 a0_8).wf = true → (l0_9.length * 8 ≤ 140737488351232 ∧ l0_9.length ≤ 9223372036854775807 ∧ ∀ v ∈ l0_9, (Lit.int .i64 v).wf = true) → (l0_10.length * 8 ≤ 140737488351232 ∧ l0_10.length ≤ 9223372036854775807 ∧ ∀ v ∈ l0_10, (Lit.int .i64 v).wf = true) → (Lit.int .i64 a1).wf = true → ∃ k, ephemerislaw1_LunisolarFromDays.f k a0_0 a0_1 a0_2 a0_3 a0_4 a0_5 a0_6 a0_7 a0_8 l0_9 l0_10 a1 = some true

theorem ephemerisref1_In_f (x lo hi : Int) : ephemerisref1_In.f x lo hi = some (decide (lo ≤ x ∧ x ≤ hi)) := by
 unfold ephemerisref1_In.f
 by_cases h : x ≥ lo
 ·rw [if_pos h]; congr 1; simp; omega
 ·rw [if_neg h]; congr 1; simp; omega

theorem ephemerisref1_Day_f (x : Int) : ephemerisref1_Day.f x = some (decide (-4000000 ≤ x ∧ x ≤ 4000000)) := by
 unfold ephemerisref1_Day.f
 rw [ephemerisref1_In_f]; rfl

theorem ephemerislaw1_plainMoon_f : ephemerislaw1_plainMoon.f = some ((⟨#[112, 108, 97, 105, 110]⟩ : ByteArray), 1, 0, 1, 59, 2, 1, 1, 1, ([] : List Int), ([] : List Int)) := rfl

theorem ephemerisref1_Name_l0 (s : ByteArray) (hs : s.size ≤ 12) : ∀ (d i k : Nat), i + d = s.size → d < k →
  ephemerisref1_Name.l0 k s (s.size : Int) (i : Int) = some (noWord s && letters (s.data.toList.drop i)) := by
 intro d
 induction d with
 | zero =>
  intro i k hi hk
  obtain ⟨k, rfl⟩ : ∃ m, k = m + 1 := ⟨k - 1, by omega⟩
  obtain rfl : i = s.size := by omega
  simp only [ephemerisref1_Name.l0]
  rw [if_neg (by omega), letters_end, Bool.and_true]
  unfold noWord
  by_cases c1 : s.toList = [121]
  ·rw [if_pos c1]; simp [c1]
  rw [if_neg c1, bne_iff_ne.2 c1]
  by_cases c2 : s.toList = [97, 110, 100]
  ·rw [if_pos c2]; simp [c2]
  rw [if_neg c2, bne_iff_ne.2 c2]
  by_cases c3 : s.toList = [111, 114]
  ·rw [if_pos c3]; simp [c3]
  rw [if_neg c3, bne_iff_ne.2 c3]
  rfl
 | succ d ih =>
  intro i k hi hk
  obtain ⟨k, rfl⟩ : ∃ m, k = m + 1 := ⟨k - 1, by omega⟩
  simp only [ephemerisref1_Name.l0]
  rw [if_pos (by omega), if_pos (by omega), if_pos (by omega), letters_cons s i (by omega)]
  by_cases c1 : bt s i < 97
  ·rw [if_pos c1, decide_eq_false (show ¬ 97 ≤ bt s i by omega)]; simp
  rw [if_neg c1, decide_eq_true (show 97 ≤ bt s i by omega)]
  by_cases c2 : bt s i > 122
  ·rw [if_pos c2, decide_eq_false (show ¬ bt s i ≤ 122 by omega)]; simp
  rw [if_neg c2, decide_eq_true (show bt s i ≤ 122 by omega), w64_id (by omega) (by omega)]
  have := ih (i + 1) k (by omega) (by omega)
  rw [show ((i + 1 : Nat) : Int) = (i : Int) + 1 from by omega] at this
  rw [this]; simp
theorem ephemerisref1_Name_f (s : ByteArray) (k : Nat) (hk : 20 ≤ k) : ephemerisref1_Name.f k s = some (isName s) := by
 obtain ⟨k, rfl⟩ : ∃ m, k = m + 1 := ⟨k - 1, by omega⟩
 unfold ephemerisref1_Name.f isName
 by_cases h1 : s.toList = []
 ·rw [if_pos h1, decide_eq_false (show ¬ 1 ≤ s.size by have := (toList_nil s).1 h1; omega)]
  simp [ephemerisref1_Name.j0]
 have h1' : ¬ s.size = 0 := fun h => h1 ((toList_nil s).2 h)
 rw [if_neg h1, decide_eq_true (show 1 ≤ s.size by omega)]
 simp only [ephemerisref1_Name.j0, decide_eq_true_eq]
 by_cases h2 : (s.size : Int) > 12
 ·rw [if_pos h2, decide_eq_false (show ¬ s.size ≤ 12 by omega)]; rfl
 rw [if_neg h2, decide_eq_true (show s.size ≤ 12 by omega)]
 exact ephemerisref1_Name_l0 s (by omega) s.size 0 k (by omega) (by omega)

theorem ephemerisref1_Size_f {a : Int} (h0 : -9223372036854775808 ≤ a) (h1 : a ≤ 9223372036854775807) : ephemerisref1_Size.f a = some (ab a) := by
 unfold ephemerisref1_Size.f ab
 by_cases c : a < 0
 ·rw [if_pos c, if_pos c, w64_id (n := a + 1) (by omega) (by omega), w64_id (n := -(a + 1)) (by omega) (by omega), u64_id (n := -(a + 1)) (by omega) (by omega), u64_id (by omega) (by omega)]
  congr 1; omega
 ·rw [if_neg c, if_neg c, u64_id (by omega) (by omega)]

theorem ephemerisref1_Div_l0 (X Y : Int) (hX : 0 ≤ X) (hX1 : X < 18446744073709551616) (hY : 0 < Y) (hY1 : Y ≤ 9223372036854775808) :
  ∀ (n k : Nat), n ≤ 64 → n < k → ephemerisref1_Div.l0 k X Y (X / 2 ^ n / Y * 2 ^ n) (X / 2 ^ n % Y) ((n : Int) - 1) = some (X / Y, X % Y) := by
 intro n
 induction n with
 | zero =>
  intro k _ hk
  obtain ⟨k, rfl⟩ : ∃ m, k = m + 1 := ⟨k - 1, by omega⟩
  simp only [ephemerisref1_Div.l0]
  rw [if_neg (by omega)]
  simp
 | succ n ih =>
  intro k hn hk
  obtain ⟨k, rfl⟩ : ∃ m, k = m + 1 := ⟨k - 1, by omega⟩
  have ih := ih k (by omega) (by omega)
  have hhp := half_pow X n
  have hpow : (2 : Int) ^ (n + 1) = 2 * 2 ^ n := by rw [Int.pow_succ, Int.mul_comm]
  have hpp := pow_pos' n
  have hp63 := pow_le_63 n (by omega)
  have hd1 := div_pow_le X Y (n + 1) hX hY
  have hd0 := div_pow_le X Y n hX hY
  have hz : 0 ≤ X / 2 ^ n := Int.ediv_nonneg hX (by omega)
  obtain ⟨s1, s2⟩ := long_step (X / 2 ^ n) Y hz hY
  rw [← hhp] at s1 s2
  have r0 := Int.emod_nonneg (X / 2 ^ (n + 1)) (b := Y) (by omega)
  have r1 := Int.emod_lt_of_pos (X / 2 ^ (n + 1)) hY
  have hshr : shr .u64 X ((n : Int) + 1 - 1) = X / 2 ^ n := by
   rw [show (n : Int) + 1 - 1 = n from by omega]; exact shr_pow X n (by omega)
  have hshl : shl .u64 1 ((n : Int) + 1 - 1) = 2 ^ n := by
   rw [show (n : Int) + 1 - 1 = n from by omega]; exact shl_one n (by omega)
  have hzx : X / 2 ^ n ≤ X := Int.ediv_le_self _ hX
  have hmod : (X / 2 ^ (n + 1) / Y * 2 ^ (n + 1)) % 2 ^ (n + 1) = 0 := Int.mul_emod_left _ _
  have hor : Go.bits .or .u64 (X / 2 ^ (n + 1) / Y * 2 ^ (n + 1)) (2 ^ n) = X / 2 ^ (n + 1) / Y * 2 ^ (n + 1) + 2 ^ n :=
   or_join (n + 1) _ _ hd1.1 (by omega) hmod (by omega) (by omega) (by omega)
  have q2 : X / 2 ^ (n + 1) / Y * 2 ^ (n + 1) = 2 * (X / 2 ^ (n + 1) / Y) * 2 ^ n := by
   rw [hpow, Int.mul_comm 2 (X / (2 * 2 ^ n) / Y), Int.mul_assoc]
  generalize hR : X / 2 ^ (n + 1) % Y = R at *
  generalize hQ : X / 2 ^ (n + 1) / Y * 2 ^ (n + 1) = Q at *
  simp only [ephemerisref1_Div.l0]
  rw [show (((n + 1 : Nat) : Int) - 1) = (n : Int) + 1 - 1 from by omega]
  rw [if_pos (by omega), hshr, hshl, hor, w64_id (n := (n : Int) + 1 - 1 - 1) (by omega) (by omega), show (n : Int) + 1 - 1 - 1 = (n : Int) - 1 from by omega]
  rw [and_one _ hz (by omega), u64_id (n := R * 2) (by omega) (by omega)]
  have hbit := Int.emod_nonneg (X / 2 ^ n) (b := 2) (by omega)
  have hbit1 := Int.emod_lt_of_pos (X / 2 ^ n) (b := 2) (by omega)
  rw [or_join 1 (R * 2) _ (by omega) (by omega) (by simp only [Int.reducePow]; omega) hbit (by simp only [Int.reducePow]; omega) (by omega)]
  rw [if_neg (by omega)]
  rw [show R * 2 + X / 2 ^ n % 2 = 2 * R + X / 2 ^ n % 2 from by omega]
  by_cases c : Y ≤ 2 * R + X / 2 ^ n % 2
  ·rw [if_pos c, u64_id (by omega) (by omega)]
   have e := s1 c
   rw [e.1, e.2, Int.add_mul, Int.one_mul, ← q2] at ih
   exact ih
  ·rw [if_neg c]
   have e := s2 c
   rw [e.1, e.2, ← q2] at ih
   exact ih
theorem ephemerisref1_Div_f {a b : Int} (k : Nat) (hk : 65 ≤ k) (ha : -9223372036854775808 ≤ a) (ha1 : a ≤ 9223372036854775807) (hb : -9223372036854775808 ≤ b) (hb1 : b ≤ 9223372036854775807) : ephemerisref1_Div.f k a b = some (divs a b) := by
 unfold ephemerisref1_Div.f
 by_cases c : b = 0
 ·rw [if_pos c]; unfold divs; rw [if_pos c]
 rw [if_neg c, ephemerisref1_Size_f ha ha1, ephemerisref1_Size_f hb hb1]
 simp only [Option.bind_some]
 have hX := ab_nonneg a
 have hX1 := ab_le ha ha1
 have hY1 := ab_le hb hb1
 have hY : 0 < ab b := by unfold ab; split <;> omega
 have h64 := ephemerisref1_Div_l0 (ab a) (ab b) hX (by omega) hY hY1 64 k (by omega) (by omega)
 have hz : ab a / 2 ^ 64 = 0 := Int.ediv_eq_zero_of_lt hX (by simp only [Int.reducePow]; omega)
 rw [hz] at h64
 simp only [Int.zero_ediv, Int.zero_mul, Int.zero_emod] at h64
 rw [show (((64 : Nat) : Int) - 1) = 63 from by omega] at h64
 rw [h64]
 simp only [Option.bind_some, Option.some.injEq]
 have h1 := Int.mul_ediv_add_emod (ab a) (ab b)
 have h2 := Int.emod_nonneg (ab a) (b := ab b) (by omega)
 have h3 := Int.emod_lt_of_pos (ab a) hY
 have h4 : ab a / ab b ≤ ab a := Int.ediv_le_self _ hX
 have h5 : 0 ≤ ab a / ab b := Int.ediv_nonneg hX (by omega)
 have h6 : 2 ≤ ab b → ab a / ab b ≤ 4611686018427387904 := fun h => by
  have : ab a / ab b ≤ ab a / 2 := by
   have := Int.ediv_le_ediv (c := 2) (by omega) (a := ab a / ab b * 2) (b := ab a) (by
    have : ab a / ab b * 2 ≤ ab a / ab b * ab b := Int.mul_le_mul_of_nonneg_left h h5
    rw [Int.mul_comm (ab b)] at h1
    omega)
   omega
  omega
 have h7 : ab b = 1 → ab a / ab b = ab a ∧ ab a % ab b = 0 := fun h => by rw [h]; omega
 have uniq : ∀ {q r : Int}, a = b * q + r → (0 < b → 0 ≤ r ∧ r < b) → (b < 0 → b < r ∧ r ≤ 0) → ¬ (a = -9223372036854775808 ∧ b = -1) → divs a b = (q, r, 0) := by
  intro q r e1 e2 e3 e4
  have := fd_uniq e1 e2 e3 c
  unfold divs
  rw [if_neg c, if_neg e4, this.1, this.2]
 generalize hq : ab a / ab b = q at *
 generalize hr : ab a % ab b = r at *
 clear h64 hz
 have eY : ∀ s : Int, (-(ab b)) * s = -(ab b * s) := fun s => by rw [Int.neg_mul]
 by_cases sa : a < 0 <;> by_cases sb : b < 0
 ·have xa : a = -(ab a) := by unfold ab; rw [if_pos sa]; omega
  have xb : b = -(ab b) := by unfold ab; rw [if_pos sb]; omega
  simp only [ephemerisref1_Div.e0, ephemerisref1_Div.e1, sa, sb, decide_true, bne_self_eq_false, Bool.false_eq_true, false_and, if_false, true_and, if_true]
  by_cases c2 : q > 9223372036854775807
  ·rw [if_pos c2]
   unfold divs
   have : ab b = 1 := by
    by_cases h : 2 ≤ ab b
    ·have := h6 h; omega
    ·omega
   rw [if_neg c, if_pos (by omega)]
  ·rw [if_neg c2, w64_id (by omega) (by omega), u64_def, w64_def]
   rw [uniq (q := q) (r := -r) (by rw [xb, eY]; omega) (by omega) (by omega) (fun h => by have := h7 (by omega); omega)]
   congr 2; omega
 ·have xa : a = -(ab a) := by unfold ab; rw [if_pos sa]; omega
  have xb : b = ab b := by unfold ab; rw [if_neg sb]
  simp only [ephemerisref1_Div.e0, ephemerisref1_Div.e1, sa, sb, decide_true, decide_false, Bool.bne_false, Bool.false_eq_true, true_and, if_true, Bool.true_eq_false, false_and, if_false]
  by_cases c2 : r = 0
  ·rw [if_neg (fun h => h c2), u64_def, w64_def, w64_id (by omega) (by omega)]
   rw [uniq (q := -q) (r := 0) (by rw [xb, Int.mul_neg]; omega) (by omega) (by omega) (by omega)]
   rw [c2]
   congr 1; omega
  ·rw [if_pos c2, u64_id (n := q + 1) (by omega) (by omega), u64_id (n := ab b - r) (by omega) (by omega), u64_def, w64_def, w64_id (by omega) (by omega)]
   have : q ≤ 9223372036854775807 := by
    by_cases h : 2 ≤ ab b
    ·have := h6 h; omega
    ·have := h7 (by omega); omega
   have eb : b * q = ab b * q := by rw [← xb]
   rw [uniq (q := -(q + 1)) (r := ab b - r) (by rw [Int.mul_neg, Int.mul_add, Int.mul_one, eb]; omega) (by omega) (by omega) (by omega)]
   congr 1; omega
 ·have xa : a = ab a := by unfold ab; rw [if_neg sa]
  have xb : b = -(ab b) := by unfold ab; rw [if_pos sb]; omega
  simp only [ephemerisref1_Div.e0, ephemerisref1_Div.e1, sa, sb, decide_true, decide_false, Bool.bne_true, Bool.not_false, Bool.false_eq_true, true_and, if_true, Bool.true_eq_false, false_and, if_false]
  by_cases c2 : r = 0
  ·rw [if_neg (fun h => h c2), u64_def, w64_def, u64_def, w64_def]
   rw [uniq (q := -q) (r := 0) (by rw [xb, eY, Int.mul_neg]; omega) (by omega) (by omega) (by omega)]
   rw [c2]
   congr 1
   omega
  ·rw [if_pos c2, u64_id (n := q + 1) (by omega) (by omega), u64_id (n := ab b - r) (by omega) (by omega), u64_def, w64_def, u64_def, w64_def]
   have eb := eY q
   rw [← xb] at eb
   rw [uniq (q := -(q + 1)) (r := -(ab b - r)) (by rw [Int.mul_neg, Int.mul_add, Int.mul_one, eb]; omega) (by omega) (by omega) (by omega)]
   congr 1
   ·omega
   ·congr 1; omega
 ·have xa : a = ab a := by unfold ab; rw [if_neg sa]
  have xb : b = ab b := by unfold ab; rw [if_neg sb]
  simp only [ephemerisref1_Div.e0, ephemerisref1_Div.e1, sa, sb, decide_false, bne_self_eq_false, Bool.false_eq_true, false_and, if_false, true_and]
  rw [if_neg (by omega), w64_id (by omega) (by omega), w64_id (by omega) (by omega)]
  rw [uniq (q := q) (r := r) (by rw [xb]; omega) (by omega) (by omega) (by omega)]

theorem ephemerisref1_Floor_f {a b : Int} (k : Nat) (hk : 65 ≤ k) (ha : -9223372036854775808 ≤ a) (ha1 : a ≤ 9223372036854775807) (hb : 0 < b) (hb1 : b ≤ 9223372036854775807) : ephemerisref1_Floor.f k a b = some (a / b) := by
 unfold ephemerisref1_Floor.f
 rw [ephemerisref1_Div_f k hk ha ha1 (by omega) hb1, divs_pos hb]
 rfl

theorem ephemerisref1_Num_f (x : Int) : ephemerisref1_Num.f x = some (decide (-2147483647 ≤ x ∧ x ≤ 2147483647)) := by
 unfold ephemerisref1_Num.f
 rw [ephemerisref1_In_f]; rfl

theorem shl_gcd (g t : Nat) (h : g * 2 ^ t < 18446744073709551616) (ht : t ≤ 64) : shl .u64 (g : Int) (t : Int) = ((g * 2 ^ t : Nat) : Int) := by
 unfold shl
 rw [show ((t : Int).toNat) = t from by omega, Nat.min_eq_left (by simp [IntKind.bits]; omega)]
 rw [show (g : Int) * 2 ^ t = ((g * 2 ^ t : Nat) : Int) from by simp]
 exact u64_id (by omega) (by omega)
theorem gcd_half {x y : Nat} (hx : x % 2 = 0) (hy : y % 2 = 1) : Nat.gcd (x / 2) y = Nat.gcd x y := by
 have hc : Nat.Coprime 2 y := by
  unfold Nat.Coprime
  rw [Nat.gcd_rec, hy]; rfl
 have := Nat.Coprime.gcd_mul_left_cancel (k := 2) (n := y) (x / 2) hc
 rw [show 2 * (x / 2) = x from by omega] at this
 exact this.symm
theorem ephemerisref1_Gcd_l1 : ∀ (n k x y t : Nat), x + y ≤ n → n < k → 0 < x → 0 < y → x < 18446744073709551616 → y < 18446744073709551616 → (x % 2 = 1 ∨ y % 2 = 1) →
  ephemerisref1_Gcd.l1 k (x : Int) (y : Int) (t : Int) = some (shl .u64 (Nat.gcd x y : Int) (t : Int)) := by
 intro n
 induction n with
 | zero => intro k x y t h; omega
 | succ n ih =>
  intro k x y t h hk hx hy hx1 hy1 ho
  obtain ⟨k, rfl⟩ : ∃ m, k = m + 1 := ⟨k - 1, by omega⟩
  simp only [ephemerisref1_Gcd.l1]
  by_cases c : x = y
  ·subst c
   rw [if_pos rfl, if_pos (by omega), Nat.gcd_self]
  rw [if_neg (by omega), and_one _ (by omega) (by omega), and_one _ (by omega) (by omega)]
  by_cases c1 : x % 2 = 0
  ·rw [if_pos (by omega), show (x : Int) / 2 = ((x / 2 : Nat) : Int) from by omega, ih k (x / 2) y t (by omega) (by omega) (by omega) hy (by omega) hy1 (by omega), gcd_half c1 (by omega)]
  rw [if_neg (by omega)]
  by_cases c2 : y % 2 = 0
  ·rw [if_pos (by omega), show (y : Int) / 2 = ((y / 2 : Nat) : Int) from by omega, ih k x (y / 2) t (by omega) (by omega) hx (by omega) hx1 (by omega) (by omega), Nat.gcd_comm x, gcd_half c2 (by omega), Nat.gcd_comm y]
  rw [if_neg (by omega)]
  by_cases c3 : x > y
  ·rw [if_pos (by omega), u64_id (by omega) (by omega), show (x : Int) - y = ((x - y : Nat) : Int) from by omega, ih k (x - y) y t (by omega) (by omega) (by omega) hy (by omega) hy1 (by omega)]
   have := Nat.gcd_add_self_left (m := y) (n := x - y)
   rw [show x - y + y = x from by omega] at this
   rw [this]
  ·rw [if_neg (by omega), u64_id (by omega) (by omega), show (y : Int) - x = ((y - x : Nat) : Int) from by omega, ih k x (y - x) t (by omega) (by omega) hx (by omega) hx1 (by omega) (by omega)]
   have := Nat.gcd_add_self_left (m := x) (n := y - x)
   rw [show y - x + x = y from by omega] at this
   rw [Nat.gcd_comm x, ← this, Nat.gcd_comm y]
theorem ephemerisref1_Gcd_l0 : ∀ (n k x y t : Nat), x + y ≤ n → n + 36893488147419103240 < k → 0 < x → 0 < y → x < 18446744073709551616 → y < 18446744073709551616 → t ≤ 64 → Nat.gcd x y * 2 ^ t < 18446744073709551616 →
  ephemerisref1_Gcd.l0 k (x : Int) (y : Int) (t : Int) = some ((Nat.gcd x y * 2 ^ t : Nat) : Int) := by
 intro n
 induction n with
 | zero => intro k x y t h; omega
 | succ n ih =>
  intro k x y t h hk hx hy hx1 hy1 ht hg
  obtain ⟨k, rfl⟩ : ∃ m, k = m + 1 := ⟨k - 1, by omega⟩
  simp only [ephemerisref1_Gcd.l0]
  rw [and_one _ (by omega) (by omega), and_one _ (by omega) (by omega)]
  have last : (x % 2 = 1 ∨ y % 2 = 1) → ephemerisref1_Gcd.j2 k (x : Int) (y : Int) (t : Int) = some ((Nat.gcd x y * 2 ^ t : Nat) : Int) := fun ho => by
   obtain ⟨k, rfl⟩ : ∃ m, k = m + 1 := ⟨k - 1, by omega⟩
   simp only [ephemerisref1_Gcd.j2]
   rw [ephemerisref1_Gcd_l1 36893488147419103232 k x y t (by omega) (by omega) hx hy hx1 hy1 ho, shl_gcd _ _ hg ht]
  by_cases c1 : x % 2 = 0
  ·rw [if_pos (by omega)]
   by_cases c2 : y % 2 = 0
   ·have e : Nat.gcd x y = 2 * Nat.gcd (x / 2) (y / 2) := by
     rw [← Nat.gcd_mul_left, show 2 * (x / 2) = x from by omega, show 2 * (y / 2) = y from by omega]
    have e2 : Nat.gcd x y * 2 ^ t = Nat.gcd (x / 2) (y / 2) * 2 ^ (t + 1) := by
     rw [e, Nat.pow_succ, Nat.mul_comm 2, Nat.mul_assoc, Nat.mul_comm 2]
    have hp : 0 < Nat.gcd (x / 2) (y / 2) := Nat.gcd_pos_of_pos_left _ (by omega)
    have ht1 : t + 1 ≤ 64 := by
     rcases Nat.lt_or_ge (t + 1) 65 with h | h
     ·omega
     ·exfalso
      have h1 : 2 ^ 65 ≤ 2 ^ (t + 1) := Nat.pow_le_pow_right (by decide) h
      have h2 : 1 * 2 ^ (t + 1) ≤ Nat.gcd (x / 2) (y / 2) * 2 ^ (t + 1) := Nat.mul_le_mul_right _ hp
      have h3 : (2 : Nat) ^ 65 = 36893488147419103232 := by decide
      omega
    rw [if_pos (by omega), w64_id (by omega) (by omega), show (x : Int) / 2 = ((x / 2 : Nat) : Int) from by omega, show (y : Int) / 2 = ((y / 2 : Nat) : Int) from by omega, show (t : Int) + 1 = ((t + 1 : Nat) : Int) from by omega]
    rw [ih k (x / 2) (y / 2) (t + 1) (by omega) (by omega) (by omega) (by omega) (by omega) (by omega) ht1 (by omega), e2]
   ·rw [if_neg (by omega)]; exact last (by omega)
  ·rw [if_neg (by omega)]; exact last (by omega)
theorem gcdr_ab (a b : Int) : Nat.gcd (ab a).toNat (ab b).toNat = Int.gcd a b := by
 have h : ∀ c : Int, (ab c).toNat = c.natAbs := fun c => by unfold ab; split <;> omega
 rw [h, h]; rfl
theorem ephemerisref1_Gcd_f {a b : Int} (k : Nat) (hk : 100000000000000000000 ≤ k) (ha : -9223372036854775808 ≤ a) (ha1 : a ≤ 9223372036854775807) (hb : -9223372036854775808 ≤ b) (hb1 : b ≤ 9223372036854775807) :
  ephemerisref1_Gcd.f k a b = some (Int.gcd a b : Int) := by
 obtain ⟨k, rfl⟩ : ∃ m, k = m + 1 := ⟨k - 1, by omega⟩
 unfold ephemerisref1_Gcd.f
 rw [ephemerisref1_Size_f ha ha1, ephemerisref1_Size_f hb hb1]
 simp only [Option.bind_some]
 have e1 := ab_nonneg a
 have e2 := ab_nonneg b
 have e3 := ab_le ha ha1
 have e4 := ab_le hb hb1
 have hg := gcdr_ab a b
 by_cases c : ab a = 0
 ·rw [if_pos c]
  simp only [ephemerisref1_Gcd.j0, if_true]
  rw [u64_id (by omega) (by omega)]
  rw [c] at hg
  simp only [Int.toNat_zero, Nat.gcd_zero_left] at hg
  congr 1; omega
 rw [if_neg c]
 simp only [ephemerisref1_Gcd.j0, beq_iff_eq]
 by_cases c2 : ab b = 0
 ·rw [if_pos c2, u64_id (by omega) (by omega)]
  rw [c2] at hg
  simp only [Int.toNat_zero, Nat.gcd_zero_right] at hg
  congr 1; omega
 rw [if_neg c2]
 have hle := Nat.gcd_le_left (ab b).toNat (show 0 < (ab a).toNat by omega)
 have := ephemerisref1_Gcd_l0 36893488147419103232 k (ab a).toNat (ab b).toNat 0 (by omega) (by omega) (by omega) (by omega) (by omega) (by omega) (by omega) (by omega)
 rw [hg, Int.toNat_of_nonneg e1, Int.toNat_of_nonneg e2, Nat.pow_zero, Nat.mul_one] at this
 exact this

theorem ephemerisref1_FracOK_f {n d : Int} (k : Nat) (hk : 100000000000000000000 ≤ k) : ephemerisref1_FracOK.f k n d = some (fracOK n d) := by
 unfold ephemerisref1_FracOK.f fracOK
 rw [ephemerisref1_In_f, ephemerisref1_Num_f, Option.bind_some, Option.bind_some]
 simp only [decide_eq_true_eq]
 by_cases c : 1 ≤ d ∧ d ≤ 2147483647
 ·rw [if_pos c]
  by_cases c2 : -2147483647 ≤ n ∧ n ≤ 2147483647
  ·rw [if_pos c2, ephemerisref1_Gcd_f k hk (by omega) (by omega) (by omega) (by omega), Option.bind_some]
   congr 1
   by_cases c3 : Int.gcd n d = 1
   ·rw [c3, decide_eq_true ⟨c, c2, rfl⟩]; rfl
   ·rw [decide_eq_false (fun h => c3 h.2.2)]
    exact beq_eq_false_iff_ne.2 (by omega)
  ·rw [if_neg c2, decide_eq_false (fun h => c2 h.2.1)]
 ·rw [if_neg c, decide_eq_false (fun h => c h.1)]

theorem ephemerisref1_Parts_f (name : ByteArray) (ep sn sd mn' md ln ld cy : Int) (lp av : List Int) (h : moonFrac sn sd mn' md ln ld) (k : Nat) (hk : 100000000000000000010 ≤ k) : ephemerisref1_Parts.f k name ep sn sd mn' md ln ld cy lp av = some (parts3 sd md ld) := by
 obtain ⟨k, rfl⟩ : ∃ m, k = m + 3 := ⟨k - 3, by omega⟩
 obtain ⟨⟨h1, h2⟩, h3⟩ := h
 have b1 := okNum h1; have b2 := okNum h2; have b3 := okNum h3
 have w1 : wrap64 (0 + 1) = 1 := w64_id (by decide) (by decide)
 have w2 : wrap64 (1 + 1) = 2 := w64_id (by decide) (by decide)
 have r0 : rd [md, ld] 0 = md := rfl
 have r1 : rd [md, ld] 1 = ld := rfl
 have len : (([md, ld] : List Int).length : Int) = 2 := rfl
 have one : ∀ (n d : Int) (k : Nat), 100000000000000000000 ≤ k → 1 ≤ n → n ≤ 1000000 → 1 ≤ d → d ≤ 1000000 → ephemerisref1_Gcd.f k n d = some (Int.gcd n d : Int) ∧ wrap64 (Int.gcd n d : Int) = (Int.gcd n d : Int) ∧ wrap64 (wrap64 (Int.tdiv n (Int.gcd n d : Int)) * d) = lcmD n d ∧ ¬ (Int.gcd n d : Int) = 0 := by
  intro n d k hk n1 n2 d1 d2
  obtain ⟨g1, g2, g3, g4, g5, g6, g7⟩ := lcmD_facts n1 d1
  have hm := mul_lt (n := 1000000) (m := 1000000) (show 0 ≤ n by omega) n2 (show 0 ≤ d by omega) d2
  refine ⟨ephemerisref1_Gcd_f k hk (by omega) (by omega) (by omega) (by omega), w64_id (by omega) (by omega), ?_, by omega⟩
  rw [Int.tdiv_eq_ediv_of_nonneg (by omega), w64_id (n := n / _) (by omega) (by omega)]
  unfold lcmD at *; exact w64_id (by omega) (by omega)
 unfold ephemerisref1_Parts.f
 rw [Option.bind_some, len]
 simp only [ephemerisref1_Parts.l0, r0, r1, len, w1, w2, if_pos (show (0 : Int) < 2 by decide), if_pos (show (1 : Int) < 2 by decide), if_neg (show ¬ (2 : Int) < 2 by decide), if_pos (show (0 : Int) ≤ 0 by decide), if_pos (show (0 : Int) ≤ 1 by decide)]
 unfold parts3
 by_cases c1 : sd ≤ 1000000
 rotate_left
 ·rw [if_pos (by omega), if_neg c1]
 rw [if_neg (by omega), if_pos c1]
 obtain ⟨g1, g2, g3, g4, g5, g6, g7⟩ := lcmD_facts (n := sd) (d := md) (by omega) (by omega)
 by_cases c2 : md ≤ 1000000
 rotate_left
 ·rw [if_pos (by omega), if_neg (by omega)]
 rw [if_neg (by omega)]
 obtain ⟨e1, e2, e3, e4⟩ := one sd md (k + 2) (by omega) (by omega) (by omega) (by omega) (by omega)
 rw [e1, Option.bind_some, e2, if_neg e4, e3]
 by_cases c3 : lcmD sd md ≤ 1000000
 rotate_left
 ·rw [if_pos (by omega), if_neg c3]
 rw [if_neg (by omega), if_pos c3]
 obtain ⟨g1, g2, g3, g4, g5, g6', g7⟩ := lcmD_facts (n := lcmD sd md) (d := ld) (by omega) (by omega)
 by_cases c4 : ld ≤ 1000000
 rotate_left
 ·rw [if_pos (by omega), if_neg (by omega)]
 rw [if_neg (by omega)]
 obtain ⟨e1, e2, e3, e4⟩ := one (lcmD sd md) ld (k + 1) (by omega) (by omega) (by omega) (by omega) (by omega)
 rw [e1, Option.bind_some, e2, if_neg e4, e3]
 by_cases c5 : lcmD (lcmD sd md) ld ≤ 1000000
 ·rw [if_neg (by omega), if_pos c5]
 ·rw [if_pos (by omega), if_neg c5]

/-- Is the number not above the one before it? -/
def tooLow : Option Int → Int → Bool
 | none, _ => false
 | some q, x => decide (x ≤ q)
theorem tooLow_prev (l : List Int) (i : Nat) (x : Int) : tooLow (prevN l i) x = (decide (0 < (i : Int)) && decide (x ≤ rd l ((i : Int) - 1))) := by
 unfold prevN
 split
 ·subst_vars; rfl
 ·rw [decide_eq_true (show 0 < (i : Int) by omega)]; rfl
/-- Rising numbers within bounds: the first fault. -/
def riseFrom (lo hi : Int) : Option Int → List Int → Int
 | _, [] => 0
 | p, x :: t => if lo ≤ x ∧ x ≤ hi then (if tooLow p x = true then 9 else riseFrom lo hi (some x) t) else 3
theorem lunisolar_rising_l0 (l : List Int) (lo hi : Int) (hl : l.length ≤ 17592186044416) : ∀ (d i k : Nat), i + d = l.length → 2 * d < k →
  lunisolar_rising.l0 k l lo hi l (l.length : Int) (i : Int) = some (riseFrom lo hi (prevN l i) (l.drop i)) := by
 intro d
 induction d with
 | zero =>
  intro i k hi' hk
  obtain ⟨k, rfl⟩ : ∃ m, k = m + 1 := ⟨k - 1, by omega⟩
  simp only [lunisolar_rising.l0]
  rw [if_neg (by omega), List.drop_of_length_le (by omega)]; rfl
 | succ d ih =>
  intro i k hi' hk
  obtain ⟨k, rfl⟩ : ∃ m, k = m + 2 := ⟨k - 2, by omega⟩
  have hlt : i < l.length := by omega
  have ih := ih (i + 1) k (by omega) (by omega)
  rw [prevN_succ l i hlt, show ((i + 1 : Nat) : Int) = (i : Int) + 1 from by omega] at ih
  simp only [lunisolar_rising.l0, lunisolar_rising.j1]
  rw [List.drop_eq_getElem_cons hlt, rd_get l i hlt, w64_id (n := (i : Int) + 1) (by omega) (by omega), w64_id (n := (i : Int) - 1) (by omega) (by omega), ih]
  simp only [riseFrom, tooLow_prev]
  clear ih
  grind
theorem lunisolar_rising_f (l : List Int) (lo hi : Int) (hl : l.length ≤ 17592186044416) (k : Nat) (hk : 2 * l.length < k) : lunisolar_rising.f k l lo hi = some (riseFrom lo hi none l) := by
 unfold lunisolar_rising.f
 exact lunisolar_rising_l0 l lo hi hl l.length 0 k (by omega) (by omega)

theorem whole_size_f {a : Int} (h0 : -9223372036854775808 ≤ a) (h1 : a ≤ 9223372036854775807) : whole_size.f a = some (ab a) := by
 unfold whole_size.f ab
 by_cases c : a < 0
 ·rw [if_pos c, if_pos c, u64_def a, u64_def]
  congr 1; omega
 ·rw [if_neg c, if_neg c, u64_id (by omega) (by omega)]

theorem whole_Gcd_l0 : ∀ (n k x y : Nat), y ≤ n → n < k → x ≤ 9223372036854775808 → y ≤ 9223372036854775808 → (0 < x ∨ y ≤ 9223372036854775808) →
  whole_Gcd.l0 k (x : Int) (y : Int) = some (if Nat.gcd x y = 9223372036854775808 then (0, 14) else ((Nat.gcd x y : Int), 0)) := by
 intro n
 induction n with
 | zero =>
  intro k x y hy hk hx hy1 _
  obtain ⟨k, rfl⟩ : ∃ m, k = m + 1 := ⟨k - 1, by omega⟩
  obtain rfl : y = 0 := by omega
  simp only [whole_Gcd.l0]
  rw [if_pos (by omega), Nat.gcd_zero_right]
  by_cases c : x = 9223372036854775808
  ·rw [if_pos (by omega), if_pos c]
  ·rw [if_neg (by omega), if_neg c, w64_id (by omega) (by omega)]
 | succ n ih =>
  intro k x y hy hk hx hy1 _
  obtain ⟨k, rfl⟩ : ∃ m, k = m + 1 := ⟨k - 1, by omega⟩
  simp only [whole_Gcd.l0]
  by_cases c0 : y = 0
  ·subst c0
   rw [if_pos (by omega), Nat.gcd_zero_right]
   by_cases c : x = 9223372036854775808
   ·rw [if_pos (by omega), if_pos c]
   ·rw [if_neg (by omega), if_neg c, w64_id (by omega) (by omega)]
  ·have hm : x % y < y := Nat.mod_lt _ (by omega)
   rw [if_neg (by omega), show Int.tmod (x : Int) (y : Int) = ((x % y : Nat) : Int) from by rw [← Int.ofNat_tmod]]
   rw [ih k y (x % y) (by omega) (by omega) hy1 (by omega) (.inl (by omega))]
   rw [show Nat.gcd y (x % y) = Nat.gcd x y from by rw [Nat.gcd_comm y, ← Nat.gcd_rec, Nat.gcd_comm]]
theorem gcd_ab (a b : Int) : Nat.gcd (ab a).toNat (ab b).toNat = Int.gcd a b := by
 have h : ∀ c : Int, (ab c).toNat = c.natAbs := fun c => by unfold ab; split <;> omega
 rw [h, h]; rfl
theorem whole_Gcd_f {a b : Int} (k : Nat) (hk : 9223372036854775810 ≤ k) (ha : -9223372036854775808 ≤ a) (ha1 : a ≤ 9223372036854775807) (hb : -9223372036854775808 ≤ b) (hb1 : b ≤ 9223372036854775807) :
  whole_Gcd.f k a b = some (if Int.gcd a b = 9223372036854775808 then (0, 14) else ((Int.gcd a b : Int), 0)) := by
 unfold whole_Gcd.f
 rw [whole_size_f ha ha1, whole_size_f hb hb1]
 simp only [Option.bind_some]
 have e1 := ab_nonneg a
 have e2 := ab_nonneg b
 have e3 := ab_le ha ha1
 have e4 := ab_le hb hb1
 have := whole_Gcd_l0 9223372036854775808 k (ab a).toNat (ab b).toNat (by omega) (by omega) (by omega) (by omega) (.inr (by omega))
 rw [gcd_ab, Int.toNat_of_nonneg e1, Int.toNat_of_nonneg e2] at this
 exact this

theorem frac_Check_f {n d : Int} (k : Nat) (hk : 9223372036854775820 ≤ k) : frac_Check.f k n d = some (if fracOK n d = true then 0 else 8) := by
 obtain ⟨k, rfl⟩ : ∃ m, k = m + 1 := ⟨k - 1, by omega⟩
 have hj : frac_Check.f (k + 1) n d = frac_Check.j0 (k + 1) (decide (¬ ((1 ≤ d ∧ d ≤ 2147483647) ∧ (-2147483647 ≤ n ∧ n ≤ 2147483647)))) n d := by
  unfold frac_Check.f
  by_cases c1 : d < 1
  ·rw [if_pos c1, decide_eq_true (by omega)]
  rw [if_neg c1]
  by_cases c2 : d > 2147483647
  ·rw [if_pos c2, decide_eq_true (by omega)]
  rw [if_neg c2]
  by_cases c3 : n < -2147483647
  ·rw [if_pos c3, decide_eq_true (by omega)]
  rw [if_neg c3]
  by_cases c4 : n > 2147483647
  ·rw [decide_eq_true c4, decide_eq_true (by omega)]
  ·rw [decide_eq_false c4, decide_eq_false (by omega)]
 rw [hj]
 simp only [frac_Check.j0, decide_eq_true_eq, fracOK]
 by_cases c : (1 ≤ d ∧ d ≤ 2147483647) ∧ (-2147483647 ≤ n ∧ n ≤ 2147483647)
 ·rw [if_neg (fun h => h c), whole_Gcd_f k (by omega) (by omega) (by omega) (by omega) (by omega), Option.bind_some]
  have hle := gcd_pos_le n (m := d) (by omega)
  have h9 : ¬ Int.gcd n d = 9223372036854775808 := by omega
  rw [if_neg h9]
  by_cases c2 : Int.gcd n d = 1
  ·have h8 : (1 ≤ d ∧ d ≤ 2147483647) ∧ (-2147483647 ≤ n ∧ n ≤ 2147483647) ∧ Int.gcd n d = 1 := ⟨c.1, c.2, c2⟩
   rw [if_pos h8]; simp [c2]
  ·have h8 : ¬ ((1 ≤ d ∧ d ≤ 2147483647) ∧ (-2147483647 ≤ n ∧ n ≤ 2147483647) ∧ Int.gcd n d = 1) := fun h => c2 h.2.2
   have h7 : ¬ (Int.gcd n d : Int) = 1 := by omega
   rw [if_neg h8]
   simp only [if_neg h7]
 ·have h8 : ¬ ((1 ≤ d ∧ d ≤ 2147483647) ∧ (-2147483647 ≤ n ∧ n ≤ 2147483647) ∧ Int.gcd n d = 1) := fun h => c ⟨h.1, h.2.1⟩
  rw [if_pos c, if_neg h8]

theorem line_Check_f (x : Int) : line_Check.f x = some (if -4000000 ≤ x ∧ x ≤ 4000000 then 0 else 3) := by
 unfold line_Check.f
 by_cases h : x < -4000000
 ·rw [if_pos h, if_neg (by omega)]
 ·rw [if_neg h]
  by_cases h2 : x > 4000000
  ·rw [if_pos h2, if_neg (by omega)]
  ·rw [if_neg h2, if_pos (by omega)]

theorem lunisolar_parts_f (name : ByteArray) (ep sn sd mn' md ln ld cy : Int) (lp av : List Int) (h : moonFrac sn sd mn' md ln ld) (k : Nat) (hk : 9223372036854775830 ≤ k) : lunisolar_parts.f k name ep sn sd mn' md ln ld cy lp av = some (parts3 sd md ld) := by
 obtain ⟨k, rfl⟩ : ∃ m, k = m + 4 := ⟨k - 4, by omega⟩
 obtain ⟨⟨h1, h2⟩, h3⟩ := h
 have b1 := okNum h1; have b2 := okNum h2; have b3 := okNum h3
 have one : ∀ (n d : Int) (k : Nat), 9223372036854775810 ≤ k → 1 ≤ n → n ≤ 1000000 → 1 ≤ d → d ≤ 2147483647 → whole_Gcd.f k n d = some ((Int.gcd n d : Int), 0) ∧ wrap64 (Int.tdiv n (Int.gcd n d : Int)) = n / (Int.gcd n d : Int) ∧ wrap64 (1000000 / d) = 1000000 / d ∧ wrap64 (n / (Int.gcd n d : Int) * d) = lcmD n d ∧ ¬ (Int.gcd n d : Int) = 0 ∧ (n / (Int.gcd n d : Int) > 1000000 / d ↔ 1000000 < lcmD n d) := by
  intro n d k hk n1 n2 d1 d2
  obtain ⟨g1, g2, g3, g4, g5, g6, g7⟩ := lcmD_facts n1 d1
  have hm := mul_lt (n := 1000000) (m := 2147483647) (show 0 ≤ n by omega) n2 (show 0 ≤ d by omega) d2
  have q1 := Int.ediv_nonneg (show (0 : Int) ≤ 1000000 by decide) (show 0 ≤ d by omega)
  have q2 := Int.ediv_le_self (a := 1000000) d (by decide)
  refine ⟨?_, ?_, w64_id (by omega) (by omega), ?_, by omega, ?_⟩
  ·rw [whole_Gcd_f k hk (by omega) (by omega) (by omega) (by omega), if_neg (by omega)]
  ·rw [Int.tdiv_eq_ediv_of_nonneg (by omega), w64_id (by omega) (by omega)]
  ·unfold lcmD at *; exact w64_id (by omega) (by omega)
  ·exact quo_gt g4 d1
 have gone : ∀ d : Int, (Int.gcd 1 d : Int) = 1 := fun d => by rw [Int.gcd_comm, Int.gcd_one]; rfl
 have l1 : ∀ d : Int, lcmD 1 d = d := fun d => by unfold lcmD; rw [gone]; simp
 unfold lunisolar_parts.f
 rw [Option.bind_some]
 have w1 : wrap64 (0 + 1) = 1 := w64_id (by decide) (by decide)
 have w2 : wrap64 (1 + 1) = 2 := w64_id (by decide) (by decide)
 have w3 : wrap64 (2 + 1) = 3 := w64_id (by decide) (by decide)
 have r0 : rd_T49 [⟨sn, sd⟩, ⟨mn', md⟩, ⟨ln, ld⟩] 0 = ⟨sn, sd⟩ := rfl
 have r1 : rd_T49 [⟨sn, sd⟩, ⟨mn', md⟩, ⟨ln, ld⟩] 1 = ⟨mn', md⟩ := rfl
 have r2 : rd_T49 [⟨sn, sd⟩, ⟨mn', md⟩, ⟨ln, ld⟩] 2 = ⟨ln, ld⟩ := rfl
 have len : (([⟨sn, sd⟩, ⟨mn', md⟩, ⟨ln, ld⟩] : List S49).length : Int) = 3 := rfl
 rw [len]
 obtain ⟨e1, e2, e3, e4, e5, e6⟩ := one 1 sd (k + 3) (by omega) (by omega) (by omega) (by omega) (by omega)
 have st1 : lunisolar_parts.l0 (k + 4) 1 [⟨sn, sd⟩, ⟨mn', md⟩, ⟨ln, ld⟩] 3 0 = if 1000000 < sd then some 0 else lunisolar_parts.l0 (k + 3) sd [⟨sn, sd⟩, ⟨mn', md⟩, ⟨ln, ld⟩] 3 1 := by
  simp only [lunisolar_parts.l0, r0, len]
  rw [if_pos (by decide), if_pos (by decide), if_pos (by decide), e1, Option.bind_some]
  simp only
  rw [if_neg e5, if_neg (by omega), e2, e3, e4, w1, l1]
  rw [l1] at e6
  by_cases c : 1000000 < sd
  ·rw [if_pos (e6.2 c), if_pos c]
  ·rw [if_neg (fun h => c (e6.1 h)), if_neg c]
 rw [st1]
 unfold parts3
 by_cases c1 : sd ≤ 1000000
 ·rw [if_neg (by omega), if_pos c1]
  obtain ⟨e1, e2, e3, e4, e5, e6⟩ := one sd md (k + 2) (by omega) (by omega) (by omega) (by omega) (by omega)
  have st2 : lunisolar_parts.l0 (k + 3) sd [⟨sn, sd⟩, ⟨mn', md⟩, ⟨ln, ld⟩] 3 1 = if 1000000 < lcmD sd md then some 0 else lunisolar_parts.l0 (k + 2) (lcmD sd md) [⟨sn, sd⟩, ⟨mn', md⟩, ⟨ln, ld⟩] 3 2 := by
   simp only [lunisolar_parts.l0, r1, len]
   rw [if_pos (by decide), if_pos (by decide), if_pos (by decide), e1, Option.bind_some]
   simp only
   rw [if_neg e5, if_neg (by omega), e2, e3, e4, w2]
   by_cases c : 1000000 < lcmD sd md
   ·rw [if_pos (e6.2 c), if_pos c]
   ·rw [if_neg (fun h => c (e6.1 h)), if_neg c]
  rw [st2]
  have ge := lcmD_ge (n := sd) (d := md) (by omega) (by omega)
  by_cases c2 : lcmD sd md ≤ 1000000
  ·rw [if_neg (by omega), if_pos c2]
   obtain ⟨e1, e2, e3, e4, e5, e6⟩ := one (lcmD sd md) ld (k + 1) (by omega) (by omega) (by omega) (by omega) (by omega)
   have st3 : lunisolar_parts.l0 (k + 2) (lcmD sd md) [⟨sn, sd⟩, ⟨mn', md⟩, ⟨ln, ld⟩] 3 2 = if 1000000 < lcmD (lcmD sd md) ld then some 0 else lunisolar_parts.l0 (k + 1) (lcmD (lcmD sd md) ld) [⟨sn, sd⟩, ⟨mn', md⟩, ⟨ln, ld⟩] 3 3 := by
    simp only [lunisolar_parts.l0, r2, len]
    rw [if_pos (by decide), if_pos (by decide), if_pos (by decide), e1, Option.bind_some]
    simp only
    rw [if_neg e5, if_neg (by omega), e2, e3, e4, w3]
    by_cases c : 1000000 < lcmD (lcmD sd md) ld
    ·rw [if_pos (e6.2 c), if_pos c]
    ·rw [if_neg (fun h => c (e6.1 h)), if_neg c]
   rw [st3]
   by_cases c3 : lcmD (lcmD sd md) ld ≤ 1000000
   ·rw [if_neg (by omega), if_pos c3]
    simp only [lunisolar_parts.l0]
    rw [if_neg (by decide)]
   ·rw [if_pos (by omega), if_neg c3]
  ·rw [if_pos (by omega), if_neg c2]
 ·rw [if_pos (by omega), if_neg c1]

theorem rule_Name_f (s : ByteArray) : rule_Name.f s = some (isName s) := by
 have e : rule_Name.all s.data.toList = letters s.data.toList := rfl
 unfold rule_Name.f isName noWord
 rw [e]
 congr 1
 by_cases h1 : (s.size : Int) < 1
 ·rw [if_pos h1, decide_eq_false (show ¬ 1 ≤ s.size by omega)]; rfl
 rw [if_neg h1, decide_eq_true (show 1 ≤ s.size by omega)]
 by_cases h2 : (s.size : Int) > 12
 ·rw [if_pos h2, decide_eq_false (show ¬ s.size ≤ 12 by omega)]; rfl
 rw [if_neg h2, decide_eq_true (show s.size ≤ 12 by omega)]
 by_cases c1 : s.toList = [121]
 ·rw [if_pos c1]; simp [c1]
 rw [if_neg c1, bne_iff_ne.2 c1]
 by_cases c2 : s.toList = [97, 110, 100]
 ·rw [if_pos c2]; simp [c2]
 rw [if_neg c2, bne_iff_ne.2 c2]
 by_cases c3 : s.toList = [111, 114]
 ·rw [if_pos c3]; simp [c3]
 rw [if_neg c3, bne_iff_ne.2 c3]
 by_cases c4 : s.toList = [110, 111, 116]
 ·rw [if_pos c4]; simp [c4]
 rw [if_neg c4, bne_iff_ne.2 c4]
 rfl

/-- The first fault of a rule of mean months. -/
def moonErr (name : ByteArray) (ep sn sd mn' md ln ld cy : Int) (lp av : List Int) : Int :=
 if isName name = true then (if -4000000 ≤ ep ∧ ep ≤ 4000000 then (if moonFrac sn sd mn' md ln ld then (if moonRange sn sd mn' md ln ld then (if parts3 sd md ld = 0 then 14 else if 1 ≤ cy ∧ cy ≤ 100 then
  (if riseFrom 1 cy none lp = 0 then (if av.length ≤ 3 then riseFrom 0 6 none av else 2) else riseFrom 1 cy none lp) else 3) else 3) else 8) else 3) else 5
theorem lunisolar_Check_j2 (name : ByteArray) (ep sn sd mn' md ln ld cy : Int) (lp av : List Int) (hl : lp.length ≤ 17592186044416) (k : Nat) (hk : 50000000000000 ≤ k) :
  lunisolar_Check.j2 k false name ep sn sd mn' md ln ld cy lp av = some (if riseFrom 1 cy none lp = 0 then (if av.length ≤ 3 then riseFrom 0 6 none av else 2) else riseFrom 1 cy none lp) := by
 obtain ⟨k, rfl⟩ : ∃ m, k = m + 1 := ⟨k - 1, by omega⟩
 simp only [lunisolar_Check.j2, Bool.false_eq_true, if_false]
 rw [lunisolar_rising_f lp 1 cy hl k (by omega), Option.bind_some]
 by_cases c : riseFrom 1 cy none lp = 0
 ·rw [if_pos c, if_pos c]
  by_cases c2 : av.length ≤ 3
  ·rw [if_neg (by omega), if_pos c2, lunisolar_rising_f av 0 6 (by omega) k (by omega), Option.bind_some]
  ·rw [if_pos (by omega), if_neg c2]
 ·rw [if_neg c, if_neg c]
theorem lunisolar_Check_f (name : ByteArray) (ep sn sd mn' md ln ld cy : Int) (lp av : List Int) (hl : lp.length ≤ 17592186044416) (k : Nat) (hk : 9223372036854775900 ≤ k) :
  lunisolar_Check.f k name ep sn sd mn' md ln ld cy lp av = some (moonErr name ep sn sd mn' md ln ld cy lp av) := by
 obtain ⟨k, rfl⟩ : ∃ m, k = m + 6 := ⟨k - 6, by omega⟩
 have w1 : wrap64 (0 + 1) = 1 := w64_id (by decide) (by decide)
 have w2 : wrap64 (1 + 1) = 2 := w64_id (by decide) (by decide)
 have w3 : wrap64 (2 + 1) = 3 := w64_id (by decide) (by decide)
 have r0 : rd_T49 [⟨sn, sd⟩, ⟨mn', md⟩, ⟨ln, ld⟩] 0 = ⟨sn, sd⟩ := rfl
 have r1 : rd_T49 [⟨sn, sd⟩, ⟨mn', md⟩, ⟨ln, ld⟩] 1 = ⟨mn', md⟩ := rfl
 have r2 : rd_T49 [⟨sn, sd⟩, ⟨mn', md⟩, ⟨ln, ld⟩] 2 = ⟨ln, ld⟩ := rfl
 have len : (([⟨sn, sd⟩, ⟨mn', md⟩, ⟨ln, ld⟩] : List S49).length : Int) = 3 := rfl
 unfold lunisolar_Check.f moonErr
 rw [rule_Name_f, Option.bind_some, line_Check_f, Option.bind_some, Option.bind_some, len]
 by_cases c1 : isName name = true
 rotate_left
 ·rw [if_neg c1, if_neg c1]
 rw [if_pos c1, if_pos c1]
 by_cases c2 : -4000000 ≤ ep ∧ ep ≤ 4000000
 rotate_left
 ·rw [if_neg c2, if_neg c2, if_neg (by decide)]
 rw [if_pos c2, if_pos c2, if_pos rfl]
 simp only [lunisolar_Check.l0, r0, r1, r2, len, w1, w2, w3]
 rw [frac_Check_f (k + 5) (by omega), frac_Check_f (k + 4) (by omega), frac_Check_f (k + 3) (by omega)]
 simp only [Option.bind_some, if_pos (show (0 : Int) < 3 by decide), if_pos (show (1 : Int) < 3 by decide), if_pos (show (2 : Int) < 3 by decide), if_pos (show (0 : Int) ≤ 0 by decide), if_pos (show (0 : Int) ≤ 1 by decide), if_pos (show (0 : Int) ≤ 2 by decide), if_neg (show ¬ (3 : Int) < 3 by decide)]
 by_cases f1 : fracOK sn sd = true
 rotate_left
 ·rw [if_neg f1, if_neg (by decide), if_neg (fun h => f1 h.1.1)]
 by_cases f2 : fracOK mn' md = true
 rotate_left
 ·rw [if_pos f1, if_pos rfl, if_neg f2, if_neg (by decide), if_neg (fun h => f2 h.1.2)]
 by_cases f3 : fracOK ln ld = true
 rotate_left
 ·rw [if_pos f1, if_pos rfl, if_pos f2, if_pos rfl, if_neg f3, if_neg (by decide), if_neg (fun h => f3 h.2)]
 have hf : moonFrac sn sd mn' md ln ld := ⟨⟨f1, f2⟩, f3⟩
 rw [if_pos f1, if_pos rfl, if_pos f2, if_pos rfl, if_pos f3, if_pos rfl, if_pos hf]
 have b1 := okNum f1; have b2 := okNum f2; have b3 := okNum f3
 rw [w64_id (n := 29 * md) (by omega) (by omega), w64_id (n := 30 * md) (by omega) (by omega)]
 have hj : ∀ b : Bool, b = decide (¬ moonRange sn sd mn' md ln ld) → lunisolar_Check.j1 (k + 2) b name ep sn sd mn' md ln ld cy lp av = some (if moonRange sn sd mn' md ln ld then (if parts3 sd md ld = 0 then 14 else if 1 ≤ cy ∧ cy ≤ 100 then
  (if riseFrom 1 cy none lp = 0 then (if av.length ≤ 3 then riseFrom 0 6 none av else 2) else riseFrom 1 cy none lp) else 3) else 3) := by
  rintro b rfl
  by_cases c : moonRange sn sd mn' md ln ld
  ·rw [dec_not_false c, if_pos c]
   conv => lhs; unfold lunisolar_Check.j1
   simp only [Bool.false_eq_true, if_false]
   rw [lunisolar_parts_f name ep sn sd mn' md ln ld cy lp av hf (k + 1) (by omega), Option.bind_some]
   by_cases c3 : parts3 sd md ld = 0
   ·rw [if_pos c3, if_pos c3]
   ·rw [if_neg c3, if_neg c3]
    by_cases c4 : 1 ≤ cy ∧ cy ≤ 100
    ·rw [if_neg (by omega), decide_eq_false (show ¬ cy > 100 by omega), if_pos c4]
     exact lunisolar_Check_j2 name ep sn sd mn' md ln ld cy lp av hl (k + 1) (by omega)
    ·rw [if_neg c4]
     by_cases c5 : cy < 1
     ·rw [if_pos c5]; simp only [lunisolar_Check.j2, if_true]
     ·rw [if_neg c5, decide_eq_true (show cy > 100 by omega)]; simp only [lunisolar_Check.j2, if_true]
  ·rw [dec_not_true c, if_neg c]
   simp only [lunisolar_Check.j1, if_true]
 have hr : moonRange sn sd mn' md ln ld ↔ ((0 ≤ sn ∧ sn < sd) ∧ (29 * md ≤ mn' ∧ mn' ≤ 30 * md)) ∧ (1 ≤ ln ∧ ln ≤ ld) := Iff.rfl
 by_cases d1 : sn < 0
 ·rw [if_pos d1]; exact hj _ (dec_not_true (fun h => by rw [hr] at h; omega)).symm
 rw [if_neg d1]
 by_cases d2 : sn ≥ sd
 ·rw [if_pos d2]; exact hj _ (dec_not_true (fun h => by rw [hr] at h; omega)).symm
 rw [if_neg d2]
 by_cases d3 : mn' < 29 * md
 ·rw [if_pos d3]; exact hj _ (dec_not_true (fun h => by rw [hr] at h; omega)).symm
 rw [if_neg d3]
 by_cases d4 : mn' > 30 * md
 ·rw [if_pos d4]; exact hj _ (dec_not_true (fun h => by rw [hr] at h; omega)).symm
 rw [if_neg d4]
 by_cases d5 : ln < 1
 ·rw [if_pos d5]; exact hj _ (dec_not_true (fun h => by rw [hr] at h; omega)).symm
 rw [if_neg d5]
 exact hj _ (decide_eq_decide.2 (by rw [hr]; omega))

theorem MoonError_l1 (name : ByteArray) (ep sn sd mn' md ln ld cy : Int) (lp av : List Int) (hl : av.length ≤ 3) : ∀ (d i k : Nat), i + d = av.length → d < k →
  ephemerisref1_MoonError.l1 k av (av.length : Int) (i : Int) name ep sn sd mn' md ln ld cy lp av = some (riseFrom 0 6 (prevN av i) (av.drop i)) := by
 intro d
 induction d with
 | zero =>
  intro i k hi' hk
  obtain ⟨k, rfl⟩ : ∃ m, k = m + 1 := ⟨k - 1, by omega⟩
  simp only [ephemerisref1_MoonError.l1]
  rw [if_neg (by omega), List.drop_of_length_le (by omega)]; rfl
 | succ d ih =>
  intro i k hi' hk
  obtain ⟨k, rfl⟩ : ∃ m, k = m + 1 := ⟨k - 1, by omega⟩
  have hlt : i < av.length := by omega
  have ih := ih (i + 1) k (by omega) (by omega)
  rw [prevN_succ av i hlt, show ((i + 1 : Nat) : Int) = (i : Int) + 1 from by omega] at ih
  simp only [ephemerisref1_MoonError.l1]
  rw [List.drop_eq_getElem_cons hlt, rd_get av i hlt, w64_id (n := (i : Int) + 1) (by omega) (by omega), w64_id (n := (i : Int) - 1) (by omega) (by omega), ih]
  simp only [riseFrom, tooLow_prev, ephemerisref1_In_f, Option.bind_some]
  clear ih
  grind
theorem MoonError_l0 (name : ByteArray) (ep sn sd mn' md ln ld cy : Int) (lp av : List Int) (hl : lp.length ≤ 17592186044416) : ∀ (d i k : Nat), i + d = lp.length → d + 10 < k →
  ephemerisref1_MoonError.l0 k lp (lp.length : Int) (i : Int) name ep sn sd mn' md ln ld cy lp av = some (if riseFrom 1 cy (prevN lp i) (lp.drop i) = 0 then (if av.length ≤ 3 then riseFrom 0 6 none av else 2) else riseFrom 1 cy (prevN lp i) (lp.drop i)) := by
 intro d
 induction d with
 | zero =>
  intro i k hi' hk
  obtain ⟨k, rfl⟩ : ∃ m, k = m + 1 := ⟨k - 1, by omega⟩
  conv => lhs; unfold ephemerisref1_MoonError.l0
  rw [if_neg (by omega), List.drop_of_length_le (by omega)]
  simp only [riseFrom, if_true]
  by_cases c : av.length ≤ 3
  ·rw [if_neg (by omega), if_pos c]
   exact MoonError_l1 name ep sn sd mn' md ln ld cy lp av c av.length 0 k (by omega) (by omega)
  ·rw [if_pos (by omega), if_neg c]
 | succ d ih =>
  intro i k hi' hk
  obtain ⟨k, rfl⟩ : ∃ m, k = m + 1 := ⟨k - 1, by omega⟩
  have hlt : i < lp.length := by omega
  have ih := ih (i + 1) k (by omega) (by omega)
  rw [prevN_succ lp i hlt, show ((i + 1 : Nat) : Int) = (i : Int) + 1 from by omega] at ih
  conv => lhs; unfold ephemerisref1_MoonError.l0
  rw [List.drop_eq_getElem_cons hlt, rd_get lp i hlt, w64_id (n := (i : Int) + 1) (by omega) (by omega), w64_id (n := (i : Int) - 1) (by omega) (by omega), ih]
  simp only [riseFrom, tooLow_prev, ephemerisref1_In_f, Option.bind_some]
  clear ih
  generalize (if av.length ≤ 3 then riseFrom 0 6 none av else 2) = z
  grind
theorem ephemerisref1_MoonError_f (name : ByteArray) (ep sn sd mn' md ln ld cy : Int) (lp av : List Int) (hl : lp.length ≤ 17592186044416) (hn : -9223372036854775808 ≤ mn' ∧ mn' ≤ 9223372036854775807) (hs : name.size ≤ 140737488351232) (k : Nat) (hk : 100000000000000000030 ≤ k) :
  ephemerisref1_MoonError.f k name ep sn sd mn' md ln ld cy lp av = some (moonErr name ep sn sd mn' md ln ld cy lp av) := by
 obtain ⟨k, rfl⟩ : ∃ m, k = m + 2 := ⟨k - 2, by omega⟩
 unfold ephemerisref1_MoonError.f moonErr
 rw [ephemerisref1_Name_f name _ (by omega), Option.bind_some, ephemerisref1_Day_f, Option.bind_some]
 by_cases c1 : isName name = true
 rotate_left
 ·rw [if_neg c1, if_neg c1]
 rw [if_pos c1, if_pos c1]
 by_cases c2 : -4000000 ≤ ep ∧ ep ≤ 4000000
 rotate_left
 ·rw [if_neg c2, if_neg (by simpa using c2)]
 rw [if_pos (decide_eq_true c2), if_pos c2]
 rw [ephemerisref1_FracOK_f _ (by omega), ephemerisref1_FracOK_f _ (by omega), ephemerisref1_FracOK_f _ (by omega)]
 simp only [Option.bind_some]
 have j0t : ephemerisref1_MoonError.j0 (k + 2) true name ep sn sd mn' md ln ld cy lp av = some 8 := by simp only [ephemerisref1_MoonError.j0, if_true]
 by_cases f1 : fracOK sn sd = true
 rotate_left
 ·rw [if_neg f1, if_neg (fun h => f1 h.1.1), j0t]
 by_cases f2 : fracOK mn' md = true
 rotate_left
 ·rw [if_pos f1, if_neg f2, if_neg (fun h => f2 h.1.2), j0t]
 by_cases f3 : fracOK ln ld = true
 rotate_left
 ·rw [if_pos f1, if_pos f2, if_neg (fun h => f3 h.2), show (!fracOK ln ld) = true by simpa using f3, j0t]
 have hf : moonFrac sn sd mn' md ln ld := ⟨⟨f1, f2⟩, f3⟩
 rw [if_pos f1, if_pos f2, if_pos hf, f3]
 have b1 := okNum f1; have b2 := okNum f2; have b3 := okNum f3
 have hr : moonRange sn sd mn' md ln ld ↔ ((0 ≤ sn ∧ sn < sd) ∧ (29 * md ≤ mn' ∧ mn' ≤ 30 * md)) ∧ (1 ≤ ln ∧ ln ≤ ld) := Iff.rfl
 have hj : ∀ b : Bool, b = decide (¬ moonRange sn sd mn' md ln ld) → ephemerisref1_MoonError.j1 (k + 1) b name ep sn sd mn' md ln ld cy lp av = some (if moonRange sn sd mn' md ln ld then (if parts3 sd md ld = 0 then 14 else if 1 ≤ cy ∧ cy ≤ 100 then
  (if riseFrom 1 cy none lp = 0 then (if av.length ≤ 3 then riseFrom 0 6 none av else 2) else riseFrom 1 cy none lp) else 3) else 3) := by
  rintro b rfl
  by_cases c : moonRange sn sd mn' md ln ld
  ·rw [dec_not_false c, if_pos c]
   conv => lhs; unfold ephemerisref1_MoonError.j1
   simp only [Bool.false_eq_true, if_false]
   rw [ephemerisref1_Parts_f name ep sn sd mn' md ln ld cy lp av hf k (by omega), Option.bind_some, ephemerisref1_In_f, Option.bind_some]
   by_cases c3 : parts3 sd md ld = 0
   ·rw [if_pos c3, if_pos c3]
   ·rw [if_neg c3, if_neg c3]
    by_cases c4 : 1 ≤ cy ∧ cy ≤ 100
    ·rw [if_pos (decide_eq_true c4), if_pos c4]
     exact MoonError_l0 name ep sn sd mn' md ln ld cy lp av hl lp.length 0 k (by omega) (by omega)
    ·rw [if_neg (by simpa using c4), if_neg c4]
  ·rw [dec_not_true c, if_neg c]
   simp only [ephemerisref1_MoonError.j1, if_true]
 simp only [ephemerisref1_MoonError.j0, Bool.not_true, Bool.false_eq_true, if_false]
 rw [ephemerisref1_Floor_f (k + 1) (by omega) (by omega) (by omega) (by omega) (by omega), ephemerisref1_Floor_f (k + 1) (by omega) (by omega) (by omega) (by omega) (by omega), w64_id (n := mn' - 1) (by omega) (by omega), ephemerisref1_Floor_f (k + 1) (by omega) (by omega) (by omega) (by omega) (by omega)]
 simp only [Option.bind_some]
 have q1 : sn / sd > 0 ↔ sd ≤ sn := by
  have := Int.le_ediv_iff_mul_le (a := 1) (b := sn) (c := sd) (by omega)
  omega
 have q2 : mn' / md < 29 ↔ mn' < 29 * md := Int.ediv_lt_iff_lt_mul (by omega)
 have q3 : (mn' - 1) / md > 29 ↔ 30 * md < mn' := by
  have := Int.le_ediv_iff_mul_le (a := 30) (b := mn' - 1) (c := md) (by omega)
  omega
 by_cases d1 : sn < 0
 ·rw [if_pos d1]; exact hj _ (dec_not_true (fun h => by rw [hr] at h; omega)).symm
 rw [if_neg d1]
 by_cases d2 : sn / sd > 0
 ·rw [if_pos d2]; exact hj _ (dec_not_true (fun h => by rw [hr] at h; omega)).symm
 rw [if_neg d2]
 by_cases d3 : mn' / md < 29
 ·rw [if_pos d3]; exact hj _ (dec_not_true (fun h => by rw [hr] at h; omega)).symm
 rw [if_neg d3]
 by_cases d4 : (mn' - 1) / md > 29
 ·rw [if_pos d4]; exact hj _ (dec_not_true (fun h => by rw [hr] at h; omega)).symm
 rw [if_neg d4]
 by_cases d5 : ln ≤ 0
 ·rw [if_pos d5]; exact hj _ (dec_not_true (fun h => by rw [hr] at h; omega)).symm
 rw [if_neg d5]
 rw [q1] at d2; rw [q2] at d3; rw [q3] at d4
 exact hj _ (decide_eq_decide.2 (by rw [hr]; omega))

theorem whole_Div_f {a b : Int} (k : Nat) (hk : 1 ≤ k) (ha : -9223372036854775808 ≤ a) (ha1 : a ≤ 9223372036854775807) (hb : -9223372036854775808 ≤ b) (hb1 : b ≤ 9223372036854775807) : whole_Div.f k a b = some (divs a b) := by
 obtain ⟨k, rfl⟩ : ∃ m, k = m + 1 := ⟨k - 1, by omega⟩
 unfold whole_Div.f divs
 by_cases c : b = 0
 ·rw [if_pos c, if_pos c]
 rw [if_neg c, if_neg c]
 by_cases d : a = -9223372036854775808 ∧ b = -1
 ·rw [if_pos d.1, if_pos d, d.2]; simp [whole_Div.j0]
 have e : (if a = (-9223372036854775808) then (whole_Div.j0 (k + 1) a b (b == (-1))) else (whole_Div.j0 (k + 1) a b false)) = whole_Div.j0 (k + 1) a b false := by
  by_cases c1 : a = -9223372036854775808
  ·rw [if_pos c1, show (b == -1) = false from beq_eq_false_iff_ne.2 (fun h => d ⟨c1, h⟩)]
  ·rw [if_neg c1]
 rw [e, if_neg d]
 simp only [whole_Div.j0, Bool.false_eq_true, if_false]
 rw [if_neg c]
 obtain ⟨b1, b2⟩ := tdiv_bound a b c ha ha1 d
 obtain ⟨g1, g2, g3⟩ := fd_of_t a b c
 obtain ⟨t0, t1, t2, t3, t4⟩ := tdm a b c
 rw [w64_id b1 b2]
 by_cases hz : Int.tmod a b = 0
 ·rw [if_pos hz, (g1 hz).1, (g1 hz).2, hz]
 ·rw [if_neg hz]
  cases hs : (decide (Int.tmod a b < 0) != decide (b < 0)) with
  | true =>
   have hq : fd a b = Int.tdiv a b - 1 := (g2 hz hs).1
   have hfs := fd_spec a b c
   have hlow : -9223372036854775808 ≤ Int.tdiv a b - 1 := by
    by_cases hm : Int.tdiv a b = -9223372036854775808
    ·exfalso
     have h9 : (Int.tdiv a b).natAbs = a.natAbs / b.natAbs := Int.natAbs_tdiv a b
     rw [hm] at h9
     have h10 : a.natAbs / b.natAbs ≤ a.natAbs := Nat.div_le_self _ _
     by_cases hb2 : b.natAbs = 1
     ·have : b = 1 ∨ b = -1 := by omega
      rcases this with rfl | rfl
      ·exact hz (by rw [Int.tmod_one])
      ·exact hz (by rw [Int.tmod_neg, Int.tmod_one])
     ·have : a.natAbs / b.natAbs ≤ a.natAbs / 2 := Nat.div_le_div_left (by omega) (by omega)
      omega
    ·omega
   have hss : (Int.tmod a b < 0 ∧ 0 < b) ∨ (0 < Int.tmod a b ∧ b < 0) := by
    by_cases hx : Int.tmod a b < 0 <;> by_cases hy : b < 0 <;> simp [hx, hy] at hs
    ·exact .inl ⟨hx, by omega⟩
    ·exact .inr ⟨by omega, hy⟩
   simp only [if_true]
   rw [(g2 hz hs).1, (g2 hz hs).2, w64_id hlow (by omega), w64_id (n := Int.tmod a b + b) (by omega) (by omega)]
  | false =>
   simp only [Bool.false_eq_true, if_false]
   rw [(g3 hz hs).1, (g3 hz hs).2]

theorem whole_Mod_f {a m : Int} (hm : 0 < m) (hm1 : m ≤ 9223372036854775807) : whole_Mod.f a m = some (a % m) := by
 unfold whole_Mod.f
 rw [if_neg (by omega)]
 obtain ⟨h1, h2⟩ := tmod_emod a m hm
 have h3 := Int.emod_nonneg a (b := m) (by omega)
 have h4 := Int.emod_lt_of_pos a hm
 by_cases c : Int.tmod a m < 0
 ·rw [if_pos c, h1 c, w64_id (by omega) (by omega)]
 ·rw [if_neg c, h2 c]

theorem sort_SearchInts_f {l : List Int} (hp : l.Pairwise (· < ·)) (hl : l.length ≤ 100000) (r : Int) : sort_SearchInts.f l (r + 1) = some ((l.countP fun y => decide (y ≤ r) : Nat) : Int) := by
 unfold sort_SearchInts.f
 have : sort_SearchInts.asc l = true := decide_eq_true ⟨hp.imp (fun h => Int.le_of_lt h), by omega⟩
 rw [if_pos this, count_fun]

theorem riseFrom_ok (lo hi : Int) : ∀ (l : List Int) (p : Option Int), riseFrom lo hi p l = 0 → (∀ y ∈ l, (lo ≤ y ∧ y ≤ hi) ∧ ∀ q, p = some q → q < y) ∧ l.Pairwise (· < ·)
 | [], _, _ => ⟨fun y h => by simp at h, List.Pairwise.nil⟩
 | x :: t, p, h => by
  unfold riseFrom at h
  by_cases c1 : lo ≤ x ∧ x ≤ hi
  ·rw [if_pos c1] at h
   by_cases c2 : tooLow p x = true
   ·rw [if_pos c2] at h; cases h
   ·rw [if_neg c2] at h
    obtain ⟨h1, h2⟩ := riseFrom_ok lo hi t (some x) h
    have hx : ∀ q, p = some q → q < x := by
     intro q hq
     subst hq
     simp only [tooLow, decide_eq_true_eq] at c2
     omega
    refine ⟨fun y hy => ?_, List.pairwise_cons.2 ⟨fun y hy => (h1 y hy).2 x rfl, h2⟩⟩
    rcases List.mem_cons.1 hy with rfl | hy
    ·exact ⟨c1, hx⟩
    ·have h3 := h1 y hy
     exact ⟨h3.1, fun q hq => by have := hx q hq; have := h3.2 x rfl; omega⟩
  ·rw [if_neg c1] at h; cases h
theorem lcmD_dvd {n d : Int} (hn : 1 ≤ n) (hd : 1 ≤ d) : n ∣ lcmD n d ∧ d ∣ lcmD n d := by
 obtain ⟨g1, g2⟩ := gcd_pos_le n (m := d) (by omega)
 obtain ⟨c, hc⟩ := Int.gcd_dvd_left n d
 obtain ⟨e, he⟩ := Int.gcd_dvd_right n d
 have hq : n / (Int.gcd n d : Int) = c := by
  have := Int.mul_ediv_cancel_left c (show (Int.gcd n d : Int) ≠ 0 by omega)
  rw [← hc] at this; exact this
 unfold lcmD
 rw [hq]
 refine ⟨⟨e, ?_⟩, Int.dvd_mul_left ..⟩
 have h1 : c * d = c * ((Int.gcd n d : Int) * e) := by rw [← he]
 rw [h1, ← Int.mul_assoc, Int.mul_comm c, ← hc]
theorem parts3_ok {a b c : Int} (ha : 1 ≤ a) (hb : 1 ≤ b) (hc : 1 ≤ c) (h : parts3 a b c ≠ 0) : (1 ≤ parts3 a b c ∧ parts3 a b c ≤ 1000000) ∧ a ∣ parts3 a b c ∧ b ∣ parts3 a b c ∧ c ∣ parts3 a b c := by
 unfold parts3 at *
 by_cases c1 : a ≤ 1000000
 ·rw [if_pos c1] at *
  by_cases c2 : lcmD a b ≤ 1000000
  ·rw [if_pos c2] at *
   by_cases c3 : lcmD (lcmD a b) c ≤ 1000000
   ·rw [if_pos c3] at *
    have f1 := lcmD_facts ha hb
    have f2 := lcmD_facts (n := lcmD a b) (d := c) (by omega) hc
    have d1 := lcmD_dvd ha hb
    have d2 := lcmD_dvd (n := lcmD a b) (d := c) (by omega) hc
    exact ⟨by omega, Int.dvd_trans d1.1 d2.1, Int.dvd_trans d1.2 d2.1, d2.2⟩
   ·rw [if_neg c3] at h; exact absurd rfl h
  ·rw [if_neg c2] at h; exact absurd rfl h
 ·rw [if_neg c1] at h; exact absurd rfl h
/-- What is known of a valid rule of mean months. -/
structure OkMoon (ep sn sd mn' md ln ld cy : Int) (lp av : List Int) : Prop where
 fr : OkFr (parts3 sd md ld) ep sn sd mn' md ln ld
 lps : OkLp cy lp
 av3 : av.length ≤ 3
 frac : moonFrac sn sd mn' md ln ld
theorem moonErr_ok {name : ByteArray} {ep sn sd mn' md ln ld cy : Int} {lp av : List Int} (h : moonErr name ep sn sd mn' md ln ld cy lp av = 0) : OkMoon ep sn sd mn' md ln ld cy lp av := by
 unfold moonErr at h
 by_cases c1 : isName name = true
 rotate_left
 ·rw [if_neg c1] at h; cases h
 rw [if_pos c1] at h
 by_cases c2 : -4000000 ≤ ep ∧ ep ≤ 4000000
 rotate_left
 ·rw [if_neg c2] at h; cases h
 rw [if_pos c2] at h
 by_cases c3 : moonFrac sn sd mn' md ln ld
 rotate_left
 ·rw [if_neg c3] at h; cases h
 rw [if_pos c3] at h
 by_cases c4 : moonRange sn sd mn' md ln ld
 rotate_left
 ·rw [if_neg c4] at h; cases h
 rw [if_pos c4] at h
 by_cases c5 : parts3 sd md ld = 0
 ·rw [if_pos c5] at h; cases h
 rw [if_neg c5] at h
 by_cases c6 : 1 ≤ cy ∧ cy ≤ 100
 rotate_left
 ·rw [if_neg c6] at h; cases h
 rw [if_pos c6] at h
 by_cases c7 : riseFrom 1 cy none lp = 0
 rotate_left
 ·rw [if_neg c7] at h; exact absurd h c7
 rw [if_pos c7] at h
 by_cases c8 : av.length ≤ 3
 rotate_left
 ·rw [if_neg c8] at h; cases h
 obtain ⟨r1, r2⟩ := riseFrom_ok 1 cy lp none c7
 obtain ⟨⟨f1, f2⟩, f3⟩ := c3
 have b1 := okNum f1; have b2 := okNum f2; have b3 := okNum f3
 obtain ⟨p1, p2, p3, p4⟩ := parts3_ok (by omega) (by omega) (by omega) c5
 obtain ⟨⟨r3, r4⟩, r5⟩ := c4
 exact ⟨⟨c2, p1, ⟨⟨by omega, Int.le_of_dvd (by omega) p2⟩, p2⟩, ⟨⟨by omega, Int.le_of_dvd (by omega) p3⟩, p3⟩, ⟨⟨by omega, Int.le_of_dvd (by omega) p4⟩, p4⟩, r3, r4, r5⟩,
  ⟨c6, fun y hy => (r1 y hy).1.1, fun y hy => (r1 y hy).1.2, r2⟩, c8, ⟨⟨f1, f2⟩, f3⟩⟩
/-- The first day of a month. -/
def monD (ep sn sd mn' md ln ld cy : Int) (lp av : List Int) (y m : Int) : Int := mStart (parts3 sd md ld) ep sn sd mn' md ln ld cy lp av y m
theorem monD_bound {ep sn sd mn' md ln ld cy : Int} {lp av : List Int} (ok : OkMoon ep sn sd mn' md ln ld cy lp av) {y m : Int} (hy : -30000 ≤ y ∧ y ≤ 30000) (hm : -1000 ≤ m ∧ m ≤ 1000) : -130000000 ≤ monD ep sn sd mn' md ln ld cy lp av y m ∧ monD ep sn sd mn' md ln ld cy lp av y m ≤ 130000003 := by
 have h1 := (mB_bound ok.lps hy).2.2.2.2
 have h2 := (mDay_bound ok.fr (k := mB cy lp y + m - 1) (by omega)).2
 unfold monD mStart
 split
 ·have := skipD_bound av ok.av3 (mDay (parts3 sd md ld) ep sn sd mn' md ln ld (mB cy lp y + m - 1)); omega
 ·omega
/-- The day on which the next month begins. -/
def nextD (ep sn sd mn' md ln ld cy : Int) (lp av : List Int) (y m : Int) : Int :=
 if m = mMonths cy lp y then monD ep sn sd mn' md ln ld cy lp av (y + 1) 1 else monD ep sn sd mn' md ln ld cy lp av y (m + 1)
theorem mDay_step {n ep sn sd mn' md ln ld : Int} (ok : OkFr n ep sn sd mn' md ln ld) (k : Int) : mDay n ep sn sd mn' md ln ld k + 29 ≤ mDay n ep sn sd mn' md ln ld (k + 1) := by
 have h1 := ok.hn
 obtain ⟨f1, f2, f3, f4, f5, f6⟩ := ok.facts
 unfold mDay
 generalize mn' * (n / md) = M at *
 generalize sn * (n / sd) = S at *
 generalize ln * (n / ld) = L at *
 have hk : (k + 1) * M = k * M + M := by rw [Int.add_mul, Int.one_mul]
 have : (S + k * M + n - L) / n + 29 ≤ (S + (k + 1) * M + n - L) / n := by
  rw [Int.le_ediv_iff_mul_le (by omega), Int.add_mul]
  have := Int.ediv_mul_le (S + k * M + n - L) (b := n) (by omega)
  omega
 omega
theorem mDay_steps {n ep sn sd mn' md ln ld : Int} (ok : OkFr n ep sn sd mn' md ln ld) (k : Int) : ∀ j : Nat, mDay n ep sn sd mn' md ln ld k + 29 * j ≤ mDay n ep sn sd mn' md ln ld (k + j)
 | 0 => by simp
 | j + 1 => by
  have h1 := mDay_steps ok k j
  have h2 := mDay_step ok (k + j)
  rw [show k + ((j + 1 : Nat) : Int) = k + j + 1 from by omega]; omega
theorem mDay_lt {n ep sn sd mn' md ln ld : Int} (ok : OkFr n ep sn sd mn' md ln ld) {a b : Int} (h : a ≤ b) : mDay n ep sn sd mn' md ln ld a + 29 * (b - a) ≤ mDay n ep sn sd mn' md ln ld b := by
 have := mDay_steps ok a (b - a).toNat
 rwa [show a + (((b - a).toNat : Nat) : Int) = b from by omega, show (((b - a).toNat : Nat) : Int) = b - a from by omega] at this
section
variable {ep sn sd mn' md ln ld cy : Int} {lp av : List Int}
theorem monD_near (ok : OkMoon ep sn sd mn' md ln ld cy lp av) (y m : Int) : mDay (parts3 sd md ld) ep sn sd mn' md ln ld (mB cy lp y + m - 1) ≤ monD ep sn sd mn' md ln ld cy lp av y m ∧ monD ep sn sd mn' md ln ld cy lp av y m ≤ mDay (parts3 sd md ld) ep sn sd mn' md ln ld (mB cy lp y + m - 1) + 3 := by
 unfold monD mStart
 split
 ·exact skipD_bound av ok.av3 _
 ·omega
theorem monD_mono (ok : OkMoon ep sn sd mn' md ln ld cy lp av) (y : Int) {a b : Int} (h : a < b) : monD ep sn sd mn' md ln ld cy lp av y a + 26 ≤ monD ep sn sd mn' md ln ld cy lp av y b := by
 have h1 := monD_near ok y a; have h2 := monD_near ok y b
 have h3 := mDay_lt ok.fr (a := mB cy lp y + a - 1) (b := mB cy lp y + b - 1) (by omega)
 omega
theorem mB_steps (ok : OkLp cy lp) (y : Int) : ∀ j : Nat, mB cy lp y + 12 * j ≤ mB cy lp (y + j)
 | 0 => by simp
 | j + 1 => by
  have h1 := mB_steps ok y j
  have h2 := mB_succ ok (y + j)
  have h3 := mMonths_bound cy lp (y + j)
  rw [show y + ((j + 1 : Nat) : Int) = y + j + 1 from by omega, h2]; omega
theorem year_lt (ok : OkMoon ep sn sd mn' md ln ld cy lp av) {a b : Int} (h : a < b) : monD ep sn sd mn' md ln ld cy lp av a 1 < monD ep sn sd mn' md ln ld cy lp av b 1 := by
 have h1 := monD_near ok a 1; have h2 := monD_near ok b 1
 have h4 := mB_steps ok.lps a (b - a).toNat
 rw [show a + (((b - a).toNat : Nat) : Int) = b from by omega] at h4
 have h3 := mDay_lt ok.fr (a := mB cy lp a + 1 - 1) (b := mB cy lp b + 1 - 1) (by omega)
 omega
def inYearM (ep sn sd mn' md ln ld cy : Int) (lp av : List Int) (day y : Int) : Prop := monD ep sn sd mn' md ln ld cy lp av y 1 ≤ day ∧ day < monD ep sn sd mn' md ln ld cy lp av (y + 1) 1
def inMonthM (ep sn sd mn' md ln ld cy : Int) (lp av : List Int) (day y m : Int) : Prop := (1 ≤ m ∧ m ≤ mMonths cy lp y) ∧ monD ep sn sd mn' md ln ld cy lp av y m ≤ day ∧ day < nextD ep sn sd mn' md ln ld cy lp av y m
theorem inYearM_uniq (ok : OkMoon ep sn sd mn' md ln ld cy lp av) {day a b : Int} (ha : inYearM ep sn sd mn' md ln ld cy lp av day a) (hb : inYearM ep sn sd mn' md ln ld cy lp av day b) : a = b := by
 obtain ⟨a1, a2⟩ := ha; obtain ⟨b1, b2⟩ := hb
 rcases Int.lt_trichotomy a b with h | h | h
 ·by_cases e : a + 1 = b
  ·rw [e] at a2; omega
  ·have := year_lt ok (show a + 1 < b by omega); omega
 ·exact h
 ·by_cases e : b + 1 = a
  ·rw [e] at b2; omega
  ·have := year_lt ok (show b + 1 < a by omega); omega
theorem inMonthM_uniq (ok : OkMoon ep sn sd mn' md ln ld cy lp av) {day y a b : Int} (ha : inMonthM ep sn sd mn' md ln ld cy lp av day y a) (hb : inMonthM ep sn sd mn' md ln ld cy lp av day y b) : a = b := by
 obtain ⟨⟨a0, a3⟩, a1, a2⟩ := ha; obtain ⟨⟨b0, b3⟩, b1, b2⟩ := hb
 have key : ∀ p q, p < q → q ≤ mMonths cy lp y → monD ep sn sd mn' md ln ld cy lp av y q ≤ day → day < nextD ep sn sd mn' md ln ld cy lp av y p → False := by
  intro p q h h2 h3 h4
  unfold nextD at h4
  rw [if_neg (by omega)] at h4
  by_cases e : p + 1 = q
  ·rw [e] at h4; omega
  ·have := monD_mono ok y (show p + 1 < q by omega); omega
 rcases Int.lt_trichotomy a b with h | h | h
 ·exact (key a b h b3 b1 a2).elim
 ·exact h
 ·exact (key b a h a3 a1 b2).elim
/-- The answer of FromDay. -/
def moonFrom (ep sn sd mn' md ln ld cy : Int) (lp av : List Int) (day : Int) (res : Option (Int × Int × Int × Int)) : Prop :=
 ((monD ep sn sd mn' md ln ld cy lp av (-9999) 1 ≤ day ∧ day < monD ep sn sd mn' md ln ld cy lp av 10000 1) ∧ ∃ y m, (-9999 ≤ y ∧ y ≤ 9999) ∧ inYearM ep sn sd mn' md ln ld cy lp av day y ∧ inMonthM ep sn sd mn' md ln ld cy lp av day y m ∧ res = some (y, m, day - monD ep sn sd mn' md ln ld cy lp av y m + 1, 0)) ∨
 (¬ (monD ep sn sd mn' md ln ld cy lp av (-9999) 1 ≤ day ∧ day < monD ep sn sd mn' md ln ld cy lp av 10000 1) ∧ res = some (0, 0, 0, 3))
theorem moonFrom_uniq (ok : OkMoon ep sn sd mn' md ln ld cy lp av) {day : Int} {a b : Option (Int × Int × Int × Int)} (ha : moonFrom ep sn sd mn' md ln ld cy lp av day a) (hb : moonFrom ep sn sd mn' md ln ld cy lp av day b) : a = b := by
 rcases ha with ⟨h1, y, m, hy, h2, h3, rfl⟩ | ⟨h1, rfl⟩
 ·rcases hb with ⟨_, y', m', hy', h2', h3', rfl⟩ | ⟨h1', _⟩
  ·obtain rfl := inYearM_uniq ok h2 h2'
   obtain rfl := inMonthM_uniq ok h3 h3'
   rfl
  ·exact absurd h1 h1'
 ·rcases hb with ⟨h1', _⟩ | ⟨_, rfl⟩
  ·exact absurd h1' h1
  ·rfl
end
theorem lunisolar_before_f {name : ByteArray} {ep sn sd mn' md ln ld cy : Int} {lp av : List Int} (ok : OkLp cy lp) (y : Int) (hy : -30000 ≤ y ∧ y ≤ 30000) (k : Nat) (hk : 10 ≤ k) : lunisolar_before.f k name ep sn sd mn' md ln ld cy lp av y = some (mB cy lp y) := by
 have hc := ok.cy; have hll := ok.llen
 obtain ⟨b1, b2, b3, b4, b5⟩ := mB_bound ok hy
 have hd : divs (y - 1) cy = ((y - 1) / cy, (y - 1) % cy, 0) := divs_pos (by omega)
 unfold lunisolar_before.f
 rw [w64_id (n := y - 1) (by omega) (by omega), whole_Div_f k (by omega) (by omega) (by omega) (by omega) (by omega), hd, Option.bind_some]
 simp only
 rw [w64_id (n := (y - 1) % cy + 1) (by omega) (by omega), sort_SearchInts_f ok.up (by omega), Option.bind_some]
 rw [show (((lp.countP fun y_1 => decide (y_1 ≤ (y - 1) % cy) : Nat)) : Int) = cntLe lp ((y - 1) % cy) from rfl]
 rw [w64_id (n := 12 * (y - 1)) (by omega) (by omega), w64_id (n := (y - 1) / cy * _) (by omega) (by omega), w64_id (n := 12 * (y - 1) + _) (by omega) (by omega), w64_id (by omega) (by omega)]
 rfl

theorem lunisolar_avoided_l0 (av : List Int) (x : Int) (hl : av.length ≤ 3) : ∀ (d i k : Nat), i + d = av.length → d < k → lunisolar_avoided.l0 k x av (av.length : Int) (i : Int) = some (decide (x ∈ av.drop i)) := by
 intro d
 induction d with
 | zero =>
  intro i k hi hk
  obtain ⟨k, rfl⟩ : ∃ m, k = m + 1 := ⟨k - 1, by omega⟩
  simp only [lunisolar_avoided.l0]
  rw [if_neg (by omega), List.drop_of_length_le (by omega)]; simp
 | succ d ih =>
  intro i k hi hk
  obtain ⟨k, rfl⟩ : ∃ m, k = m + 1 := ⟨k - 1, by omega⟩
  have hlt : i < av.length := by omega
  have ih := ih (i + 1) k (by omega) (by omega)
  simp only [lunisolar_avoided.l0]
  rw [if_pos (by omega), if_pos (by omega), if_pos (by omega), rd_get av i hlt, List.drop_eq_getElem_cons hlt, w64_id (n := (i : Int) + 1) (by omega) (by omega)]
  by_cases c : av[i] = x
  ·rw [if_pos c, decide_eq_true (by rw [c]; exact List.mem_cons_self)]
  ·rw [if_neg c, show (i : Int) + 1 = ((i + 1 : Nat) : Int) from by omega, ih]
   congr 1
   refine decide_eq_decide.2 ⟨fun h => List.mem_cons_of_mem _ h, fun h => ?_⟩
   rcases List.mem_cons.1 h with h | h
   ·exact absurd h.symm c
   ·exact h
theorem lunisolar_avoided_f {name : ByteArray} {ep sn sd mn' md ln ld cy : Int} {lp av : List Int} (x : Int) (hl : av.length ≤ 3) (k : Nat) (hk : 5 ≤ k) : lunisolar_avoided.f k name ep sn sd mn' md ln ld cy lp av x = some (decide (x ∈ av)) := by
 unfold lunisolar_avoided.f
 have := lunisolar_avoided_l0 av x hl av.length 0 k (by omega) (by omega)
 exact this

theorem lunisolar_start_l0 {name : ByteArray} {ep sn sd mn' md ln ld cy : Int} {lp av : List Int} (hl : av.length ≤ 3) : ∀ (j k : Nat) (d : Int), j + 20 < k → -1000000000 ≤ d → d + j ≤ 1000000000 → j ≤ 10 → (d + j - 1) % 7 ∉ av → (∀ i : Nat, i < j → (d + i - 1) % 7 ∈ av) →
  lunisolar_start.l0 k d name ep sn sd mn' md ln ld cy lp av = some (d + j) := by
 intro j
 induction j with
 | zero =>
  intro k d hk h0 h1 hj hn hi
  obtain ⟨k, rfl⟩ : ∃ m, k = m + 1 := ⟨k - 1, by omega⟩
  simp only [lunisolar_start.l0]
  rw [w64_id (n := d - 1) (by omega) (by omega), whole_Mod_f (by omega) (by omega), Option.bind_some, lunisolar_avoided_f _ hl k (by omega), Option.bind_some, if_neg (by simpa using hn)]
  congr 1; omega
 | succ j ih =>
  intro k d hk h0 h1 hj hn hi
  obtain ⟨k, rfl⟩ : ∃ m, k = m + 1 := ⟨k - 1, by omega⟩
  simp only [lunisolar_start.l0]
  rw [w64_id (n := d - 1) (by omega) (by omega), whole_Mod_f (by omega) (by omega), Option.bind_some, lunisolar_avoided_f _ hl k (by omega), Option.bind_some, if_pos (by have := hi 0 (by omega); simpa using this), w64_id (n := d + 1) (by omega) (by omega), ih k (d + 1) (by omega) (by omega) (by omega) (by omega) (by rw [show d + 1 + (j : Int) - 1 = d + ((j + 1 : Nat) : Int) - 1 from by omega]; exact hn) (fun i hij => by rw [show d + 1 + (i : Int) - 1 = d + ((i + 1 : Nat) : Int) - 1 from by omega]; exact hi (i + 1) (by omega))]
  congr 1; omega
theorem lunisolar_start_f {name : ByteArray} {ep sn sd mn' md ln ld cy : Int} {lp av : List Int} (ok : OkMoon ep sn sd mn' md ln ld cy lp av) (y m : Int) (hy : -30000 ≤ y ∧ y ≤ 30000) (hm : -1000 ≤ m ∧ m ≤ 1000) (k : Nat) (hk : 9223372036854775900 ≤ k) :
  lunisolar_start.f k name ep sn sd mn' md ln ld cy lp av y m = some (monD ep sn sd mn' md ln ld cy lp av y m) := by
 have hn := ok.fr.hn; have he := ok.fr.hep; have hs := ok.fr.hsd; have hm' := ok.fr.hmd; have hl := ok.fr.hld; have hsn := ok.fr.hsn; have hln := ok.fr.hln
 obtain ⟨f1, f2, f3, f4, f5, f6⟩ := ok.fr.facts
 have hB := (mB_bound ok.lps hy).2.2.2.2
 obtain ⟨g1, g2⟩ := mDay_bound ok.fr (k := mB cy lp y + m - 1) (by omega)
 unfold lunisolar_start.f
 rw [lunisolar_parts_f name ep sn sd mn' md ln ld cy lp av ok.frac k (by omega), Option.bind_some, lunisolar_before_f ok.lps y hy k (by omega), Option.bind_some, if_neg (by omega), if_neg (by omega), if_neg (by omega)]
 rw [Int.tdiv_eq_ediv_of_nonneg (a := parts3 sd md ld) (by omega), Int.tdiv_eq_ediv_of_nonneg (a := parts3 sd md ld) (by omega), Int.tdiv_eq_ediv_of_nonneg (a := parts3 sd md ld) (by omega)]
 unfold monD mStart
 generalize hN : parts3 sd md ld = n at *
 have hd : ∀ t : Int, divs t n = (t / n, t % n, 0) := fun t => divs_pos (by omega)
 rw [w64_id (n := n / sd) (by omega) (by omega), w64_id (n := n / md) (by omega) (by omega), w64_id (n := n / ld) (by omega) (by omega), w64_id (n := sn * (n / sd)) (by omega) (by omega), w64_id (n := mB cy lp y + m) (by omega) (by omega), w64_id (n := mB cy lp y + m - 1) (by omega) (by omega), w64_id (n := mn' * (n / md)) (by omega) (by omega), w64_id (n := (mB cy lp y + m - 1) * _) (by omega) (by omega), w64_id (n := sn * (n / sd) + _) (by omega) (by omega), w64_id (n := sn * (n / sd) + _ + n) (by omega) (by omega), w64_id (n := ln * (n / ld)) (by omega) (by omega), w64_id (n := sn * (n / sd) + _ + n - _) (by omega) (by omega)]
 rw [whole_Div_f k (by omega) (by omega) (by omega) (by omega) (by omega), hd, Option.bind_some]
 simp only
 have e0 : ep + (sn * (n / sd) + (mB cy lp y + m - 1) * (mn' * (n / md)) + n - ln * (n / ld)) / n = mDay n ep sn sd mn' md ln ld (mB cy lp y + m - 1) := rfl
 rw [e0, w64_id (n := mDay _ _ _ _ _ _ _ _ _) (by omega) (by omega)]
 by_cases c : m = 1
 ·rw [if_pos c, if_pos c]
  obtain ⟨j, h1, h2, h3⟩ := skip_ex av ok.av3 (mDay n ep sn sd mn' md ln ld (mB cy lp y + m - 1))
  rw [lunisolar_start_l0 ok.av3 j k _ (by omega) (by omega) (by omega) (by omega) h2 h3, skipD_at av j 7 _ (by omega) h2 h3]
 ·rw [if_neg c, if_neg c]

theorem lunisolar_months_f {name : ByteArray} {ep sn sd mn' md ln ld cy : Int} {lp av : List Int} (ok : OkLp cy lp) (y : Int) (hy : -30000 ≤ y ∧ y ≤ 30000) : lunisolar_months.f name ep sn sd mn' md ln ld cy lp av y = some (mMonths cy lp y) := by
 have hc := ok.cy; have hll := ok.llen
 have r1 := Int.emod_nonneg (y - 1) (b := cy) (by omega)
 have r2 := Int.emod_lt_of_pos (y - 1) (b := cy) (by omega)
 have hs := srch_at (l := lp) ((y - 1) % cy) ok.up
 unfold lunisolar_months.f mMonths isLeapM
 rw [w64_id (n := y - 1) (by omega) (by omega), whole_Mod_f (by omega) (by omega), Option.bind_some, w64_id (n := (y - 1) % cy + 1) (by omega) (by omega), sort_SearchInts_f ok.up (by omega), Option.bind_some]
 by_cases hlt : (lp.countP fun y_1 => decide (y_1 ≤ (y - 1) % cy)) < lp.length
 ·rw [if_pos (by omega), if_pos (by omega), rd_get lp _ hlt]
  by_cases hm : (y - 1) % cy + 1 ∈ lp
  ·rw [if_pos (hs.1 hm).2, if_pos (decide_eq_true hm)]
  ·rw [if_neg (fun h => hm (hs.2 ⟨hlt, h⟩)), if_neg (by simpa using hm)]
 ·rw [if_neg (by omega), if_neg]
  intro h
  exact hlt (hs.1 (of_decide_eq_true h)).1

theorem lunisolar_next_f {name : ByteArray} {ep sn sd mn' md ln ld cy : Int} {lp av : List Int} (ok : OkMoon ep sn sd mn' md ln ld cy lp av) (y m : Int) (hy : -29999 ≤ y ∧ y ≤ 29999) (hm : 1 ≤ m ∧ m ≤ 900) (k : Nat) (hk : 9223372036854775900 ≤ k) :
  lunisolar_next.f k name ep sn sd mn' md ln ld cy lp av y m = some (nextD ep sn sd mn' md ln ld cy lp av y m) := by
 unfold lunisolar_next.f nextD
 rw [lunisolar_months_f ok.lps y (by omega), Option.bind_some, w64_id (n := y + 1) (by omega) (by omega), w64_id (n := m + 1) (by omega) (by omega), lunisolar_start_f ok (y + 1) 1 (by omega) (by omega) k hk, lunisolar_start_f ok y (m + 1) (by omega) (by omega) k hk, Option.bind_some, Option.bind_some]
 split <;> rfl

theorem lunisolar_FromDay_l1 {name : ByteArray} {ep sn sd mn' md ln ld cy : Int} {lp av : List Int} (ok : OkMoon ep sn sd mn' md ln ld cy lp av) (day y : Int) (hd : -4000000 ≤ day ∧ day ≤ 4000000) (hy : -29000 ≤ y ∧ y ≤ 29000) (hday : inYearM ep sn sd mn' md ln ld cy lp av day y) : ∀ (f : Nat) (m : Int) (k : Nat), m + f = mMonths cy lp y → 1 ≤ m → f + 9223372036854775950 < k → monD ep sn sd mn' md ln ld cy lp av y m ≤ day →
  ∃ m', inMonthM ep sn sd mn' md ln ld cy lp av day y m' ∧ lunisolar_FromDay.l1 k day y m name ep sn sd mn' md ln ld cy lp av = some (y, m', day - monD ep sn sd mn' md ln ld cy lp av y m' + 1, 0) := by
 have hmm := mMonths_bound cy lp y
 intro f
 induction f with
 | zero =>
  intro m k h1 h2 h3 h4
  obtain ⟨k, rfl⟩ : ∃ q, k = q + 1 := ⟨k - 1, by omega⟩
  have hb := monD_bound ok (y := y) (m := m) (by omega) (by omega)
  have hn : nextD ep sn sd mn' md ln ld cy lp av y m > day := by unfold nextD; rw [if_pos (by omega)]; exact hday.2
  refine ⟨m, ⟨by omega, h4, hn⟩, ?_⟩
  simp only [lunisolar_FromDay.l1]
  rw [lunisolar_next_f ok y m (by omega) (by omega) k (by omega), Option.bind_some, if_neg (by omega), lunisolar_start_f ok y m (by omega) (by omega) k (by omega), Option.bind_some, w64_id (n := day - _) (by omega) (by omega), w64_id (n := day - _ + 1) (by omega) (by omega)]
 | succ f ih =>
  intro m k h1 h2 h3 h4
  obtain ⟨k, rfl⟩ : ∃ q, k = q + 1 := ⟨k - 1, by omega⟩
  have hb := monD_bound ok (y := y) (m := m) (by omega) (by omega)
  have hn : nextD ep sn sd mn' md ln ld cy lp av y m = monD ep sn sd mn' md ln ld cy lp av y (m + 1) := by unfold nextD; rw [if_neg (by omega)]
  by_cases c : nextD ep sn sd mn' md ln ld cy lp av y m ≤ day
  ·obtain ⟨m', i1, i2⟩ := ih (m + 1) k (by omega) (by omega) (by omega) (by omega)
   refine ⟨m', i1, ?_⟩
   simp only [lunisolar_FromDay.l1]
   rw [lunisolar_next_f ok y m (by omega) (by omega) k (by omega), Option.bind_some, if_pos c, w64_id (n := m + 1) (by omega) (by omega), i2]
  ·refine ⟨m, ⟨by omega, h4, by omega⟩, ?_⟩
   simp only [lunisolar_FromDay.l1]
   rw [lunisolar_next_f ok y m (by omega) (by omega) k (by omega), Option.bind_some, if_neg c, lunisolar_start_f ok y m (by omega) (by omega) k (by omega), Option.bind_some, w64_id (n := day - _) (by omega) (by omega), w64_id (n := day - _ + 1) (by omega) (by omega)]
theorem lunisolar_FromDay_l0 {name : ByteArray} {ep sn sd mn' md ln ld cy : Int} {lp av : List Int} (ok : OkMoon ep sn sd mn' md ln ld cy lp av) (day : Int) (hd : -4000000 ≤ day ∧ day ≤ 4000000) : ∀ (f : Nat) (lo hi : Int) (k : Nat), hi - lo ≤ f → f + 9223372036854775990 < k → -9999 ≤ lo → hi ≤ 10000 → lo < hi → monD ep sn sd mn' md ln ld cy lp av lo 1 ≤ day → day < monD ep sn sd mn' md ln ld cy lp av hi 1 →
  ∃ y m, (-9999 ≤ y ∧ y ≤ 9999) ∧ inYearM ep sn sd mn' md ln ld cy lp av day y ∧ inMonthM ep sn sd mn' md ln ld cy lp av day y m ∧ lunisolar_FromDay.l0 k day lo hi name ep sn sd mn' md ln ld cy lp av = some (y, m, day - monD ep sn sd mn' md ln ld cy lp av y m + 1, 0) := by
 intro f
 induction f with
 | zero => intro lo hi k h1 h2 h3 h4 h5; omega
 | succ f ih =>
  intro lo hi k h1 h2 h3 h4 h5 h6 h7
  obtain ⟨k, rfl⟩ : ∃ m, k = m + 1 := ⟨k - 1, by omega⟩
  conv => enter [1, y, 1, m, 2, 2, 2, 1]; unfold lunisolar_FromDay.l0
  rw [w64_id (n := hi - lo) (by omega) (by omega)]
  by_cases c1 : hi - lo > 1
  ·have ht : Int.tdiv (hi - lo) 2 = (hi - lo) / 2 := Int.tdiv_eq_ediv_of_nonneg (by omega)
   rw [if_pos c1, ht, w64_id (n := (hi - lo) / 2) (by omega) (by omega), w64_id (n := lo + (hi - lo) / 2) (by omega) (by omega), lunisolar_start_f ok _ 1 (by omega) (by omega) k (by omega), Option.bind_some]
   by_cases c2 : monD ep sn sd mn' md ln ld cy lp av (lo + (hi - lo) / 2) 1 ≤ day
   ·rw [if_pos c2]
    exact ih _ hi k (by omega) (by omega) (by omega) h4 (by omega) c2 h7
   ·rw [if_neg c2]
    exact ih lo _ k (by omega) (by omega) h3 (by omega) (by omega) h6 (by omega)
  ·obtain rfl : hi = lo + 1 := by omega
   rw [if_neg c1]
   have hmm := mMonths_bound cy lp lo
   obtain ⟨m, hm, e1⟩ := lunisolar_FromDay_l1 (name := name) ok day lo hd (by omega) ⟨h6, h7⟩ (mMonths cy lp lo - 1).toNat 1 k (by omega) (by omega) (by omega) h6
   exact ⟨lo, m, by omega, ⟨h6, h7⟩, hm, e1⟩
theorem lunisolar_FromDay_f (name : ByteArray) (ep sn sd mn' md ln ld cy : Int) (lp av : List Int) (hl : lp.length ≤ 17592186044416) (day : Int) (k : Nat) (hk : 9223372036854799990 ≤ k) :
  (moonErr name ep sn sd mn' md ln ld cy lp av ≠ 0 ∧ lunisolar_FromDay.f k name ep sn sd mn' md ln ld cy lp av day = some (0, 0, 0, moonErr name ep sn sd mn' md ln ld cy lp av)) ∨
  (moonErr name ep sn sd mn' md ln ld cy lp av = 0 ∧ ((¬ (-4000000 ≤ day ∧ day ≤ 4000000) ∧ lunisolar_FromDay.f k name ep sn sd mn' md ln ld cy lp av day = some (0, 0, 0, 3)) ∨ ((-4000000 ≤ day ∧ day ≤ 4000000) ∧ moonFrom ep sn sd mn' md ln ld cy lp av day (lunisolar_FromDay.f k name ep sn sd mn' md ln ld cy lp av day)))) := by
 obtain ⟨k, rfl⟩ : ∃ m, k = m + 1 := ⟨k - 1, by omega⟩
 unfold lunisolar_FromDay.f
 rw [lunisolar_Check_f name ep sn sd mn' md ln ld cy lp av hl _ (by omega), Option.bind_some, line_Check_f, Option.bind_some]
 by_cases h : moonErr name ep sn sd mn' md ln ld cy lp av = 0
 rotate_left
 ·exact .inl ⟨h, by rw [if_neg h]⟩
 refine .inr ⟨h, ?_⟩
 have ok := moonErr_ok h
 rw [if_pos h]
 by_cases h2 : -4000000 ≤ day ∧ day ≤ 4000000
 rotate_left
 ·exact .inl ⟨h2, by rw [if_neg h2, if_neg (by decide)]⟩
 refine .inr ⟨h2, ?_⟩
 rw [if_pos h2, if_pos rfl, lunisolar_start_f ok _ 1 (by omega) (by omega) (k + 1) (by omega), Option.bind_some, lunisolar_start_f ok _ 1 (by omega) (by omega) (k + 1) (by omega), Option.bind_some]
 have jt : lunisolar_FromDay.j0 (k + 1) day (-9999) 10000 true name ep sn sd mn' md ln ld cy lp av = some (0, 0, 0, 3) := by simp only [lunisolar_FromDay.j0, if_true]
 by_cases c1 : monD ep sn sd mn' md ln ld cy lp av (-9999) 1 > day
 ·rw [if_pos c1, jt]; exact .inr ⟨fun g => by omega, rfl⟩
 rw [if_neg c1]
 by_cases c2 : monD ep sn sd mn' md ln ld cy lp av 10000 1 ≤ day
 ·rw [decide_eq_true c2, jt]; exact .inr ⟨fun g => by omega, rfl⟩
 rw [decide_eq_false c2]
 simp only [lunisolar_FromDay.j0, Bool.false_eq_true, if_false]
 obtain ⟨y, m, a1, a2, a3, a4⟩ := lunisolar_FromDay_l0 (name := name) ok day h2 20000 (-9999) 10000 k (by omega) (by omega) (by omega) (by omega) (by omega) (by omega) (by omega)
 exact .inl ⟨⟨by omega, by omega⟩, y, m, a1, a2, a3, a4⟩

theorem MoonMonths_l0 {name : ByteArray} {ep sn sd mn' md ln ld cy : Int} {lp av : List Int} (ok : OkLp cy lp) (y : Int) (hy : -30000 ≤ y ∧ y ≤ 30000) : ∀ (d i k : Nat), i + d = lp.length → d < k →
  ephemerisref1_MoonMonths.l0 k y lp (lp.length : Int) (i : Int) name ep sn sd mn' md ln ld cy lp av = some (if ∃ z ∈ lp.drop i, (y - z) % cy = 0 then 13 else 12) := by
 have hc := ok.cy; have hll := ok.llen
 intro d
 induction d with
 | zero =>
  intro i k hi hk
  obtain ⟨k, rfl⟩ : ∃ m, k = m + 1 := ⟨k - 1, by omega⟩
  simp only [ephemerisref1_MoonMonths.l0]
  rw [if_neg (by omega), List.drop_of_length_le (by omega), if_neg (fun ⟨z, hz, _⟩ => by simp at hz)]
 | succ d ih =>
  intro i k hi hk
  obtain ⟨k, rfl⟩ : ∃ m, k = m + 1 := ⟨k - 1, by omega⟩
  have hlt : i < lp.length := by omega
  have z1 := ok.lo lp[i] (List.getElem_mem hlt)
  have z2 := ok.hi lp[i] (List.getElem_mem hlt)
  have ih := ih (i + 1) k (by omega) (by omega)
  simp only [ephemerisref1_MoonMonths.l0]
  rw [if_pos (by omega), if_pos (by omega), if_pos (by omega), rd_get lp i hlt, if_neg (by omega), w64_id (n := y - lp[i]) (by omega) (by omega), w64_id (n := (i : Int) + 1) (by omega) (by omega), List.drop_eq_getElem_cons hlt]
  have ht := tmod_zero_iff (y - lp[i]) (g := cy) (by omega)
  by_cases c : (y - lp[i]) % cy = 0
  ·rw [if_pos (ht.2 c), if_pos ⟨lp[i], List.mem_cons_self, c⟩]
  ·rw [if_neg (fun h => c (ht.1 h)), show (i : Int) + 1 = ((i + 1 : Nat) : Int) from by omega, ih]
   by_cases c2 : ∃ z ∈ lp.drop (i + 1), (y - z) % cy = 0
   ·obtain ⟨z, hz, h0⟩ := c2
    rw [if_pos ⟨z, hz, h0⟩, if_pos ⟨z, List.mem_cons_of_mem _ hz, h0⟩]
   ·rw [if_neg c2, if_neg]
    rintro ⟨z, hz, h0⟩
    rcases List.mem_cons.1 hz with rfl | hz
    ·exact c h0
    ·exact c2 ⟨z, hz, h0⟩
theorem ephemerisref1_MoonMonths_f {name : ByteArray} {ep sn sd mn' md ln ld cy : Int} {lp av : List Int} (ok : OkLp cy lp) (y : Int) (hy : -30000 ≤ y ∧ y ≤ 30000) (k : Nat) (hk : 110 ≤ k) :
  ephemerisref1_MoonMonths.f k name ep sn sd mn' md ln ld cy lp av y = some (mMonths cy lp y) := by
 have hll := ok.llen; have hc := ok.cy
 have h := MoonMonths_l0 (name := name) (ep := ep) (sn := sn) (sd := sd) (mn' := mn') (md := md) (ln := ln) (ld := ld) (av := av) ok y hy lp.length 0 k (by omega) (by omega)
 have hd := leap_dvd ok y
 unfold ephemerisref1_MoonMonths.f mMonths
 rw [show (0 : Int) = ((0 : Nat) : Int) from rfl, h, List.drop_zero]
 by_cases c : isLeapM cy lp y = true
 ·rw [if_pos c, if_pos (hd.1 c)]
 ·rw [if_neg c, if_neg (fun h => c (hd.2 h))]

theorem ephemerisref1_Mod_f {a b : Int} (k : Nat) (hk : 65 ≤ k) (ha : -9223372036854775808 ≤ a) (ha1 : a ≤ 9223372036854775807) (hb : 0 < b) (hb1 : b ≤ 9223372036854775807) : ephemerisref1_Mod.f k a b = some (a % b) := by
 unfold ephemerisref1_Mod.f
 rw [ephemerisref1_Div_f k hk ha ha1 (by omega) hb1, divs_pos hb]
 rfl

theorem ephemerisref1_Week_f {x : Int} (k : Nat) (hk : 65 ≤ k) (h0 : -4000000000000 ≤ x) (h1 : x ≤ 4000000000000) : ephemerisref1_Week.f k x = some ((x + 6) % 7) := by
 unfold ephemerisref1_Week.f
 rw [w64_id (by omega) (by omega), ephemerisref1_Mod_f k hk (by omega) (by omega) (by omega) (by omega)]
 rfl

theorem MoonBegin_l3 {name : ByteArray} {ep sn sd mn' md ln ld cy : Int} {lp av : List Int} (hl : av.length ≤ 3) (day i : Int) (hd : -1000000000 ≤ day ∧ day ≤ 1000000000) (hi7 : 0 ≤ i ∧ i < 7) : ∀ (d j k : Nat) (b : Bool), j + d = av.length → d + 100 < k →
  ephemerisref1_MoonBegin.l3 k day i b av (av.length : Int) (j : Int) name ep sn sd mn' md ln ld cy lp av = (if b = true ∨ (day - 1) % 7 ∈ av.drop j then ephemerisref1_MoonBegin.l2 (k - d - 1) (day + 1) (i + 1) name ep sn sd mn' md ln ld cy lp av else some day) := by
 intro d
 induction d with
 | zero =>
  intro j k b hj hk
  obtain ⟨k, rfl⟩ : ∃ m, k = m + 1 := ⟨k - 1, by omega⟩
  conv => lhs; unfold ephemerisref1_MoonBegin.l3
  rw [if_neg (by omega), List.drop_of_length_le (by omega), w64_id (n := day + 1) (by omega) (by omega), w64_id (n := i + 1) (by omega) (by omega)]
  cases b <;> simp
 | succ d ih =>
  intro j k b hj hk
  obtain ⟨k, rfl⟩ : ∃ m, k = m + 1 := ⟨k - 1, by omega⟩
  have hlt : j < av.length := by omega
  conv => lhs; unfold ephemerisref1_MoonBegin.l3
  rw [if_pos (by omega), if_pos (by omega), if_pos (by omega), rd_get av j hlt, w64_id (n := (j : Int) + 1) (by omega) (by omega), List.drop_eq_getElem_cons hlt, show k + 1 - (d + 1) - 1 = k - d - 1 from by omega]
  have e1 : ∀ b', ephemerisref1_MoonBegin.l3 k day i b' av (av.length : Int) ((j : Int) + 1) name ep sn sd mn' md ln ld cy lp av = (if b' = true ∨ (day - 1) % 7 ∈ av.drop (j + 1) then ephemerisref1_MoonBegin.l2 (k - d - 1) (day + 1) (i + 1) name ep sn sd mn' md ln ld cy lp av else some day) := by
   intro b'
   have := ih (j + 1) k b' (by omega) (by omega)
   rw [show ((j + 1 : Nat) : Int) = (j : Int) + 1 from by omega] at this
   exact this
  cases b with
  | true => rw [if_pos rfl, e1, if_pos (.inl rfl), if_pos (.inl rfl)]
  | false =>
   rw [if_neg (by decide), ephemerisref1_Week_f k (by omega) (by omega) (by omega), Option.bind_some, e1]
   have hw : (day + 6) % 7 = (day - 1) % 7 := by omega
   rw [hw, beq_dec]
   by_cases c : av[j] = (day - 1) % 7
   ·rw [if_pos (.inl (decide_eq_true c)), if_pos (.inr (by rw [c]; exact List.mem_cons_self))]
   ·by_cases c2 : (day - 1) % 7 ∈ av.drop (j + 1)
    ·rw [if_pos (.inr c2), if_pos (.inr (List.mem_cons_of_mem _ c2))]
    ·rw [if_neg, if_neg]
     ·rintro (h | h)
      ·cases h
      ·rcases List.mem_cons.1 h with h | h
       ·exact c h.symm
       ·exact c2 h
     ·rintro (h | h)
      ·exact c (of_decide_eq_true h)
      ·exact c2 h
theorem MoonBegin_l2 {name : ByteArray} {ep sn sd mn' md ln ld cy : Int} {lp av : List Int} (hl : av.length ≤ 3) : ∀ (j k : Nat) (d i : Int), 10 * j + 200 < k → -1000000000 ≤ d → d + j ≤ 1000000000 → 0 ≤ i → i + j < 7 → (d + j - 1) % 7 ∉ av → (∀ x : Nat, x < j → (d + x - 1) % 7 ∈ av) →
  ephemerisref1_MoonBegin.l2 k d i name ep sn sd mn' md ln ld cy lp av = some (d + j) := by
 intro j
 induction j with
 | zero =>
  intro k d i hk h0 h1 hi hj hn hx
  obtain ⟨k, rfl⟩ : ∃ m, k = m + 1 := ⟨k - 1, by omega⟩
  conv => lhs; unfold ephemerisref1_MoonBegin.l2
  have := MoonBegin_l3 (name := name) (ep := ep) (sn := sn) (sd := sd) (mn' := mn') (md := md) (ln := ln) (ld := ld) (cy := cy) (lp := lp) hl d i (by omega) (by omega) av.length 0 k false (by omega) (by omega)
  rw [if_pos (by omega), show (0 : Int) = ((0 : Nat) : Int) from rfl, this, List.drop_zero, if_neg]
  ·congr 1; omega
  ·rintro (h | h)
   ·cases h
   ·exact hn (by simpa using h)
 | succ j ih =>
  intro k d i hk h0 h1 hi hj hn hx
  obtain ⟨k, rfl⟩ : ∃ m, k = m + 1 := ⟨k - 1, by omega⟩
  conv => lhs; unfold ephemerisref1_MoonBegin.l2
  have := MoonBegin_l3 (name := name) (ep := ep) (sn := sn) (sd := sd) (mn' := mn') (md := md) (ln := ln) (ld := ld) (cy := cy) (lp := lp) hl d i (by omega) (by omega) av.length 0 k false (by omega) (by omega)
  rw [if_pos (by omega), show (0 : Int) = ((0 : Nat) : Int) from rfl, this, List.drop_zero, if_pos (.inr (by have := hx 0 (by omega); simpa using this)), ih _ (d + 1) (i + 1) (by omega) (by omega) (by omega) (by omega) (by omega) (by rw [show d + 1 + (j : Int) - 1 = d + ((j + 1 : Nat) : Int) - 1 from by omega]; exact hn) (fun x hij => by rw [show d + 1 + (x : Int) - 1 = d + ((x + 1 : Nat) : Int) - 1 from by omega]; exact hx (x + 1) (by omega))]
  congr 1; omega
/-- Behind the loops over the years. -/
theorem MoonBegin_end {name : ByteArray} {ep sn sd mn' md ln ld cy : Int} {lp av : List Int} (ok : OkMoon ep sn sd mn' md ln ld cy lp av) (y m : Int) (hy : -30000 ≤ y ∧ y ≤ 30000) (hm : 1 ≤ m ∧ m ≤ 1000) (k : Nat) (hk : 100000000000000000100 ≤ k) (x9 : Int) (hx : x9 < y) :
  ephemerisref1_MoonBegin.l1 (k + 3) y m (mB cy lp y + m - 1) x9 name ep sn sd mn' md ln ld cy lp av = some (monD ep sn sd mn' md ln ld cy lp av y m) := by
 have hn := ok.fr.hn; have he := ok.fr.hep; have hs := ok.fr.hsd; have hm' := ok.fr.hmd; have hl := ok.fr.hld; have hsn := ok.fr.hsn; have hln := ok.fr.hln
 obtain ⟨f1, f2, f3, f4, f5, f6⟩ := ok.fr.facts
 have hB := (mB_bound ok.lps hy).2.2.2.2
 obtain ⟨g1, g2⟩ := mDay_bound ok.fr (k := mB cy lp y + m - 1) (by omega)
 conv => lhs; unfold ephemerisref1_MoonBegin.l1
 rw [if_neg (by omega), ephemerisref1_Parts_f name ep sn sd mn' md ln ld cy lp av ok.frac _ (by omega), Option.bind_some, if_neg (by omega), if_neg (by omega)]
 simp only [if_neg (show ¬ ld = 0 by omega)]
 rw [Int.tdiv_eq_ediv_of_nonneg (a := parts3 sd md ld) (by omega), Int.tdiv_eq_ediv_of_nonneg (a := parts3 sd md ld) (by omega), Int.tdiv_eq_ediv_of_nonneg (a := parts3 sd md ld) (by omega)]
 unfold monD mStart
 generalize hN : parts3 sd md ld = n at *
 rw [w64_id (n := n / sd) (by omega) (by omega), w64_id (n := n / md) (by omega) (by omega), w64_id (n := n / ld) (by omega) (by omega), Int.mul_comm (n / sd) sn, Int.mul_comm (n / md) mn', Int.mul_comm (n / ld) ln, w64_id (n := sn * (n / sd)) (by omega) (by omega), w64_id (n := mn' * (n / md)) (by omega) (by omega), w64_id (n := (mB cy lp y + m - 1) * _) (by omega) (by omega), w64_id (n := sn * (n / sd) + _) (by omega) (by omega), w64_id (n := ln * (n / ld)) (by omega) (by omega)]
 rw [ephemerisref1_Floor_f _ (by omega) (by omega) (by omega) (by omega) (by omega), Option.bind_some]
 have hdm := Int.mul_ediv_add_emod (sn * (n / sd) + (mB cy lp y + m - 1) * (mn' * (n / md))) n
 have hr0 := Int.emod_nonneg (sn * (n / sd) + (mB cy lp y + m - 1) * (mn' * (n / md))) (b := n) (by omega)
 have hr1 := Int.emod_lt_of_pos (sn * (n / sd) + (mB cy lp y + m - 1) * (mn' * (n / md))) (b := n) (by omega)
 have hq1 : mDay n ep sn sd mn' md ln ld (mB cy lp y + m - 1) = ep + (sn * (n / sd) + (mB cy lp y + m - 1) * (mn' * (n / md)) + n - ln * (n / ld)) / n := rfl
 generalize (sn * (n / sd) + (mB cy lp y + m - 1) * (mn' * (n / md))) / n = q at *
 generalize (sn * (n / sd) + (mB cy lp y + m - 1) * (mn' * (n / md))) % n = r at *
 have hday : ∀ z : Int, z = (if r ≥ ln * (n / ld) then q + 1 else q) → z + ep = mDay n ep sn sd mn' md ln ld (mB cy lp y + m - 1) := by
  rintro z rfl
  rw [hq1]
  by_cases c : r ≥ ln * (n / ld)
  ·have := (ed_uniq (a := sn * (n / sd) + (mB cy lp y + m - 1) * (mn' * (n / md)) + n - ln * (n / ld)) (b := n) (q := q + 1) (r := r - ln * (n / ld)) (by omega) (by rw [Int.mul_add]; omega) (by omega) (by omega)).1
   rw [if_pos c, this]; omega
  ·have := (ed_uniq (a := sn * (n / sd) + (mB cy lp y + m - 1) * (mn' * (n / md)) + n - ln * (n / ld)) (b := n) (q := q) (r := r + n - ln * (n / ld)) (by omega) (by omega) (by omega) (by omega)).1
   rw [if_neg c, this]; omega
 have hqb : -140000000 ≤ q ∧ q ≤ 140000000 := by
  have := hday _ rfl
  split at this <;> omega
 have hnq : q * n = n * q := Int.mul_comm ..
 rw [w64_id (n := q * n) (by omega) (by omega), w64_id (n := _ - q * n) (by omega) (by omega), w64_id (n := q + 1) (by omega) (by omega), show sn * (n / sd) + (mB cy lp y + m - 1) * (mn' * (n / md)) - q * n = r from by omega]
 have j2 : ∀ z : Int, z = (if r ≥ ln * (n / ld) then q + 1 else q) → ephemerisref1_MoonBegin.j2 (k + 2) m z name ep sn sd mn' md ln ld cy lp av = some (if m = 1 then skipD av 7 (mDay n ep sn sd mn' md ln ld (mB cy lp y + m - 1)) else mDay n ep sn sd mn' md ln ld (mB cy lp y + m - 1)) := by
  intro z hz
  have hd := hday z hz
  simp only [ephemerisref1_MoonBegin.j2]
  rw [hd, w64_id (n := mDay _ _ _ _ _ _ _ _ _) (by omega) (by omega)]
  by_cases c : m = 1
  ·rw [if_neg (by omega), if_pos c]
   obtain ⟨j, h1, h2, h3⟩ := skip_ex av ok.av3 (mDay n ep sn sd mn' md ln ld (mB cy lp y + m - 1))
   rw [MoonBegin_l2 ok.av3 j (k + 1) _ 0 (by omega) (by omega) (by omega) (by omega) (by omega) h2 h3, skipD_at av j 7 _ (by omega) h2 h3]
  ·rw [if_pos (by omega), if_neg c]
 by_cases c : r ≥ ln * (n / ld)
 ·rw [if_pos c]; exact j2 _ (by rw [if_pos c])
 ·rw [if_neg c]; exact j2 _ (by rw [if_neg c])
theorem MoonBegin_l1 {name : ByteArray} {ep sn sd mn' md ln ld cy : Int} {lp av : List Int} (ok : OkMoon ep sn sd mn' md ln ld cy lp av) (y m : Int) (hy : -30000 ≤ y ∧ y ≤ 30000) (hm : 1 ≤ m ∧ m ≤ 1000) : ∀ (d k : Nat) (x : Int), x + 1 = y + d → x ≤ 30000 → 100000000000000001000 + d ≤ k →
  ephemerisref1_MoonBegin.l1 k y m (mB cy lp (x + 1) + m - 1) x name ep sn sd mn' md ln ld cy lp av = some (monD ep sn sd mn' md ln ld cy lp av y m) := by
 intro d
 induction d with
 | zero =>
  intro k x hx h30 hk
  obtain ⟨k, rfl⟩ : ∃ m, k = m + 3 := ⟨k - 3, by omega⟩
  rw [show x + 1 = y from by omega]
  exact MoonBegin_end ok y m hy hm k (by omega) x (by omega)
 | succ d ih =>
  intro k x hx h30 hk
  obtain ⟨k, rfl⟩ : ∃ m, k = m + 1 := ⟨k - 1, by omega⟩
  have hs := mB_succ ok.lps x
  have hb := (mB_bound ok.lps (y := x) (by omega)).2.2.2.2
  have hmm := mMonths_bound cy lp x
  conv => lhs; unfold ephemerisref1_MoonBegin.l1
  rw [if_pos (by omega), ephemerisref1_MoonMonths_f ok.lps x (by omega) k (by omega), Option.bind_some, w64_id (n := _ - mMonths cy lp x) (by omega) (by omega), w64_id (n := x - 1) (by omega) (by omega), show mB cy lp (x + 1) + m - 1 - mMonths cy lp x = mB cy lp (x - 1 + 1) + m - 1 from by rw [show x - 1 + 1 = x from by omega]; omega]
  exact ih k (x - 1) (by omega) (by omega) (by omega)
theorem MoonBegin_l0 {name : ByteArray} {ep sn sd mn' md ln ld cy : Int} {lp av : List Int} (ok : OkMoon ep sn sd mn' md ln ld cy lp av) (y m : Int) (hy : 1 ≤ y ∧ y ≤ 30000) (hm : 1 ≤ m ∧ m ≤ 1000) : ∀ (d k : Nat) (x : Int), x + d = y → 1 ≤ x → 100000000000000001010 + d ≤ k →
  ephemerisref1_MoonBegin.l0 k y m (mB cy lp x + m - 1) x name ep sn sd mn' md ln ld cy lp av = some (monD ep sn sd mn' md ln ld cy lp av y m) := by
 intro d
 induction d with
 | zero =>
  intro k x hx h1 hk
  obtain ⟨k, rfl⟩ : ∃ m, k = m + 4 := ⟨k - 4, by omega⟩
  conv => lhs; unfold ephemerisref1_MoonBegin.l0
  rw [if_neg (by omega), show x = y from by omega]
  exact MoonBegin_end ok y m (by omega) hm k (by omega) 0 (by omega)
 | succ d ih =>
  intro k x hx h1 hk
  obtain ⟨k, rfl⟩ : ∃ m, k = m + 1 := ⟨k - 1, by omega⟩
  have hs := mB_succ ok.lps x
  have hb := (mB_bound ok.lps (y := x) (by omega)).2.2.2.2
  have hmm := mMonths_bound cy lp x
  conv => lhs; unfold ephemerisref1_MoonBegin.l0
  rw [if_pos (by omega), ephemerisref1_MoonMonths_f ok.lps x (by omega) k (by omega), Option.bind_some, w64_id (n := _ + mMonths cy lp x) (by omega) (by omega), w64_id (n := x + 1) (by omega) (by omega), show mB cy lp x + m - 1 + mMonths cy lp x = mB cy lp (x + 1) + m - 1 from by omega]
  exact ih k (x + 1) (by omega) (by omega) (by omega)
theorem ephemerisref1_MoonBegin_f {name : ByteArray} {ep sn sd mn' md ln ld cy : Int} {lp av : List Int} (ok : OkMoon ep sn sd mn' md ln ld cy lp av) (y m : Int) (hy : -30000 ≤ y ∧ y ≤ 30000) (hm : 1 ≤ m ∧ m ≤ 1000) (k : Nat) (hk : 100000000000000200000 ≤ k) :
  ephemerisref1_MoonBegin.f k name ep sn sd mn' md ln ld cy lp av y m = some (monD ep sn sd mn' md ln ld cy lp av y m) := by
 unfold ephemerisref1_MoonBegin.f
 have h1 := mB_one ok.lps
 rw [w64_id (n := m - 1) (by omega) (by omega), show m - 1 = mB cy lp 1 + m - 1 from by omega]
 by_cases c : 1 ≤ y
 ·exact MoonBegin_l0 ok y m (by omega) hm (y - 1).toNat k 1 (by omega) (by omega) (by omega)
 ·obtain ⟨k, rfl⟩ : ∃ m, k = m + 1 := ⟨k - 1, by omega⟩
  conv => lhs; unfold ephemerisref1_MoonBegin.l0
  rw [if_neg (by omega)]
  exact MoonBegin_l1 ok y m hy hm (1 - y).toNat k 0 (by omega) (by omega) (by omega)

theorem MoonFromDay_l2 {name : ByteArray} {ep sn sd mn' md ln ld cy : Int} {lp av : List Int} (ok : OkMoon ep sn sd mn' md ln ld cy lp av) (day y : Int) (hd : -4000000 ≤ day ∧ day ≤ 4000000) (hy : -29000 ≤ y ∧ y ≤ 29000) (hday : inYearM ep sn sd mn' md ln ld cy lp av day y) : ∀ (f : Nat) (m : Int) (k : Nat), m = f + 1 → m ≤ mMonths cy lp y → f + 100000000000000200010 < k → day < nextD ep sn sd mn' md ln ld cy lp av y m →
  ∃ m', inMonthM ep sn sd mn' md ln ld cy lp av day y m' ∧ ephemerisref1_MoonFromDay.l2 k day y m name ep sn sd mn' md ln ld cy lp av = some (y, m', day - monD ep sn sd mn' md ln ld cy lp av y m' + 1, 0) := by
 have hmm := mMonths_bound cy lp y
 intro f
 induction f with
 | zero =>
  intro m k h1 h2 h3 h4
  obtain ⟨k, rfl⟩ : ∃ q, k = q + 1 := ⟨k - 1, by omega⟩
  obtain rfl : m = 1 := by omega
  have hb := monD_bound ok (y := y) (m := 1) (by omega) (by omega)
  have hle := hday.1
  refine ⟨1, ⟨by omega, hle, h4⟩, ?_⟩
  simp only [ephemerisref1_MoonFromDay.l2]
  rw [if_neg (by omega), ephemerisref1_MoonBegin_f ok y 1 (by omega) (by omega) k (by omega), Option.bind_some, w64_id (n := day - _) (by omega) (by omega), w64_id (n := day - _ + 1) (by omega) (by omega)]
 | succ f ih =>
  intro m k h1 h2 h3 h4
  obtain ⟨k, rfl⟩ : ∃ q, k = q + 1 := ⟨k - 1, by omega⟩
  have hb := monD_bound ok (y := y) (m := m) (by omega) (by omega)
  have hn : nextD ep sn sd mn' md ln ld cy lp av y (m - 1) = monD ep sn sd mn' md ln ld cy lp av y m := by unfold nextD; rw [if_neg (by omega), show m - 1 + 1 = m from by omega]
  by_cases c : monD ep sn sd mn' md ln ld cy lp av y m > day
  ·obtain ⟨m', i1, i2⟩ := ih (m - 1) k (by omega) (by omega) (by omega) (by omega)
   refine ⟨m', i1, ?_⟩
   simp only [ephemerisref1_MoonFromDay.l2]
   rw [if_pos (by omega), ephemerisref1_MoonBegin_f ok y m (by omega) (by omega) k (by omega), Option.bind_some, if_pos c, w64_id (n := m - 1) (by omega) (by omega), i2]
  ·refine ⟨m, ⟨by omega, by omega, h4⟩, ?_⟩
   simp only [ephemerisref1_MoonFromDay.l2]
   rw [if_pos (by omega), ephemerisref1_MoonBegin_f ok y m (by omega) (by omega) k (by omega), Option.bind_some, if_neg c, Option.bind_some, w64_id (n := day - _) (by omega) (by omega), w64_id (n := day - _ + 1) (by omega) (by omega)]
theorem MoonFromDay_l1 {name : ByteArray} {ep sn sd mn' md ln ld cy : Int} {lp av : List Int} (ok : OkMoon ep sn sd mn' md ln ld cy lp av) (day : Int) (hd : -4000000 ≤ day ∧ day ≤ 4000000) (hlo : monD ep sn sd mn' md ln ld cy lp av (-9999) 1 ≤ day) : ∀ (f : Nat) (y : Int) (k : Nat), y + f = 9999 → -9999 ≤ y → f + 100000000000000200100 < k → monD ep sn sd mn' md ln ld cy lp av y 1 ≤ day →
  moonFrom ep sn sd mn' md ln ld cy lp av day (ephemerisref1_MoonFromDay.l1 k day y name ep sn sd mn' md ln ld cy lp av) := by
 intro f
 induction f with
 | zero =>
  intro y k h1 h2 h3 h4
  obtain ⟨k, rfl⟩ : ∃ q, k = q + 1 := ⟨k - 1, by omega⟩
  obtain rfl : y = 9999 := by omega
  simp only [ephemerisref1_MoonFromDay.l1]
  rw [show wrap64 ((9999 : Int) + 1) = 10000 from by rw [w64_id (by omega) (by omega)]; rfl, ephemerisref1_MoonBegin_f ok 10000 1 (by omega) (by omega) k (by omega), Option.bind_some]
  by_cases c : monD ep sn sd mn' md ln ld cy lp av 10000 1 ≤ day
  ·rw [if_pos c, if_pos (by decide)]; exact .inr ⟨fun g => by omega, rfl⟩
  ·have hmm := mMonths_bound cy lp 9999
   rw [if_neg c, ephemerisref1_MoonMonths_f ok.lps 9999 (by omega) k (by omega), Option.bind_some]
   have hc : day < monD ep sn sd mn' md ln ld cy lp av (9999 + 1) 1 := Int.not_le.1 c
   have hiy : inYearM ep sn sd mn' md ln ld cy lp av day 9999 := ⟨h4, hc⟩
   obtain ⟨m, i1, i2⟩ := MoonFromDay_l2 (name := name) ok day 9999 hd (by omega) hiy (mMonths cy lp 9999 - 1).toNat (mMonths cy lp 9999) k (by omega) (by omega) (by omega) (by unfold nextD; rw [if_pos rfl]; exact hc)
   exact .inl ⟨⟨hlo, by omega⟩, 9999, m, by omega, hiy, i1, i2⟩
 | succ f ih =>
  intro y k h1 h2 h3 h4
  obtain ⟨k, rfl⟩ : ∃ q, k = q + 1 := ⟨k - 1, by omega⟩
  simp only [ephemerisref1_MoonFromDay.l1]
  rw [w64_id (n := y + 1) (by omega) (by omega), ephemerisref1_MoonBegin_f ok (y + 1) 1 (by omega) (by omega) k (by omega), Option.bind_some]
  by_cases c : monD ep sn sd mn' md ln ld cy lp av (y + 1) 1 ≤ day
  ·rw [if_pos c, if_neg (by omega)]; exact ih (y + 1) k (by omega) (by omega) (by omega) c
  ·have hmm := mMonths_bound cy lp y
   rw [if_neg c, ephemerisref1_MoonMonths_f ok.lps y (by omega) k (by omega), Option.bind_some]
   have hiy : inYearM ep sn sd mn' md ln ld cy lp av day y := ⟨h4, by omega⟩
   obtain ⟨m, i1, i2⟩ := MoonFromDay_l2 (name := name) ok day y hd (by omega) hiy (mMonths cy lp y - 1).toNat (mMonths cy lp y) k (by omega) (by omega) (by omega) (by unfold nextD; rw [if_pos rfl]; omega)
   have hlt := year_lt ok (show y + 1 < 10000 by omega)
   exact .inl ⟨⟨hlo, by omega⟩, y, m, by omega, hiy, i1, i2⟩
theorem MoonFromDay_l0 {name : ByteArray} {ep sn sd mn' md ln ld cy : Int} {lp av : List Int} (ok : OkMoon ep sn sd mn' md ln ld cy lp av) (day : Int) (hd : -4000000 ≤ day ∧ day ≤ 4000000) : ∀ (f : Nat) (y : Int) (k : Nat), y = f + -9999 → y ≤ 9999 → f + 100000000000000300000 < k →
  moonFrom ep sn sd mn' md ln ld cy lp av day (ephemerisref1_MoonFromDay.l0 k day y name ep sn sd mn' md ln ld cy lp av) := by
 have j2 : ∀ (y : Int) (k : Nat), -9999 ≤ y → y ≤ 9999 → 100000000000000290000 < k → (y = -9999 ∨ monD ep sn sd mn' md ln ld cy lp av y 1 ≤ day) → moonFrom ep sn sd mn' md ln ld cy lp av day (ephemerisref1_MoonFromDay.j2 k day y name ep sn sd mn' md ln ld cy lp av) := by
  intro y k h1 h2 h3 h4
  obtain ⟨k, rfl⟩ : ∃ q, k = q + 1 := ⟨k - 1, by omega⟩
  simp only [ephemerisref1_MoonFromDay.j2]
  rw [ephemerisref1_MoonBegin_f ok y 1 (by omega) (by omega) k (by omega), Option.bind_some]
  by_cases c : monD ep sn sd mn' md ln ld cy lp av y 1 > day
  ·obtain rfl : y = -9999 := by omega
   rw [if_pos c]; exact .inr ⟨fun g => by omega, rfl⟩
  ·rw [if_neg c]
   have hlo : monD ep sn sd mn' md ln ld cy lp av (-9999) 1 ≤ day := by
    by_cases e : y = -9999
    ·subst e; omega
    ·have := year_lt ok (show -9999 < y by omega); omega
   exact MoonFromDay_l1 ok day hd hlo (9999 - y).toNat y k (by omega) (by omega) (by omega) (by omega)
 intro f
 induction f with
 | zero =>
  intro y k h1 h2 h3
  obtain ⟨k, rfl⟩ : ∃ q, k = q + 1 := ⟨k - 1, by omega⟩
  obtain rfl : y = -9999 := by omega
  simp only [ephemerisref1_MoonFromDay.l0]
  rw [if_neg (by decide)]; exact j2 _ k (by omega) (by omega) (by omega) (.inl rfl)
 | succ f ih =>
  intro y k h1 h2 h3
  obtain ⟨k, rfl⟩ : ∃ q, k = q + 1 := ⟨k - 1, by omega⟩
  simp only [ephemerisref1_MoonFromDay.l0]
  rw [if_pos (by omega), ephemerisref1_MoonBegin_f ok y 1 (by omega) (by omega) k (by omega), Option.bind_some]
  by_cases c : monD ep sn sd mn' md ln ld cy lp av y 1 > day
  ·rw [if_pos c, w64_id (n := y - 1) (by omega) (by omega)]; exact ih (y - 1) k (by omega) (by omega) (by omega)
  ·rw [if_neg c]; exact j2 y k (by omega) (by omega) (by omega) (.inr (by omega))
theorem ephemerisref1_MoonFromDay_f {name : ByteArray} {ep sn sd mn' md ln ld cy : Int} {lp av : List Int} (ok : OkMoon ep sn sd mn' md ln ld cy lp av) (day : Int) (k : Nat) (hk : 100000000000000400000 ≤ k) :
  (¬ (-4000000 ≤ day ∧ day ≤ 4000000) ∧ ephemerisref1_MoonFromDay.f k name ep sn sd mn' md ln ld cy lp av day = some (0, 0, 0, 3)) ∨ ((-4000000 ≤ day ∧ day ≤ 4000000) ∧ moonFrom ep sn sd mn' md ln ld cy lp av day (ephemerisref1_MoonFromDay.f k name ep sn sd mn' md ln ld cy lp av day)) := by
 obtain ⟨k, rfl⟩ : ∃ m, k = m + 1 := ⟨k - 1, by omega⟩
 have he := ok.fr.hep
 unfold ephemerisref1_MoonFromDay.f
 rw [ephemerisref1_Day_f, Option.bind_some]
 by_cases h2 : -4000000 ≤ day ∧ day ≤ 4000000
 rotate_left
 ·exact .inl ⟨h2, by rw [if_neg (by simpa using h2)]⟩
 refine .inr ⟨h2, ?_⟩
 rw [if_pos (decide_eq_true h2), w64_id (n := day - ep) (by omega) (by omega), ephemerisref1_Floor_f _ (by omega) (by omega) (by omega) (by omega) (by omega), ephemerisref1_Floor_f _ (by omega) (by omega) (by omega) (by omega) (by omega), Option.bind_some, Option.bind_some]
 have hj : ∀ x, moonFrom ep sn sd mn' md ln ld cy lp av day (ephemerisref1_MoonFromDay.j0 (k + 1) day x name ep sn sd mn' md ln ld cy lp av) := by
  intro x
  have hx : -9999 ≤ mn (mx x (-9999)) 9999 ∧ mn (mx x (-9999)) 9999 ≤ 9999 := by unfold mn mx; split <;> split <;> omega
  simp only [ephemerisref1_MoonFromDay.j0]
  exact MoonFromDay_l0 ok day h2 (mn (mx x (-9999)) 9999 + 9999).toNat _ k (by omega) (by omega) (by omega)
 split <;> exact hj _

theorem plain_ok : moonErr (⟨#[112, 108, 97, 105, 110]⟩ : ByteArray) 1 0 1 59 2 1 1 1 [] [] = 0 := by
 have n1 : isName (⟨#[112, 108, 97, 105, 110]⟩ : ByteArray) = true := by unfold isName noWord; rw [toList_data]; decide
 unfold moonErr
 rw [if_pos n1, if_pos (by decide), if_pos (by decide), if_pos (by decide), if_neg (by decide), if_pos (by decide)]
 decide
theorem LunisolarFromDays : ephemerislaw1_LunisolarFromDays.Pure := by
 intro name ep sn sd mn' md ln ld cy lp av day hs _ _ _ hmn _ _ _ _ hl _ _
 have hmn := wf_i64 hmn
 obtain ⟨K, hK⟩ : ∃ K : Nat, 100000000000000400010 ≤ K := ⟨_, Nat.le_refl _⟩
 refine ⟨K + 4, ?_⟩
 unfold ephemerislaw1_LunisolarFromDays.f
 rw [ephemerislaw1_plainMoon_f, Option.bind_some]
 simp only
 have e59 : lunisolar_FromDay.f (K + 4) (⟨#[112, 108, 97, 105, 110]⟩ : ByteArray) 1 0 1 59 2 1 1 1 [] [] 59 = some (1, 2, 30, 0) := by
  have ok := moonErr_ok plain_ok
  have b1 : monD 1 0 1 59 2 1 1 1 [] [] 1 2 = 30 := by decide
  have b2 : monD 1 0 1 59 2 1 1 1 [] [] 1 3 = 60 := by decide
  have b3 : monD 1 0 1 59 2 1 1 1 [] [] 1 1 = 1 := by decide
  have b4 : monD 1 0 1 59 2 1 1 1 [] [] (1 + 1) 1 = 355 := by decide
  have hmm : mMonths 1 [] 1 = 12 := by decide
  have lo := year_lt ok (show (-9999 : Int) < 1 by omega)
  have hi := year_lt ok (show (1 : Int) + 1 < 10000 by omega)
  rcases lunisolar_FromDay_f (⟨#[112, 108, 97, 105, 110]⟩ : ByteArray) 1 0 1 59 2 1 1 1 [] [] (by simp) 59 (K + 4) (by omega) with ⟨h, _⟩ | ⟨_, ⟨h, _⟩ | ⟨_, h⟩⟩
  ·exact absurd plain_ok h
  ·exact absurd (by omega) h
  ·refine moonFrom_uniq ok h (.inl ⟨⟨by omega, by omega⟩, 1, 2, by omega, ⟨by omega, by omega⟩, ⟨by omega, by omega, ?_⟩, by rw [b1]; rfl⟩)
   unfold nextD; rw [hmm, if_neg (by decide), show (2 : Int) + 1 = 3 from rfl, b2]; decide
 have hj2 : ∀ (x : Int) (k : Nat), 100000000000000400003 ≤ k → ephemerislaw1_LunisolarFromDays.j2 k x name ep sn sd mn' md ln ld cy lp av = some true := by
  intro x k hk
  obtain ⟨k, rfl⟩ : ∃ m, k = m + 1 := ⟨k - 1, by omega⟩
  simp only [ephemerislaw1_LunisolarFromDays.j2]
  rw [ephemerisref1_MoonError_f name ep sn sd mn' md ln ld cy lp av (by omega) hmn hs _ (by omega)]
  rcases lunisolar_FromDay_f name ep sn sd mn' md ln ld cy lp av (by omega) x k (by omega) with ⟨h, e⟩ | ⟨h, hr⟩
  ·rw [e, Option.bind_some, Option.bind_some, if_neg h]; simp
  ·have ok := moonErr_ok h
   have he : lunisolar_FromDay.f k name ep sn sd mn' md ln ld cy lp av x = ephemerisref1_MoonFromDay.f k name ep sn sd mn' md ln ld cy lp av x ∧ ∃ r, ephemerisref1_MoonFromDay.f k name ep sn sd mn' md ln ld cy lp av x = some r := by
    rcases hr with ⟨h2, e⟩ | ⟨h2, e⟩
    ·rcases ephemerisref1_MoonFromDay_f (name := name) ok x k (by omega) with ⟨_, e2⟩ | ⟨h3, _⟩
     ·exact ⟨e.trans e2.symm, _, e2⟩
     ·exact absurd h3 h2
    ·rcases ephemerisref1_MoonFromDay_f (name := name) ok x k (by omega) with ⟨h3, _⟩ | ⟨_, e2⟩
     ·exact absurd h2 h3
     ·refine ⟨moonFrom_uniq ok e e2, ?_⟩
      rcases e2 with ⟨_, _, _, _, _, _, e3⟩ | ⟨_, e3⟩
      ·exact ⟨_, e3⟩
      ·exact ⟨_, e3⟩
   obtain ⟨e1, r, e2⟩ := he
   rw [e1, e2, Option.bind_some, Option.bind_some, if_pos h, Option.bind_some]; simp
 rw [e59, Option.bind_some]
 simp only [beq_self_eq_true, Bool.not_true, Bool.or_self, Bool.false_eq_true, if_false, bne_self_eq_false, ephemerislaw1_LunisolarFromDays.j0]
 rw [ephemerisref1_Day_f, Option.bind_some]
 have hj1 : ∀ b : Bool, ephemerislaw1_LunisolarFromDays.j1 (K + 3) day b name ep sn sd mn' md ln ld cy lp av = some true := by
  intro b
  simp only [ephemerislaw1_LunisolarFromDays.j1]
  split <;> exact hj2 _ _ (by omega)
 split
 ·split <;> exact hj1 _
 ·exact hj1 _
end Go.Proofs.Ytlefdgllpdbkjaa.Pure
