/- The law FracTexts over numbers and lists: what the law's functions tell, and that the law holds. -/
import Derived.Test.YtmiieommlhbbdaaDoorPFracTextsx5
import Derived.Test.YtmiieommlhbbdaaDoorM
import Derived.Test.YtmiieommlhbbdaaDoorF
import Derived.Test.YtmiieommlhbbdaaDoorO
import Derived.Test.YtmiieommlhbbdaaDoorT
import Derived.Test.YtmiieommlhbbdaaDoorI
import Derived.Lib.ItoaLen
namespace Go.Proofs.YtmiieommlhbbdaaDoor.Pure
open Go.RowKit Go.Proofs.YtmiieommlhbbdaaDoor.PFracTexts Go.Proofs.YtmiieommlhbbdaaDoorW.PrintWords Go.Proofs.YtmiieommlhbbdaaDoorW.PrintLast Go.Proofs.YtmiieommlhbbdaaDoor.M Go.Proofs.YtmiieommlhbbdaaDoor.F Go.Proofs.YtmiieommlhbbdaaDoor.O Go.Proofs.YtmiieommlhbbdaaDoor.T Go.Proofs.YtmiieommlhbbdaaDoor.I
set_option linter.unusedVariables false
set_option linter.unusedSimpArgs false
/-- The law over numbers and lists. -/
def ephemerislaw1_FracTexts.Pure : Prop := ∀ (a0_0 : Int) (a0_1 : Int) (a1 : ByteArray), (Lit.int .i64 a0_0).wf = true → (Lit.int .i64 a0_1).wf = true → a1.size ≤ 140737488351232 → ∃ k, ephemerislaw1_FracTexts.f k a0_0 a0_1 a1 = some true

theorem whole_size_f {a : Int} (h0 : -9223372036854775808 ≤ a) (h1 : a ≤ 9223372036854775807) : whole_size.f a = some (ab a) := by
  unfold whole_size.f ab
  by_cases c : a < 0
  · rw [if_pos c, if_pos c, u64_def a, u64_def]
    congr 1; omega
  · rw [if_neg c, if_neg c, u64_id (by omega) (by omega)]

theorem whole_Gcd_l0 : ∀ (n k x y : Nat), y ≤ n → n < k → x ≤ 9223372036854775808 → y ≤ 9223372036854775808 → (0 < x ∨ y ≤ 9223372036854775808) →
    whole_Gcd.l0 k (x : Int) (y : Int) = some (if Nat.gcd x y = 9223372036854775808 then (0, 14) else ((Nat.gcd x y : Int), 0)) := by
  intro n
  induction n with
  | zero =>
    intro k x y hy hk hx hy1 _
    obtain ⟨k, rfl⟩ : ∃ m, k = m + 1 := ⟨k - 1, by omega⟩
    obtain rfl : y = 0 := by omega
    simp only [whole_Gcd.l0]
    rw [if_pos (by omega), Nat.gcd_zero_right]
    by_cases c : x = 9223372036854775808
    · rw [if_pos (by omega), if_pos c]
    · rw [if_neg (by omega), if_neg c, w64_id (by omega) (by omega)]
  | succ n ih =>
    intro k x y hy hk hx hy1 _
    obtain ⟨k, rfl⟩ : ∃ m, k = m + 1 := ⟨k - 1, by omega⟩
    simp only [whole_Gcd.l0]
    by_cases c0 : y = 0
    · subst c0
      rw [if_pos (by omega), Nat.gcd_zero_right]
      by_cases c : x = 9223372036854775808
      · rw [if_pos (by omega), if_pos c]
      · rw [if_neg (by omega), if_neg c, w64_id (by omega) (by omega)]
    · have hm : x % y < y := Nat.mod_lt _ (by omega)
      rw [if_neg (by omega), show Int.tmod (x : Int) (y : Int) = ((x % y : Nat) : Int) from by rw [← Int.ofNat_tmod]]
      rw [ih k y (x % y) (by omega) (by omega) hy1 (by omega) (.inl (by omega))]
      rw [show Nat.gcd y (x % y) = Nat.gcd x y from by rw [Nat.gcd_comm y, ← Nat.gcd_rec, Nat.gcd_comm]]
theorem gcd_ab (a b : Int) : Nat.gcd (ab a).toNat (ab b).toNat = Int.gcd a b := by
  have h : ∀ c : Int, (ab c).toNat = c.natAbs := fun c => by unfold ab; split <;> omega
  rw [h, h]; rfl
theorem gcd_le {a b : Int} (ha : -9223372036854775808 ≤ a) (ha1 : a ≤ 9223372036854775807) (hb : -9223372036854775808 ≤ b) (hb1 : b ≤ 9223372036854775807) : Int.gcd a b ≤ 9223372036854775808 := by
  show Nat.gcd a.natAbs b.natAbs ≤ _
  by_cases h : a.natAbs = 0
  · rw [h, Nat.gcd_zero_left]; omega
  · have := Nat.gcd_le_left b.natAbs (show 0 < a.natAbs by omega)
    omega
theorem whole_Gcd_f {a b : Int} (k : Nat) (hk : 9223372036854775810 ≤ k) (ha : -9223372036854775808 ≤ a) (ha1 : a ≤ 9223372036854775807) (hb : -9223372036854775808 ≤ b) (hb1 : b ≤ 9223372036854775807) :
    whole_Gcd.f k a b = some (if Int.gcd a b = 9223372036854775808 then (0, 14) else ((Int.gcd a b : Int), 0)) := by
  unfold whole_Gcd.f
  rw [whole_size_f ha ha1, whole_size_f hb hb1]
  simp only [Option.bind_some]
  have e1 := ab_nonneg a
  have e2 := ab_nonneg b
  have e3 := ab_le ha ha1
  have e4 := ab_le hb hb1
  have := whole_Gcd_l0 9223372036854775808 k (ab a).toNat (ab b).toNat (by omega) (by omega) (by omega) (by omega) (.inr (by omega))
  rw [gcd_ab, Int.toNat_of_nonneg e1, Int.toNat_of_nonneg e2] at this
  exact this

theorem frac_Check_f {n d : Int} (k : Nat) (hk : 9223372036854775820 ≤ k) : frac_Check.f k n d = some (if fracOK n d = true then 0 else 8) := by
  obtain ⟨k, rfl⟩ : ∃ m, k = m + 1 := ⟨k - 1, by omega⟩
  have hj : frac_Check.f (k + 1) n d = frac_Check.j0 (k + 1) (decide (¬ ((1 ≤ d ∧ d ≤ 2147483647) ∧ (-2147483647 ≤ n ∧ n ≤ 2147483647)))) n d := by
    unfold frac_Check.f
    by_cases c1 : d < 1
    · rw [if_pos c1, decide_eq_true (by omega)]
    rw [if_neg c1]
    by_cases c2 : d > 2147483647
    · rw [if_pos c2, decide_eq_true (by omega)]
    rw [if_neg c2]
    by_cases c3 : n < -2147483647
    · rw [if_pos c3, decide_eq_true (by omega)]
    rw [if_neg c3]
    by_cases c4 : n > 2147483647
    · rw [decide_eq_true c4, decide_eq_true (by omega)]
    · rw [decide_eq_false c4, decide_eq_false (by omega)]
  rw [hj]
  simp only [frac_Check.j0, decide_eq_true_eq, fracOK]
  by_cases c : (1 ≤ d ∧ d ≤ 2147483647) ∧ (-2147483647 ≤ n ∧ n ≤ 2147483647)
  · rw [if_neg (fun h => h c), whole_Gcd_f k (by omega) (by omega) (by omega) (by omega) (by omega), Option.bind_some]
    have hle := gcd_pos_le n (m := d) (by omega)
    have h9 : ¬ Int.gcd n d = 9223372036854775808 := by omega
    rw [if_neg h9]
    by_cases c2 : Int.gcd n d = 1
    · have h8 : (1 ≤ d ∧ d ≤ 2147483647) ∧ (-2147483647 ≤ n ∧ n ≤ 2147483647) ∧ Int.gcd n d = 1 := ⟨c.1, c.2, c2⟩
      rw [if_pos h8]; simp [c2]
    · have h8 : ¬ ((1 ≤ d ∧ d ≤ 2147483647) ∧ (-2147483647 ≤ n ∧ n ≤ 2147483647) ∧ Int.gcd n d = 1) := fun h => c2 h.2.2
      have h7 : ¬ (Int.gcd n d : Int) = 1 := by omega
      rw [if_neg h8]
      simp only [if_neg h7]
  · have h8 : ¬ ((1 ≤ d ∧ d ≤ 2147483647) ∧ (-2147483647 ≤ n ∧ n ≤ 2147483647) ∧ Int.gcd n d = 1) := fun h => c ⟨h.1, h.2.1⟩
    rw [if_pos c, if_neg h8]

theorem ephemerisref1_In_f (x lo hi : Int) : ephemerisref1_In.f x lo hi = some (decide (lo ≤ x ∧ x ≤ hi)) := by
  unfold ephemerisref1_In.f
  by_cases h : x ≥ lo
  · rw [if_pos h]; congr 1; simp; omega
  · rw [if_neg h]; congr 1; simp; omega

theorem ephemerisref1_Num_f (x : Int) : ephemerisref1_Num.f x = some (decide (-2147483647 ≤ x ∧ x ≤ 2147483647)) := by
  unfold ephemerisref1_Num.f
  rw [ephemerisref1_In_f]; rfl

theorem ephemerisref1_Size_f {a : Int} (h0 : -9223372036854775808 ≤ a) (h1 : a ≤ 9223372036854775807) : ephemerisref1_Size.f a = some (ab a) := by
  unfold ephemerisref1_Size.f ab
  by_cases c : a < 0
  · rw [if_pos c, if_pos c, w64_id (n := a + 1) (by omega) (by omega), w64_id (n := -(a + 1)) (by omega) (by omega), u64_id (n := -(a + 1)) (by omega) (by omega), u64_id (by omega) (by omega)]
    congr 1; omega
  · rw [if_neg c, if_neg c, u64_id (by omega) (by omega)]

theorem shl_gcd (g t : Nat) (h : g * 2 ^ t < 18446744073709551616) (ht : t ≤ 64) : shl .u64 (g : Int) (t : Int) = ((g * 2 ^ t : Nat) : Int) := by
  unfold shl
  rw [show ((t : Int).toNat) = t from by omega, Nat.min_eq_left (by simp [IntKind.bits]; omega)]
  rw [show (g : Int) * 2 ^ t = ((g * 2 ^ t : Nat) : Int) from by simp]
  exact u64_id (by omega) (by omega)
theorem gcd_half {x y : Nat} (hx : x % 2 = 0) (hy : y % 2 = 1) : Nat.gcd (x / 2) y = Nat.gcd x y := by
  have hc : Nat.Coprime 2 y := by
    unfold Nat.Coprime
    rw [Nat.gcd_rec, hy]; rfl
  have := Nat.Coprime.gcd_mul_left_cancel (k := 2) (n := y) (x / 2) hc
  rw [show 2 * (x / 2) = x from by omega] at this
  exact this.symm
theorem ephemerisref1_Gcd_l1 : ∀ (n k x y t : Nat), x + y ≤ n → n < k → 0 < x → 0 < y → x < 18446744073709551616 → y < 18446744073709551616 → (x % 2 = 1 ∨ y % 2 = 1) →
    ephemerisref1_Gcd.l1 k (x : Int) (y : Int) (t : Int) = some (shl .u64 (Nat.gcd x y : Int) (t : Int)) := by
  intro n
  induction n with
  | zero => intro k x y t h; omega
  | succ n ih =>
    intro k x y t h hk hx hy hx1 hy1 ho
    obtain ⟨k, rfl⟩ : ∃ m, k = m + 1 := ⟨k - 1, by omega⟩
    simp only [ephemerisref1_Gcd.l1]
    by_cases c : x = y
    · subst c
      rw [if_pos rfl, if_pos (by omega), Nat.gcd_self]
    rw [if_neg (by omega), Go.Proofs.YtmiieommlhbbdaaDoor.M.and_one _ (by omega) (by omega), Go.Proofs.YtmiieommlhbbdaaDoor.M.and_one _ (by omega) (by omega)]
    by_cases c1 : x % 2 = 0
    · rw [if_pos (by omega), show (x : Int) / 2 = ((x / 2 : Nat) : Int) from by omega, ih k (x / 2) y t (by omega) (by omega) (by omega) hy (by omega) hy1 (by omega), gcd_half c1 (by omega)]
    rw [if_neg (by omega)]
    by_cases c2 : y % 2 = 0
    · rw [if_pos (by omega), show (y : Int) / 2 = ((y / 2 : Nat) : Int) from by omega, ih k x (y / 2) t (by omega) (by omega) hx (by omega) hx1 (by omega) (by omega), Nat.gcd_comm x, gcd_half c2 (by omega), Nat.gcd_comm y]
    rw [if_neg (by omega)]
    by_cases c3 : x > y
    · rw [if_pos (by omega), u64_id (by omega) (by omega), show (x : Int) - y = ((x - y : Nat) : Int) from by omega, ih k (x - y) y t (by omega) (by omega) (by omega) hy (by omega) hy1 (by omega)]
      have := Nat.gcd_add_self_left (m := y) (n := x - y)
      rw [show x - y + y = x from by omega] at this
      rw [this]
    · rw [if_neg (by omega), u64_id (by omega) (by omega), show (y : Int) - x = ((y - x : Nat) : Int) from by omega, ih k x (y - x) t (by omega) (by omega) hx (by omega) hx1 (by omega) (by omega)]
      have := Nat.gcd_add_self_left (m := x) (n := y - x)
      rw [show y - x + x = y from by omega] at this
      rw [Nat.gcd_comm x, ← this, Nat.gcd_comm y]
theorem ephemerisref1_Gcd_l0 : ∀ (n k x y t : Nat), x + y ≤ n → n + 36893488147419103240 < k → 0 < x → 0 < y → x < 18446744073709551616 → y < 18446744073709551616 → t ≤ 64 → Nat.gcd x y * 2 ^ t < 18446744073709551616 →
    ephemerisref1_Gcd.l0 k (x : Int) (y : Int) (t : Int) = some ((Nat.gcd x y * 2 ^ t : Nat) : Int) := by
  intro n
  induction n with
  | zero => intro k x y t h; omega
  | succ n ih =>
    intro k x y t h hk hx hy hx1 hy1 ht hg
    obtain ⟨k, rfl⟩ : ∃ m, k = m + 1 := ⟨k - 1, by omega⟩
    simp only [ephemerisref1_Gcd.l0]
    rw [Go.Proofs.YtmiieommlhbbdaaDoor.M.and_one _ (by omega) (by omega), Go.Proofs.YtmiieommlhbbdaaDoor.M.and_one _ (by omega) (by omega)]
    have last : (x % 2 = 1 ∨ y % 2 = 1) → ephemerisref1_Gcd.j2 k (x : Int) (y : Int) (t : Int) = some ((Nat.gcd x y * 2 ^ t : Nat) : Int) := fun ho => by
      obtain ⟨k, rfl⟩ : ∃ m, k = m + 1 := ⟨k - 1, by omega⟩
      simp only [ephemerisref1_Gcd.j2]
      rw [ephemerisref1_Gcd_l1 36893488147419103232 k x y t (by omega) (by omega) hx hy hx1 hy1 ho, shl_gcd _ _ hg ht]
    by_cases c1 : x % 2 = 0
    · rw [if_pos (by omega)]
      by_cases c2 : y % 2 = 0
      · have e : Nat.gcd x y = 2 * Nat.gcd (x / 2) (y / 2) := by
          rw [← Nat.gcd_mul_left, show 2 * (x / 2) = x from by omega, show 2 * (y / 2) = y from by omega]
        have e2 : Nat.gcd x y * 2 ^ t = Nat.gcd (x / 2) (y / 2) * 2 ^ (t + 1) := by
          rw [e, Nat.pow_succ, Nat.mul_comm 2, Nat.mul_assoc, Nat.mul_comm 2]
        have hp : 0 < Nat.gcd (x / 2) (y / 2) := Nat.gcd_pos_of_pos_left _ (by omega)
        have ht1 : t + 1 ≤ 64 := by
          rcases Nat.lt_or_ge (t + 1) 65 with h | h
          · omega
          · exfalso
            have h1 : 2 ^ 65 ≤ 2 ^ (t + 1) := Nat.pow_le_pow_right (by decide) h
            have h2 : 1 * 2 ^ (t + 1) ≤ Nat.gcd (x / 2) (y / 2) * 2 ^ (t + 1) := Nat.mul_le_mul_right _ hp
            have h3 : (2 : Nat) ^ 65 = 36893488147419103232 := by decide
            omega
        rw [if_pos (by omega), w64_id (by omega) (by omega), show (x : Int) / 2 = ((x / 2 : Nat) : Int) from by omega, show (y : Int) / 2 = ((y / 2 : Nat) : Int) from by omega, show (t : Int) + 1 = ((t + 1 : Nat) : Int) from by omega]
        rw [ih k (x / 2) (y / 2) (t + 1) (by omega) (by omega) (by omega) (by omega) (by omega) (by omega) ht1 (by omega), e2]
      · rw [if_neg (by omega)]; exact last (by omega)
    · rw [if_neg (by omega)]; exact last (by omega)
theorem gcdr_ab (a b : Int) : Nat.gcd (ab a).toNat (ab b).toNat = Int.gcd a b := by
  have h : ∀ c : Int, (ab c).toNat = c.natAbs := fun c => by unfold ab; split <;> omega
  rw [h, h]; rfl
theorem ephemerisref1_Gcd_f {a b : Int} (k : Nat) (hk : 100000000000000000000 ≤ k) (ha : -9223372036854775808 ≤ a) (ha1 : a ≤ 9223372036854775807) (hb : -9223372036854775808 ≤ b) (hb1 : b ≤ 9223372036854775807) :
    ephemerisref1_Gcd.f k a b = some (Int.gcd a b : Int) := by
  obtain ⟨k, rfl⟩ : ∃ m, k = m + 1 := ⟨k - 1, by omega⟩
  unfold ephemerisref1_Gcd.f
  rw [ephemerisref1_Size_f ha ha1, ephemerisref1_Size_f hb hb1]
  simp only [Option.bind_some]
  have e1 := ab_nonneg a
  have e2 := ab_nonneg b
  have e3 := ab_le ha ha1
  have e4 := ab_le hb hb1
  have hg := gcdr_ab a b
  by_cases c : ab a = 0
  · rw [if_pos c]
    simp only [ephemerisref1_Gcd.j0, if_true]
    rw [u64_id (by omega) (by omega)]
    rw [c] at hg
    simp only [Int.toNat_zero, Nat.gcd_zero_left] at hg
    congr 1; omega
  rw [if_neg c]
  simp only [ephemerisref1_Gcd.j0, beq_iff_eq]
  by_cases c2 : ab b = 0
  · rw [if_pos c2, u64_id (by omega) (by omega)]
    rw [c2] at hg
    simp only [Int.toNat_zero, Nat.gcd_zero_right] at hg
    congr 1; omega
  rw [if_neg c2]
  have hle := Nat.gcd_le_left (ab b).toNat (show 0 < (ab a).toNat by omega)
  have := ephemerisref1_Gcd_l0 36893488147419103232 k (ab a).toNat (ab b).toNat 0 (by omega) (by omega) (by omega) (by omega) (by omega) (by omega) (by omega) (by omega)
  rw [hg, Int.toNat_of_nonneg e1, Int.toNat_of_nonneg e2, Nat.pow_zero, Nat.mul_one] at this
  exact this

theorem ephemerisref1_FracOK_f {n d : Int} (k : Nat) (hk : 100000000000000000000 ≤ k) : ephemerisref1_FracOK.f k n d = some (fracOK n d) := by
  unfold ephemerisref1_FracOK.f fracOK
  rw [ephemerisref1_In_f, ephemerisref1_Num_f, Option.bind_some, Option.bind_some]
  simp only [decide_eq_true_eq]
  by_cases c : 1 ≤ d ∧ d ≤ 2147483647
  · rw [if_pos c]
    by_cases c2 : -2147483647 ≤ n ∧ n ≤ 2147483647
    · rw [if_pos c2, ephemerisref1_Gcd_f k hk (by omega) (by omega) (by omega) (by omega), Option.bind_some]
      congr 1
      by_cases c3 : Int.gcd n d = 1
      · rw [c3, decide_eq_true ⟨c, c2, rfl⟩]; rfl
      · rw [decide_eq_false (fun h => c3 h.2.2)]
        exact beq_eq_false_iff_ne.2 (by omega)
    · rw [if_neg c2, decide_eq_false (fun h => c2 h.2.1)]
  · rw [if_neg c, decide_eq_false (fun h => c h.1)]

/-- The decimal numeral. -/
def bNum (n : Int) : ByteArray := ⟨(Go.Lib.itoa n).toArray⟩
theorem strconv_Itoa_f {n : Int} (h : -9223372036854775808 ≤ n ∧ n ≤ 9223372036854775807) : strconv_Itoa.f n = some (bNum n) := by
  unfold strconv_Itoa.f; rw [if_pos h]; rfl
theorem bNum_size {n : Int} (h : -9223372036854775808 ≤ n ∧ n ≤ 9223372036854775807) : (bNum n).size ≤ 21 := by
  show (Go.Lib.itoa n).toArray.size ≤ 21
  rw [List.size_toArray]
  exact Go.Lib.itoa_length_le n h.1 h.2
theorem bNum_list (n : Int) : (bNum n).data.toList = Go.Lib.itoa n := rfl
theorem size_list (s : ByteArray) : s.size = s.data.toList.length := rfl
theorem bytes_ext {a b : ByteArray} (h : a.data.toList = b.data.toList) : a = b := by
  obtain ⟨⟨x⟩⟩ := a; obtain ⟨⟨y⟩⟩ := b
  simp only at h
  rw [h]
theorem app_list (a b : ByteArray) : (a ++ b).data.toList = a.data.toList ++ b.data.toList := by rw [ByteArray.data_append, Array.toList_append]
def fText (n d : Int) : ByteArray := if d = 1 then bNum n else bNum n ++ ((⟨#[47]⟩ : ByteArray) ++ bNum d)
theorem fText_list (n d : Int) : (fText n d).data.toList = if d = 1 then Go.Lib.itoa n else Go.Lib.itoa n ++ 47 :: Go.Lib.itoa d := by
  unfold fText
  by_cases c : d = 1
  · rw [if_pos c, if_pos c, bNum_list]
  · rw [if_neg c, if_neg c, app_list, app_list, bNum_list, bNum_list]; rfl
theorem fracOK_iff {n d : Int} : fracOK n d = true ↔ (1 ≤ d ∧ d ≤ 2147483647) ∧ (-2147483647 ≤ n ∧ n ≤ 2147483647) ∧ Int.gcd n d = 1 := by
  unfold fracOK; exact decide_eq_true_iff
theorem frac_Text_f (n d : Int) (k : Nat) (hk : 9223372036854775820 ≤ k) : frac_Text.f k n d = some (if fracOK n d = true then (fText n d, 0) else ((⟨#[]⟩ : ByteArray), 8)) := by
  unfold frac_Text.f
  rw [frac_Check_f k hk, Option.bind_some]
  by_cases c : fracOK n d = true
  · obtain ⟨⟨d0, d1⟩, ⟨n0, n1⟩, _⟩ := fracOK_iff.1 c
    have s1 := bNum_size (n := n) ⟨by omega, by omega⟩
    have s2 := bNum_size (n := d) ⟨by omega, by omega⟩
    rw [if_pos c, if_pos c, if_pos rfl, strconv_Itoa_f ⟨by omega, by omega⟩, Option.bind_some]
    unfold fText
    by_cases e : d = 1
    · rw [if_pos e, if_pos e]
    · have s3 : ((⟨#[47]⟩ : ByteArray) ++ bNum d).size = 1 + (bNum d).size := ByteArray.size_append
      rw [if_neg e, if_neg e, strconv_Itoa_f ⟨by omega, by omega⟩, Option.bind_some, if_pos (by omega), if_pos (by omega)]
  · rw [if_neg c, if_neg c, if_neg (by decide)]
theorem ephemerisref1_FracText_f {n d : Int} (c : fracOK n d = true) : ephemerisref1_FracText.f n d = some (fText n d) := by
  obtain ⟨⟨d0, d1⟩, ⟨n0, n1⟩, _⟩ := fracOK_iff.1 c
  have s1 := bNum_size (n := n) ⟨by omega, by omega⟩
  have s2 := bNum_size (n := d) ⟨by omega, by omega⟩
  have s3 : (bNum n ++ (⟨#[47]⟩ : ByteArray)).size = (bNum n).size + 1 := ByteArray.size_append
  unfold ephemerisref1_FracText.f fText
  by_cases e : d = 1
  · rw [if_pos e, if_pos e, strconv_Itoa_f ⟨by omega, by omega⟩, Option.bind_some]
  · rw [if_neg e, if_neg e, strconv_Itoa_f ⟨by omega, by omega⟩, Option.bind_some, if_pos (by omega), strconv_Itoa_f ⟨by omega, by omega⟩, Option.bind_some, if_pos (by omega), ByteArray.append_assoc]
theorem idx_no : ∀ l : List UInt8, (47 : UInt8) ∉ l → Go.Lib.indexByte l 47 = -1
  | [], _ => rfl
  | b :: l, h => by
    have h1 : ¬ (b == (47 : UInt8)) = true := fun e => h (by rw [beq_iff_eq.1 e]; exact List.mem_cons_self)
    have h2 := idx_no l (fun e => h (List.mem_cons_of_mem _ e))
    unfold Go.Lib.indexByte
    rw [if_neg h1, h2]
    rfl
theorem idx_yes (m : List UInt8) : ∀ l : List UInt8, (47 : UInt8) ∉ l → Go.Lib.indexByte (l ++ 47 :: m) 47 = (l.length : Int)
  | [], _ => rfl
  | b :: l, h => by
    have h1 : ¬ (b == (47 : UInt8)) = true := fun e => h (by rw [beq_iff_eq.1 e]; exact List.mem_cons_self)
    have h2 := idx_yes m l (fun e => h (List.mem_cons_of_mem _ e))
    show Go.Lib.indexByte (b :: (l ++ 47 :: m)) 47 = _
    unfold Go.Lib.indexByte
    have h3 : ¬ ((l.length : Int) == -1) = true := by rw [beq_iff_eq]; omega
    rw [if_neg h1, h2, if_neg h3, List.length_cons]
    omega
theorem index_f (s : ByteArray) : stringslite_Index.f s (⟨#[47]⟩ : ByteArray) = some (Go.Lib.indexByte s.data.toList 47) := rfl
theorem cut_no (s : ByteArray) (h : (47 : UInt8) ∉ s.data.toList) : strings_Cut.f s (⟨#[47]⟩ : ByteArray) = some (s, (⟨#[]⟩ : ByteArray), false) := by
  unfold strings_Cut.f stringslite_Cut.f
  rw [index_f, idx_no _ h, Option.bind_some, if_neg (by decide), Option.bind_some]
theorem cut_yes (l m : List UInt8) (hl : l.length ≤ 281474976710656) (h : (47 : UInt8) ∉ l) : strings_Cut.f (⟨(l ++ 47 :: m).toArray⟩ : ByteArray) (⟨#[47]⟩ : ByteArray) = some (⟨l.toArray⟩, ⟨m.toArray⟩, true) := by
  have hz : (⟨(l ++ 47 :: m).toArray⟩ : ByteArray).size = l.length + (m.length + 1) := by rw [size_list]; simp
  have h1 : (⟨#[47]⟩ : ByteArray).size = 1 := rfl
  unfold strings_Cut.f stringslite_Cut.f
  rw [index_f, idx_yes m l h, Option.bind_some, if_pos (by omega), if_pos (by omega), if_pos (by omega), h1, w64_id (n := (l.length : Int) + ((1 : Nat) : Int)) (by omega) (by omega), if_pos (by omega), if_pos (by omega), Option.bind_some]
  have e1 : (⟨(l ++ 47 :: m).toArray⟩ : ByteArray).extract 0 ((l.length : Int)).toNat = ⟨l.toArray⟩ := by
    apply bytes_ext
    rw [ByteArray.data_extract]
    simp
  have e2 : (⟨(l ++ 47 :: m).toArray⟩ : ByteArray).extract ((l.length : Int) + ((1 : Nat) : Int)).toNat (⟨(l ++ 47 :: m).toArray⟩ : ByteArray).size = ⟨m.toArray⟩ := by
    apply bytes_ext
    rw [ByteArray.data_extract, hz, show ((l.length : Int) + ((1 : Nat) : Int)).toNat = l.length + 1 from by omega]
    simp
    rw [show l.length + (m.length + 1) - (l.length + 1) = m.length from by omega, List.take_length]
  rw [e1, e2]
theorem trim_f (s : ByteArray) : strings_TrimPrefix.f s (⟨#[45]⟩ : ByteArray) = some ⟨(trim1 s.data.toList).toArray⟩ := by
  obtain ⟨⟨l⟩⟩ := s
  have h1 : (⟨#[45]⟩ : ByteArray).size = 1 := rfl
  unfold strings_TrimPrefix.f stringslite_TrimPrefix.f stringslite_HasPrefix.f
  rw [h1]
  cases l with
  | nil => rfl
  | cons c r =>
    have hz : (⟨⟨c :: r⟩⟩ : ByteArray).size = r.length + 1 := rfl
    rw [if_pos (by omega), if_pos (by omega), if_pos (by omega), Option.bind_some]
    have e1 : ((⟨⟨c :: r⟩⟩ : ByteArray).extract 0 (((1 : Nat) : Int)).toNat).toList = [c] := by
      rw [toList_data, ByteArray.data_extract]
      simp
    have e2 : (⟨#[45]⟩ : ByteArray).toList = [45] := by rw [toList_data]
    rw [e1, e2]
    by_cases hc : c = 45
    · subst hc
      rw [if_pos (by rfl), if_pos (by omega), if_pos (by omega), Option.bind_some]
      congr 1
      apply bytes_ext
      rw [ByteArray.data_extract, hz]
      simp [trim1]
    · have h2 : ¬ ([c] == ([45] : List UInt8)) = true := by
        rw [beq_iff_eq]; intro e; exact hc (List.cons.inj e).1
      rw [if_neg h2, Option.bind_some]
      congr 1
      apply bytes_ext
      show c :: r = (trim1 (c :: r)).toArray.toList
      simp [trim1, hc]
theorem digits_loop (s : ByteArray) (hs : s.size ≤ 281474976710656) : ∀ (m i k : Nat), i + m = s.size → m + 1 ≤ k → ephemerisref1_digits.l0 k s (s.size : Int) (i : Int) = some ((s.data.toList.drop i).all isDig)
  | 0, i, k + 1, hi, _ => by
    unfold ephemerisref1_digits.l0
    rw [if_neg (by omega), List.drop_of_length_le (by rw [← size_list]; omega)]
    rfl
  | m + 1, i, k + 1, hi, hk => by
    have hl : i < s.data.toList.length := by rw [← size_list]; omega
    unfold ephemerisref1_digits.l0
    rw [if_pos (by omega), if_pos (by omega), if_pos (by omega), bt_get s i hl, List.drop_eq_getElem_cons hl, List.all_cons]
    have hc := isDig_iff (s.data.toList[i])
    by_cases c1 : ((s.data.toList[i]).toNat : Int) < 48
    · have : isDig (s.data.toList[i]) = false := by
        cases h : isDig (s.data.toList[i])
        · rfl
        · have := hc.1 h; omega
      rw [if_pos c1, this]; rfl
    rw [if_neg c1]
    by_cases c2 : ((s.data.toList[i]).toNat : Int) > 57
    · have : isDig (s.data.toList[i]) = false := by
        cases h : isDig (s.data.toList[i])
        · rfl
        · have := hc.1 h; omega
      rw [if_pos c2, this]; rfl
    rw [if_neg c2, hc.2 (by omega), Bool.true_and, w64_id (n := (i : Int) + 1) (by omega) (by omega)]
    exact digits_loop s hs m (i + 1) k (by omega) (by omega)
theorem digits_f (s : ByteArray) (hs : s.size ≤ 281474976710656) (k : Nat) (hk : 281474976710660 ≤ k) : ephemerisref1_digits.f k s = some (dOK s.data.toList) := by
  obtain ⟨k, rfl⟩ : ∃ m, k = m + 1 := ⟨k - 1, by omega⟩
  have hJ := digits_loop s hs s.size 0 k (by omega) (by omega)
  rw [List.drop_zero] at hJ
  have hj : ∀ x, ephemerisref1_digits.j0 (k + 1) s x = some (!x && s.data.toList.all isDig) := by
    intro x
    simp only [ephemerisref1_digits.j0]
    cases x
    · rw [if_neg (by decide)]; exact hJ
    · rfl
  unfold ephemerisref1_digits.f
  simp only [hj]
  unfold dOK
  cases hl : s.data.toList with
  | nil =>
    rw [toList_data, hl, if_pos rfl]; rfl
  | cons c r =>
    have hz : s.size = r.length + 1 := by rw [size_list, hl]; rfl
    have h0 : bt s 0 = (c.toNat : Int) := by
      have := bt_get s 0 (by rw [hl]; simp)
      simp only [hl, List.getElem_cons_zero] at this
      exact this
    rw [toList_data, hl, if_neg (by simp)]
    by_cases c1 : (s.size : Int) > 1
    · rw [if_pos c1, if_pos (by omega), h0]
      congr 1
      have e1 : decide ((c :: r).length ≤ 1) = false := decide_eq_false (by rw [List.length_cons]; omega)
      have e2 : (!((c.toNat : Int) == 48)) = decide ((c :: r).head? ≠ some 48) := by
        by_cases e : c = 48
        · subst e; rfl
        · have e3 : ¬ ((c.toNat : Int) = 48) := fun h => e (UInt8.toNat_inj.1 (by rw [show (48 : UInt8).toNat = 48 from rfl]; omega))
          rw [beq_eq_false_iff_ne.2 e3, decide_eq_true (by simpa using e)]; rfl
      rw [e1, e2]; rfl
    · rw [if_neg c1]
      congr 1
      have e1 : decide ((c :: r).length ≤ 1) = true := decide_eq_true (by rw [List.length_cons]; omega)
      rw [e1]; rfl
theorem plain_loop (s t : ByteArray) (ht : t.size ≤ 17) (hd : t.data.toList.all isDig = true) : ∀ (m i k acc : Nat), i + m = t.size → m + 1 ≤ k → acc < 10 ^ i → ephemerisref1_Plain.l0 k s t (acc : Int) (t.size : Int) (i : Int) = if t.toList = s.toList then (some ((dVal acc (t.data.toList.drop i) : Int), true)) else (some (wrap64 (-(dVal acc (t.data.toList.drop i) : Int)), true))
  | 0, i, k + 1, acc, hi, _, _ => by
    unfold ephemerisref1_Plain.l0
    rw [if_neg (by omega), List.drop_of_length_le (by rw [← size_list]; omega), dVal_nil]
  | m + 1, i, k + 1, acc, hi, hk, ha => by
    have hl : i < t.data.toList.length := by rw [← size_list]; omega
    have hc := (isDig_iff (t.data.toList[i])).1 (List.all_eq_true.1 hd _ (List.getElem_mem hl))
    have hp : 10 ^ i ≤ 10 ^ 16 := Nat.pow_le_pow_right (by decide) (by omega)
    have e16 : (10 : Nat) ^ 16 = 10000000000000000 := by decide
    unfold ephemerisref1_Plain.l0
    rw [if_pos (by omega), if_pos (by omega), if_pos (by omega), bt_get t i hl, List.drop_eq_getElem_cons hl, dVal_cons, w64_id (n := 10 * (acc : Int)) (by omega) (by omega), w64_id (n := (i : Int) + 1) (by omega) (by omega), w64_id (n := 10 * (acc : Int) + (((t.data.toList[i]).toNat : Int) - 48) % 256) (by omega) (by omega)]
    have e : 10 * (acc : Int) + (((t.data.toList[i]).toNat : Int) - 48) % 256 = ((acc * 10 + ((t.data.toList[i]).toNat - 48) : Nat) : Int) := by omega
    rw [e]
    exact plain_loop s t ht hd m (i + 1) k _ (by omega) (by omega) (by rw [Nat.pow_succ]; omega)
theorem plain_f (s : ByteArray) (hs : s.size ≤ 281474976710656) (k : Nat) (hk : 281474976710670 ≤ k) : ephemerisref1_Plain.f k s = some (if pOK s.data.toList = true then (pVal s.data.toList, true) else (0, false)) := by
  obtain ⟨k, rfl⟩ : ∃ m, k = m + 1 := ⟨k - 1, by omega⟩
  have hz : (trim1 s.data.toList).length ≤ s.data.toList.length := by
    cases s.data.toList with
    | nil => exact Nat.le_refl _
    | cons c r =>
      show (if c = 45 then r else c :: r).length ≤ (c :: r).length
      split <;> simp
  have hts : (⟨(trim1 s.data.toList).toArray⟩ : ByteArray).size = (trim1 s.data.toList).length := by rw [size_list]
  have hj : ∀ x, ephemerisref1_Plain.j0 (k + 1) s ⟨(trim1 s.data.toList).toArray⟩ x = if x = true then (some (0, false)) else (ephemerisref1_Plain.l0 k s ⟨(trim1 s.data.toList).toArray⟩ 0 ((⟨(trim1 s.data.toList).toArray⟩ : ByteArray).size : Int) 0) := by
    intro x; simp only [ephemerisref1_Plain.j0]
  unfold ephemerisref1_Plain.f
  rw [trim_f, Option.bind_some, digits_f _ (by rw [hts]; rw [size_list] at hs; omega) _ (by omega), Option.bind_some]
  simp only [hj]
  rw [hts, toList_data]
  by_cases c1 : dOK (trim1 s.data.toList) = true
  · rw [if_pos c1]
    by_cases c2 : (trim1 s.data.toList).length ≤ 17
    · rw [if_neg (by omega)]
      by_cases c3 : s.data.toList = [45, 48]
      · have hn : ¬ pOK s.data.toList = true := fun h => ((pOK_iff _).1 h).2.2 c3
        rw [if_neg hn, if_pos (by rw [c3]; rfl)]
      · have hy : pOK s.data.toList = true := (pOK_iff _).2 ⟨c1, c2, c3⟩
        have hb : ¬ (s.data.toList == ([45, 48] : List UInt8)) = true := by rw [beq_iff_eq]; exact c3
        have hd := ((dOK_iff _).1 c1).2.2
        have hL := plain_loop s ⟨(trim1 s.data.toList).toArray⟩ (by rw [hts]; exact c2) hd (trim1 s.data.toList).length 0 k 0 (by rw [hts]; omega) (by omega) (by decide)
        rw [hts, List.drop_zero, show (⟨(trim1 s.data.toList).toArray⟩ : ByteArray).data.toList = trim1 s.data.toList from rfl] at hL
        have hlt := dVal_lt (trim1 s.data.toList) 0 hd
        have hp : 10 ^ (trim1 s.data.toList).length ≤ 10 ^ 17 := Nat.pow_le_pow_right (by decide) c2
        have e17 : (10 : Nat) ^ 17 = 100000000000000000 := by decide
        rw [if_neg hb, if_pos hy]
        refine Eq.trans hL ?_
        rw [toList_data, toList_data, show (⟨(trim1 s.data.toList).toArray⟩ : ByteArray).data.toList = trim1 s.data.toList from rfl]
        unfold pVal
        by_cases c4 : s.data.toList.head? = some 45
        · have hne : ¬ (trim1 s.data.toList = s.data.toList) := by
            cases hl : s.data.toList with
            | nil => rw [hl] at c4; simp at c4
            | cons c r =>
              rw [hl] at c4
              simp only [List.head?_cons, Option.some.injEq] at c4
              subst c4
              intro e
              have := congrArg List.length e
              simp [trim1] at this
          rw [if_neg hne, if_pos c4, w64_id (by omega) (by omega)]
        · rw [if_pos (trim1_other c4), if_neg c4]
    · have hn : ¬ pOK s.data.toList = true := fun h => c2 ((pOK_iff _).1 h).2.1
      rw [if_neg hn, if_pos (by omega), if_pos trivial]
  · have hn : ¬ pOK s.data.toList = true := fun h => c1 ((pOK_iff _).1 h).1
    rw [if_neg hn, if_neg c1, if_pos trivial]
/-- A fraction's text spells it. -/
def frSays (l : List UInt8) (n d : Int) : Prop := fracOK n d = true ∧ l = (fText n d).data.toList
theorem gone47 (n : Int) : (47 : UInt8) ∉ Go.Lib.itoa n := itoa_ne (by decide) (by decide)
theorem parts (l : List UInt8) : (47 : UInt8) ∉ l ∨ ∃ a b, l = a ++ 47 :: b ∧ (47 : UInt8) ∉ a := by
  by_cases h : (47 : UInt8) ∈ l
  · right; obtain ⟨a, b, h1, h2⟩ := List.eq_append_cons_of_mem h; exact ⟨a, b, h1, h2⟩
  · left; exact h
theorem parts_inj {a b c d : List UInt8} (h : a ++ 47 :: b = c ++ 47 :: d) (ha : (47 : UInt8) ∉ a) (hc : (47 : UInt8) ∉ c) : a = c ∧ b = d := by
  induction a generalizing c with
  | nil =>
    cases c with
    | nil => exact ⟨rfl, (List.cons.inj h).2⟩
    | cons x c => exact absurd (by rw [← (List.cons.inj h).1]; exact List.mem_cons_self) hc
  | cons y a ih =>
    cases c with
    | nil => exact absurd (by rw [(List.cons.inj h).1]; exact List.mem_cons_self) ha
    | cons x c =>
      obtain ⟨e1, e2⟩ := List.cons.inj h
      obtain ⟨g1, g2⟩ := ih e2 (fun m => ha (List.mem_cons_of_mem _ m)) (fun m => hc (List.mem_cons_of_mem _ m))
      exact ⟨by rw [e1, g1], g2⟩
theorem atoi_f (s : ByteArray) (hs : s.size ≤ 281474976710656) : strconv_Atoi.f s = some (strconv_Atoi.g s.data.toList) := by
  unfold strconv_Atoi.f; rw [if_pos hs]
theorem atoi_num {n : Int} (h0 : -2147483647 ≤ n) (h1 : n ≤ 2147483647) : strconv_Atoi.g (Go.Lib.itoa n) = (n, none) := by
  unfold strconv_Atoi.g; rw [atoi_itoa (by omega) (by omega)]
theorem read_j0 (s a b : ByteArray) (ha : a.size ≤ 281474976710656) (hb : b.size ≤ 281474976710656) (k : Nat) (hk : 9223372036854775830 ≤ k) :
    (∀ n d, strconv_Atoi.g a.data.toList = (n, none) → strconv_Atoi.g b.data.toList = (d, none) → frSays s.data.toList n d → frac_Read.j0 k s a b = some (n, d, 0)) ∧ ((∀ n d, ¬ frSays s.data.toList n d) → frac_Read.j0 k s a b = some (0, 0, 4)) := by
  obtain ⟨k, rfl⟩ : ∃ m, k = m + 2 := ⟨k - 2, by omega⟩
  have hj1 : ∀ x7 x9 x, frac_Read.j1 (k + 1) s x7 x9 x = if x = true then (some (0, 0, 4)) else ((frac_Text.f k x7 x9).bind fun bt131 => (if bt131.2 = 0 then (if bt131.1.toList = s.toList then (some (x7, x9, 0)) else (some (0, 0, 4))) else (some (0, 0, 4)))) := by
    intro x7 x9 x; simp only [frac_Read.j1]
  simp only [frac_Read.j0]
  rw [atoi_f a ha, atoi_f b hb, Option.bind_some, Option.bind_some]
  simp only [hj1]
  constructor
  · intro n d h1 h2 h3
    rw [h1, h2]
    simp only [Option.isNone_none]
    rw [if_pos trivial, if_pos trivial, if_neg (by decide), frac_Text_f n d k (by omega), if_pos h3.1, Option.bind_some]
    simp only
    rw [if_pos trivial, toList_data, toList_data, if_pos h3.2.symm]
  · intro h
    generalize strconv_Atoi.g a.data.toList = p
    generalize strconv_Atoi.g b.data.toList = q
    obtain ⟨v1, e1⟩ := p; obtain ⟨v2, e2⟩ := q
    cases e1 with
    | some x => rfl
    | none =>
      cases e2 with
      | some x => rfl
      | none =>
        simp only [Option.isNone_none]
        rw [if_pos trivial, if_pos trivial, if_neg (by decide), frac_Text_f v1 v2 k (by omega)]
        by_cases c : fracOK v1 v2 = true
        · rw [if_pos c, Option.bind_some]
          simp only
          rw [if_pos trivial, toList_data, toList_data, if_neg (fun e => h v1 v2 ⟨c, e.symm⟩)]
        · rw [if_neg c, Option.bind_some]
          rfl
theorem says_one {s : List UInt8} {n d : Int} (h47 : (47 : UInt8) ∉ s) (h : frSays s n d) : d = 1 ∧ s = Go.Lib.itoa n := by
  obtain ⟨h1, h2⟩ := h
  rw [fText_list] at h2
  by_cases c : d = 1
  · rw [if_pos c] at h2; exact ⟨c, h2⟩
  · rw [if_neg c] at h2
    exact absurd (by rw [h2]; simp) h47
theorem says_two {a b : List UInt8} {n d : Int} (h47 : (47 : UInt8) ∉ a) (h : frSays (a ++ 47 :: b) n d) : d ≠ 1 ∧ a = Go.Lib.itoa n ∧ b = Go.Lib.itoa d := by
  obtain ⟨h1, h2⟩ := h
  rw [fText_list] at h2
  by_cases c : d = 1
  · rw [if_pos c] at h2
    exact absurd (by rw [← h2]; simp) (gone47 n)
  · rw [if_neg c] at h2
    obtain ⟨g1, g2⟩ := parts_inj h2 h47 (gone47 n)
    exact ⟨c, g1, g2⟩
theorem itoa_one : Go.Lib.itoa 1 = [49] := by
  show Go.Lib.decDigits 1 = [49]
  rw [Go.Lib.decDigits_one (by decide)]; rfl
theorem read_f (s : ByteArray) (hs : s.size ≤ 281474976710656) (k : Nat) (hk : 9223372036854775830 ≤ k) : (∀ n d, frSays s.data.toList n d → frac_Read.f k s = some (n, d, 0)) ∧ ((∀ n d, ¬ frSays s.data.toList n d) → frac_Read.f k s = some (0, 0, 4)) := by
  unfold frac_Read.f
  rcases parts s.data.toList with h | ⟨a, b, h, ha⟩
  · rw [cut_no s h, Option.bind_some]
    simp only
    rw [if_neg (by decide)]
    obtain ⟨g1, g2⟩ := read_j0 s s ⟨#[49]⟩ hs (by decide) k hk
    refine ⟨?_, g2⟩
    intro n d hn
    obtain ⟨rfl, e2⟩ := says_one h hn
    obtain ⟨_, ⟨n0, n1⟩, _⟩ := fracOK_iff.1 hn.1
    exact g1 n 1 (by rw [e2]; exact atoi_num n0 n1) (by rw [show (⟨#[49]⟩ : ByteArray).data.toList = Go.Lib.itoa 1 from itoa_one.symm]; exact atoi_num (by decide) (by decide)) hn
  · obtain rfl : s = ⟨(a ++ 47 :: b).toArray⟩ := bytes_ext h
    have hz : (⟨(a ++ 47 :: b).toArray⟩ : ByteArray).size = a.length + (b.length + 1) := by rw [size_list]; simp
    have za : (⟨a.toArray⟩ : ByteArray).size = a.length := by rw [size_list]
    have zb : (⟨b.toArray⟩ : ByteArray).size = b.length := by rw [size_list]
    rw [cut_yes a b (by omega) ha, Option.bind_some]
    simp only
    rw [if_pos trivial]
    obtain ⟨g1, g2⟩ := read_j0 ⟨(a ++ 47 :: b).toArray⟩ ⟨a.toArray⟩ ⟨b.toArray⟩ (by omega) (by omega) k hk
    refine ⟨?_, g2⟩
    intro n d hn
    obtain ⟨_, e1, e2⟩ := says_two ha hn
    obtain ⟨⟨d0, d1⟩, ⟨n0, n1⟩, _⟩ := fracOK_iff.1 hn.1
    exact g1 n d (by show strconv_Atoi.g a = _; rw [e1]; exact atoi_num n0 n1) (by show strconv_Atoi.g b = _; rw [e2]; exact atoi_num (by omega) d1) hn
theorem ref_f (s : ByteArray) (hs : s.size ≤ 281474976710656) (k : Nat) (hk : 100000000000000000000 ≤ k) : (∀ n d, frSays s.data.toList n d → ephemerisref1_FracRead.f k s = some (n, d, 0)) ∧ ((∀ n d, ¬ frSays s.data.toList n d) → ephemerisref1_FracRead.f k s = some (0, 0, 4)) := by
  have hp : ∀ n : Int, -2147483647 ≤ n → n ≤ 2147483647 → pOK (Go.Lib.itoa n) = true ∧ pVal (Go.Lib.itoa n) = n := fun n h0 h1 => itoa_pOK (by omega) (by omega)
  unfold ephemerisref1_FracRead.f
  rcases parts s.data.toList with h | ⟨a, b, h, ha⟩
  · rw [cut_no s h, Option.bind_some]
    simp only
    rw [plain_f s hs k (by omega), Option.bind_some, if_neg (by decide)]
    constructor
    · intro n d hn
      obtain ⟨rfl, e2⟩ := says_one h hn
      obtain ⟨_, ⟨n0, n1⟩, _⟩ := fracOK_iff.1 hn.1
      obtain ⟨q1, q2⟩ := hp n n0 n1
      rw [e2, if_pos q1, q2]
      simp only
      rw [if_pos trivial, ephemerisref1_FracOK_f k hk, hn.1, Option.bind_some, if_pos rfl]
    · intro hn
      by_cases c : pOK s.data.toList = true
      · rw [if_pos c]
        simp only
        rw [if_pos trivial, ephemerisref1_FracOK_f k hk, Option.bind_some]
        by_cases c2 : fracOK (pVal s.data.toList) 1 = true
        · exfalso
          refine hn (pVal s.data.toList) 1 ⟨c2, ?_⟩
          rw [fText_list, if_pos rfl]
          exact pOK_itoa c
        · rw [if_neg c2]
      · rw [if_neg c]
        rfl
  · obtain rfl : s = ⟨(a ++ 47 :: b).toArray⟩ := bytes_ext h
    have hz : (⟨(a ++ 47 :: b).toArray⟩ : ByteArray).size = a.length + (b.length + 1) := by rw [size_list]; simp
    have za : (⟨a.toArray⟩ : ByteArray).size = a.length := by rw [size_list]
    have zb : (⟨b.toArray⟩ : ByteArray).size = b.length := by rw [size_list]
    rw [cut_yes a b (by omega) ha, Option.bind_some]
    simp only
    rw [plain_f ⟨a.toArray⟩ (by omega) k (by omega), Option.bind_some, if_pos trivial, plain_f ⟨b.toArray⟩ (by omega) k (by omega), Option.bind_some, show (⟨a.toArray⟩ : ByteArray).data.toList = a from rfl, show (⟨b.toArray⟩ : ByteArray).data.toList = b from rfl]
    constructor
    · intro n d hn
      obtain ⟨hd1, e1, e2⟩ := says_two ha hn
      obtain ⟨⟨d0, d1⟩, ⟨n0, n1⟩, _⟩ := fracOK_iff.1 hn.1
      obtain ⟨q1, q2⟩ := hp n n0 n1
      obtain ⟨q3, q4⟩ := hp d (by omega) d1
      rw [e1, e2, if_pos q1, if_pos q3, q2, q4]
      simp only
      rw [if_pos trivial, if_pos trivial, if_pos (by omega), ephemerisref1_FracOK_f k hk, hn.1, Option.bind_some, if_pos rfl]
    · intro hn
      by_cases c : pOK a = true
      · by_cases c3 : pOK b = true
        · rw [if_pos c, if_pos c3]
          simp only
          rw [if_pos trivial, if_pos trivial]
          by_cases c4 : pVal b > 1
          · rw [if_pos c4, ephemerisref1_FracOK_f k hk, Option.bind_some]
            by_cases c2 : fracOK (pVal a) (pVal b) = true
            · exfalso
              refine hn (pVal a) (pVal b) ⟨c2, ?_⟩
              rw [fText_list, if_neg (by omega), ← pOK_itoa c, ← pOK_itoa c3]
            · rw [if_neg c2]
          · rw [if_neg c4]
        · rw [if_pos c, if_neg c3]
          rfl
      · rw [if_neg c]
        rfl
theorem both_read (s : ByteArray) (hs : s.size ≤ 281474976710656) (k : Nat) (hk : 100000000000000000000 ≤ k) : ∃ r, frac_Read.f k s = some r ∧ ephemerisref1_FracRead.f k s = some r := by
  obtain ⟨a1, a2⟩ := read_f s hs k (by omega)
  obtain ⟨b1, b2⟩ := ref_f s hs k hk
  by_cases h : ∃ n d, frSays s.data.toList n d
  · obtain ⟨n, d, h⟩ := h
    exact ⟨_, a1 n d h, b1 n d h⟩
  · have h' : ∀ n d, ¬ frSays s.data.toList n d := fun n d e => h ⟨n, d, e⟩
    exact ⟨_, a2 h', b2 h'⟩

theorem FracTexts : ephemerislaw1_FracTexts.Pure := by
  intro n d s hn hd hs
  obtain ⟨k, hk⟩ : ∃ k : Nat, 100000000000000000003 ≤ k := ⟨_, Nat.le_refl _⟩
  refine ⟨k + 2, ?_⟩
  have hs' : s.size ≤ 281474976710656 := by omega
  have h0 : frSays (⟨#[45, 51, 47, 50]⟩ : ByteArray).data.toList (-3) 2 := by
    refine ⟨by decide, ?_⟩
    rw [fText_list, if_neg (by decide)]
    decide +kernel
  have hj1 : ∀ x, ephemerislaw1_FracTexts.j1 (k + 1) s x = if x = true then some false else some true := by
    intro x
    simp only [ephemerislaw1_FracTexts.j1]
    obtain ⟨r, h1, h2⟩ := both_read s hs' k (by omega)
    rw [h1, h2, Option.bind_some, Option.bind_some]
    simp
  have hj2 : ∀ x, ephemerislaw1_FracTexts.j2 (k + 1) s x = if x = true then some false else some true := by
    intro x
    simp only [ephemerislaw1_FracTexts.j2]
    obtain ⟨r, h1, h2⟩ := both_read s hs' k (by omega)
    rw [h1, h2, Option.bind_some, Option.bind_some]
    simp
  unfold ephemerislaw1_FracTexts.f
  rw [(read_f _ (by decide) (k + 2) (by omega)).1 _ _ h0, Option.bind_some]
  simp only
  rw [if_neg (by decide), show ((0 : Int) != 0) = false from by decide]
  simp only [ephemerislaw1_FracTexts.j0, hj1, hj2]
  rw [if_neg (by decide), frac_Text_f n d (k + 1) (by omega), ephemerisref1_FracOK_f (k + 1) (by omega), Option.bind_some, Option.bind_some]
  by_cases c : fracOK n d = true
  · rw [if_pos c, if_pos c]
    simp only
    rw [if_pos trivial, ephemerisref1_FracText_f c, Option.bind_some, if_neg (by simp)]
  · rw [if_neg c, if_neg c]
    simp only
    rw [if_pos ((toList_nil _).2 rfl), if_neg (by decide)]
end Go.Proofs.YtmiieommlhbbdaaDoor.Pure
