/- The law FracReckons over numbers and lists: what the law's functions tell, and that the law holds. -/
import Derived.Test.YtmihkcgkdhmccaaPFracReckonsx5
import Derived.Test.YtmihkcgkdhmccaaM
import Derived.Test.YtmihkcgkdhmccaaF
import Derived.Test.YtmihkcgkdhmccaaO
namespace Go.Proofs.Ytmihkcgkdhmccaa.Pure
open Go.RowKit Go.Proofs.Ytmihkcgkdhmccaa.PFracReckons Go.Proofs.YtmihkcgkdhmccaaW.PrintWords Go.Proofs.YtmihkcgkdhmccaaW.PrintLast Go.Proofs.Ytmihkcgkdhmccaa.M Go.Proofs.Ytmihkcgkdhmccaa.F Go.Proofs.Ytmihkcgkdhmccaa.O
set_option linter.unusedVariables false
set_option linter.unusedSimpArgs false
/-- The law over numbers and lists. -/
def ephemerislaw1_FracReckons.Pure : Prop := ∀ (a0_0 : Int) (a0_1 : Int) (a1_0 : Int) (a1_1 : Int), (Lit.int .i64 a0_0).wf = true → (Lit.int .i64 a0_1).wf = true → (Lit.int .i64 a1_0).wf = true → (Lit.int .i64 a1_1).wf = true → ∃ k, ephemerislaw1_FracReckons.f k a0_0 a0_1 a1_0 a1_1 = some true

def lowestOf (m : Bool) (X Y g : Int) : Int × Int × Int :=
  if X / g > 2147483647 ∨ Y / g > 2147483647 then (0, 0, 14) else (if m = true then -(X / g) else X / g, Y / g, 0)
theorem frac_lowest_end (m : Bool) (X Y : Int) (k : Nat) (x : Int) (hx : 0 < x) (hX : 0 ≤ X) (hX1 : X ≤ 9223372036854775808) (hY : 0 ≤ Y) (hY1 : Y ≤ 9223372036854775808) :
    frac_lowest.l0 (k + 2) m X Y x 0 = some (lowestOf m X Y x) := by
  have q1 := quo_bounds X hX hx
  have q2 := quo_bounds Y hY hx
  rw [show k + 2 = (k + 1) + 1 from rfl]
  conv => lhs; unfold frac_lowest.l0
  rw [if_pos rfl, if_neg (by omega), Int.tdiv_eq_ediv_of_nonneg hX, Int.tdiv_eq_ediv_of_nonneg hY, u64_id (n := X / x) (by omega) (by omega), u64_id (n := Y / x) (by omega) (by omega)]
  unfold lowestOf
  by_cases c : X / x > 2147483647
  · rw [if_pos c, if_pos (.inl c)]; simp only [frac_lowest.j1, if_true]
  rw [if_neg c]
  simp only [frac_lowest.j1, decide_eq_true_eq]
  by_cases c2 : Y / x > 2147483647
  · rw [if_pos c2, if_pos (.inr c2)]
  have hor : ¬ (X / x > 2147483647 ∨ Y / x > 2147483647) := by omega
  rw [if_neg c2, if_neg hor, w64_id (n := X / x) (by omega) (by omega), w64_id (n := Y / x) (by omega) (by omega), w64_id (n := -(X / x)) (by omega) (by omega)]
  cases m <;> rfl
theorem frac_lowest_l0 (m : Bool) (X Y : Int) (hX : 0 ≤ X) (hX1 : X ≤ 9223372036854775808) (hY : 0 ≤ Y) (hY1 : Y ≤ 9223372036854775808) : ∀ (n k x y : Nat), y ≤ n → n + 1 < k → 0 < x + y →
    frac_lowest.l0 k m X Y (x : Int) (y : Int) = some (lowestOf m X Y (Nat.gcd x y : Int)) := by
  intro n
  induction n with
  | zero =>
    intro k x y hy hk hp
    obtain rfl : y = 0 := by omega
    obtain ⟨k, rfl⟩ : ∃ m, k = m + 2 := ⟨k - 2, by omega⟩
    rw [Nat.gcd_zero_right]
    exact frac_lowest_end m X Y k x (by omega) hX hX1 hY hY1
  | succ n ih =>
    intro k x y hy hk hp
    by_cases c0 : y = 0
    · subst c0
      obtain ⟨k, rfl⟩ : ∃ m, k = m + 2 := ⟨k - 2, by omega⟩
      rw [Nat.gcd_zero_right]
      exact frac_lowest_end m X Y k x (by omega) hX hX1 hY hY1
    · obtain ⟨k, rfl⟩ : ∃ m, k = m + 1 := ⟨k - 1, by omega⟩
      have hm : x % y < y := Nat.mod_lt _ (by omega)
      conv => lhs; unfold frac_lowest.l0
      rw [if_neg (by omega), show Int.tmod (x : Int) (y : Int) = ((x % y : Nat) : Int) from by rw [← Int.ofNat_tmod]]
      rw [ih k y (x % y) (by omega) (by omega) (by omega)]
      rw [show Nat.gcd y (x % y) = Nat.gcd x y from by rw [Nat.gcd_comm y, ← Nat.gcd_rec, Nat.gcd_comm]]

theorem frac_size_f {a : Int} (h0 : -9223372036854775808 ≤ a) (h1 : a ≤ 9223372036854775807) : frac_size.f a = some (ab a) := by
  unfold frac_size.f ab
  by_cases c : a < 0
  · rw [if_pos c, if_pos c, u64_def a, u64_def]
    congr 1; omega
  · rw [if_neg c, if_neg c, u64_id (by omega) (by omega)]

theorem frac_Of_f {n d : Int} (k : Nat) (hk : 9223372036854775820 ≤ k) (hn : -9223372036854775808 ≤ n) (hn1 : n ≤ 9223372036854775807) (hd : -9223372036854775808 ≤ d) (hd1 : d ≤ 9223372036854775807) : frac_Of.f k n d = some (ofs n d) := by
  unfold frac_Of.f ofs
  by_cases c : d = 0
  · rw [if_pos c, if_pos c]
  rw [if_neg c, if_neg c, frac_size_f hn hn1, frac_size_f hd hd1]
  have e1 := ab_nonneg n
  have e2 := ab_nonneg d
  have e3 := ab_le hn hn1
  have e4 := ab_le hd hd1
  have e5 : 0 < ab d := by unfold ab; split <;> omega
  have hL : ∀ m : Bool, frac_lowest.f k m (ab n) (ab d) = some (lowestOf m (ab n) (ab d) (Int.gcd n d : Int)) := fun m => by
    have := frac_lowest_l0 m (ab n) (ab d) e1 e3 e2 e4 9223372036854775808 k (ab n).toNat (ab d).toNat (by omega) (by omega) (by omega)
    rw [gcd_ab', Int.toNat_of_nonneg e1, Int.toNat_of_nonneg e2] at this
    exact this
  generalize hg : (Int.gcd n d : Int) = g at *
  have key : ∀ m : Bool, m = decide (n ≠ 0 ∧ ((decide (n < 0)) != (decide (d < 0))) = true) →
      lowestOf m (ab n) (ab d) g = if ab n / g > 2147483647 ∨ ab d / g > 2147483647 then (0, 0, 14) else (if n ≠ 0 ∧ ((decide (n < 0)) != (decide (d < 0))) = true then -(ab n / g) else ab n / g, ab d / g, 0) := fun m hm => by
    unfold lowestOf
    subst hm
    simp only [decide_eq_true_eq]
  cases hs : ((decide (n < 0)) != (decide (d < 0))) with
  | true =>
    rw [hs] at key
    rw [if_pos rfl, Option.bind_some, Option.bind_some, hL, Option.bind_some, key (n != 0) (by by_cases c2 : n = 0 <;> simp [c2])]
  | false =>
    rw [hs] at key
    rw [if_neg (by decide), Option.bind_some, Option.bind_some, hL, Option.bind_some, key false (by simp)]

theorem whole_size_f {a : Int} (h0 : -9223372036854775808 ≤ a) (h1 : a ≤ 9223372036854775807) : whole_size.f a = some (ab a) := by
  unfold whole_size.f ab
  by_cases c : a < 0
  · rw [if_pos c, if_pos c, u64_def a, u64_def]
    congr 1; omega
  · rw [if_neg c, if_neg c, u64_id (by omega) (by omega)]

theorem whole_Gcd_l0 : ∀ (n k x y : Nat), y ≤ n → n < k → x ≤ 9223372036854775808 → y ≤ 9223372036854775808 → (0 < x ∨ y ≤ 9223372036854775808) →
    whole_Gcd.l0 k (x : Int) (y : Int) = some (if Nat.gcd x y = 9223372036854775808 then (0, 14) else ((Nat.gcd x y : Int), 0)) := by
  intro n
  induction n with
  | zero =>
    intro k x y hy hk hx hy1 _
    obtain ⟨k, rfl⟩ : ∃ m, k = m + 1 := ⟨k - 1, by omega⟩
    obtain rfl : y = 0 := by omega
    simp only [whole_Gcd.l0]
    rw [if_pos (by omega), Nat.gcd_zero_right]
    by_cases c : x = 9223372036854775808
    · rw [if_pos (by omega), if_pos c]
    · rw [if_neg (by omega), if_neg c, w64_id (by omega) (by omega)]
  | succ n ih =>
    intro k x y hy hk hx hy1 _
    obtain ⟨k, rfl⟩ : ∃ m, k = m + 1 := ⟨k - 1, by omega⟩
    simp only [whole_Gcd.l0]
    by_cases c0 : y = 0
    · subst c0
      rw [if_pos (by omega), Nat.gcd_zero_right]
      by_cases c : x = 9223372036854775808
      · rw [if_pos (by omega), if_pos c]
      · rw [if_neg (by omega), if_neg c, w64_id (by omega) (by omega)]
    · have hm : x % y < y := Nat.mod_lt _ (by omega)
      rw [if_neg (by omega), show Int.tmod (x : Int) (y : Int) = ((x % y : Nat) : Int) from by rw [← Int.ofNat_tmod]]
      rw [ih k y (x % y) (by omega) (by omega) hy1 (by omega) (.inl (by omega))]
      rw [show Nat.gcd y (x % y) = Nat.gcd x y from by rw [Nat.gcd_comm y, ← Nat.gcd_rec, Nat.gcd_comm]]
theorem gcd_ab (a b : Int) : Nat.gcd (ab a).toNat (ab b).toNat = Int.gcd a b := by
  have h : ∀ c : Int, (ab c).toNat = c.natAbs := fun c => by unfold ab; split <;> omega
  rw [h, h]; rfl
theorem gcd_le {a b : Int} (ha : -9223372036854775808 ≤ a) (ha1 : a ≤ 9223372036854775807) (hb : -9223372036854775808 ≤ b) (hb1 : b ≤ 9223372036854775807) : Int.gcd a b ≤ 9223372036854775808 := by
  show Nat.gcd a.natAbs b.natAbs ≤ _
  by_cases h : a.natAbs = 0
  · rw [h, Nat.gcd_zero_left]; omega
  · have := Nat.gcd_le_left b.natAbs (show 0 < a.natAbs by omega)
    omega
theorem whole_Gcd_f {a b : Int} (k : Nat) (hk : 9223372036854775810 ≤ k) (ha : -9223372036854775808 ≤ a) (ha1 : a ≤ 9223372036854775807) (hb : -9223372036854775808 ≤ b) (hb1 : b ≤ 9223372036854775807) :
    whole_Gcd.f k a b = some (if Int.gcd a b = 9223372036854775808 then (0, 14) else ((Int.gcd a b : Int), 0)) := by
  unfold whole_Gcd.f
  rw [whole_size_f ha ha1, whole_size_f hb hb1]
  simp only [Option.bind_some]
  have e1 := ab_nonneg a
  have e2 := ab_nonneg b
  have e3 := ab_le ha ha1
  have e4 := ab_le hb hb1
  have := whole_Gcd_l0 9223372036854775808 k (ab a).toNat (ab b).toNat (by omega) (by omega) (by omega) (by omega) (.inr (by omega))
  rw [gcd_ab, Int.toNat_of_nonneg e1, Int.toNat_of_nonneg e2] at this
  exact this

theorem frac_Check_f {n d : Int} (k : Nat) (hk : 9223372036854775820 ≤ k) : frac_Check.f k n d = some (if fracOK n d = true then 0 else 8) := by
  obtain ⟨k, rfl⟩ : ∃ m, k = m + 1 := ⟨k - 1, by omega⟩
  have hj : frac_Check.f (k + 1) n d = frac_Check.j0 (k + 1) (decide (¬ ((1 ≤ d ∧ d ≤ 2147483647) ∧ (-2147483647 ≤ n ∧ n ≤ 2147483647)))) n d := by
    unfold frac_Check.f
    by_cases c1 : d < 1
    · rw [if_pos c1, decide_eq_true (by omega)]
    rw [if_neg c1]
    by_cases c2 : d > 2147483647
    · rw [if_pos c2, decide_eq_true (by omega)]
    rw [if_neg c2]
    by_cases c3 : n < -2147483647
    · rw [if_pos c3, decide_eq_true (by omega)]
    rw [if_neg c3]
    by_cases c4 : n > 2147483647
    · rw [decide_eq_true c4, decide_eq_true (by omega)]
    · rw [decide_eq_false c4, decide_eq_false (by omega)]
  rw [hj]
  simp only [frac_Check.j0, decide_eq_true_eq, fracOK]
  by_cases c : (1 ≤ d ∧ d ≤ 2147483647) ∧ (-2147483647 ≤ n ∧ n ≤ 2147483647)
  · rw [if_neg (fun h => h c), whole_Gcd_f k (by omega) (by omega) (by omega) (by omega) (by omega), Option.bind_some]
    have hle := gcd_pos_le n (m := d) (by omega)
    have h9 : ¬ Int.gcd n d = 9223372036854775808 := by omega
    rw [if_neg h9]
    by_cases c2 : Int.gcd n d = 1
    · have h8 : (1 ≤ d ∧ d ≤ 2147483647) ∧ (-2147483647 ≤ n ∧ n ≤ 2147483647) ∧ Int.gcd n d = 1 := ⟨c.1, c.2, c2⟩
      rw [if_pos h8]; simp [c2]
    · have h8 : ¬ ((1 ≤ d ∧ d ≤ 2147483647) ∧ (-2147483647 ≤ n ∧ n ≤ 2147483647) ∧ Int.gcd n d = 1) := fun h => c2 h.2.2
      have h7 : ¬ (Int.gcd n d : Int) = 1 := by omega
      rw [if_neg h8]
      simp only [if_neg h7]
  · have h8 : ¬ ((1 ≤ d ∧ d ≤ 2147483647) ∧ (-2147483647 ≤ n ∧ n ≤ 2147483647) ∧ Int.gcd n d = 1) := fun h => c ⟨h.1, h.2.1⟩
    rw [if_pos c, if_neg h8]

theorem frac_both_f {a b c d : Int} (k : Nat) (hk : 9223372036854775820 ≤ k) : frac_both.f k a b c d = some (if fracOK a b = true ∧ fracOK c d = true then 0 else 8) := by
  unfold frac_both.f
  rw [frac_Check_f k hk, frac_Check_f k hk, Option.bind_some, Option.bind_some]
  cases fracOK a b <;> cases fracOK c d <;> rfl

theorem frac_Add_f {a b c d : Int} (k : Nat) (hk : 9223372036854775820 ≤ k) : frac_Add.f k a b c d = some (fracOp 0 a b c d) := by
  unfold frac_Add.f fracOp
  rw [frac_both_f k hk, Option.bind_some]
  by_cases h : fracOK a b = true ∧ fracOK c d = true
  · obtain ⟨h1, h2⟩ := okNum h.1
    obtain ⟨h3, h4⟩ := okNum h.2
    have p1 := bigProd h2 (d := d) (by omega)
    have p2 := bigProd h4 (d := b) (by omega)
    have p3 := bigProd (n := b) (d := d) (by omega) (by omega)
    have e : opOf 0 a b c d = ofs (a * d + c * b) (b * d) := rfl
    rw [if_pos h, if_pos rfl, if_pos h, w64_id (n := a * d) (by omega) (by omega), w64_id (n := c * b) (by omega) (by omega), w64_id (n := b * d) (by omega) (by omega), w64_id (n := a * d + c * b) (by omega) (by omega), frac_Of_f k hk (by omega) (by omega) (by omega) (by omega), Option.bind_some, e]
  · rw [if_neg h, if_neg h, if_neg (by omega)]

theorem frac_Sub_f {a b c d : Int} (k : Nat) (hk : 9223372036854775820 ≤ k) : frac_Sub.f k a b c d = some (fracOp 1 a b c d) := by
  unfold frac_Sub.f fracOp
  rw [frac_both_f k hk, Option.bind_some]
  by_cases h : fracOK a b = true ∧ fracOK c d = true
  · obtain ⟨h1, h2⟩ := okNum h.1
    obtain ⟨h3, h4⟩ := okNum h.2
    have p1 := bigProd h2 (d := d) (by omega)
    have p2 := bigProd h4 (d := b) (by omega)
    have p3 := bigProd (n := b) (d := d) (by omega) (by omega)
    have e : opOf 1 a b c d = ofs (a * d - c * b) (b * d) := rfl
    rw [if_pos h, if_pos rfl, if_pos h, w64_id (n := a * d) (by omega) (by omega), w64_id (n := c * b) (by omega) (by omega), w64_id (n := b * d) (by omega) (by omega), w64_id (n := a * d - c * b) (by omega) (by omega), frac_Of_f k hk (by omega) (by omega) (by omega) (by omega), Option.bind_some, e]
  · rw [if_neg h, if_neg h, if_neg (by omega)]

theorem frac_Mul_f {a b c d : Int} (k : Nat) (hk : 9223372036854775820 ≤ k) : frac_Mul.f k a b c d = some (fracOp 2 a b c d) := by
  unfold frac_Mul.f fracOp
  rw [frac_both_f k hk, Option.bind_some]
  by_cases h : fracOK a b = true ∧ fracOK c d = true
  · obtain ⟨h1, h2⟩ := okNum h.1
    obtain ⟨h3, h4⟩ := okNum h.2
    have p1 := bigProd (n := a) (d := c) (by omega) (by omega)
    have p2 := bigProd (n := b) (d := d) (by omega) (by omega)
    have e : opOf 2 a b c d = ofs (a * c) (b * d) := rfl
    rw [if_pos h, if_pos rfl, if_pos h, w64_id (n := a * c) (by omega) (by omega), w64_id (n := b * d) (by omega) (by omega), frac_Of_f k hk (by omega) (by omega) (by omega) (by omega), Option.bind_some, e]
  · rw [if_neg h, if_neg h, if_neg (by omega)]

theorem frac_Div_f {a b c d : Int} (k : Nat) (hk : 9223372036854775820 ≤ k) : frac_Div.f k a b c d = some (fracOp 3 a b c d) := by
  unfold frac_Div.f fracOp
  rw [frac_both_f k hk, Option.bind_some]
  by_cases h : fracOK a b = true ∧ fracOK c d = true
  · obtain ⟨h1, h2⟩ := okNum h.1
    obtain ⟨h3, h4⟩ := okNum h.2
    have p1 := bigProd (n := a) (d := d) (by omega) (by omega)
    have p2 := bigProd (n := b) (d := c) (by omega) (by omega)
    have e : opOf 3 a b c d = ofs (a * d) (b * c) := rfl
    rw [if_pos h, if_pos rfl, if_pos h, w64_id (n := a * d) (by omega) (by omega), w64_id (n := b * c) (by omega) (by omega), frac_Of_f k hk (by omega) (by omega) (by omega) (by omega), Option.bind_some, e]
  · rw [if_neg h, if_neg h, if_neg (by omega)]

theorem ephemerisref1_Size_f {a : Int} (h0 : -9223372036854775808 ≤ a) (h1 : a ≤ 9223372036854775807) : ephemerisref1_Size.f a = some (ab a) := by
  unfold ephemerisref1_Size.f ab
  by_cases c : a < 0
  · rw [if_pos c, if_pos c, w64_id (n := a + 1) (by omega) (by omega), w64_id (n := -(a + 1)) (by omega) (by omega), u64_id (n := -(a + 1)) (by omega) (by omega), u64_id (by omega) (by omega)]
    congr 1; omega
  · rw [if_neg c, if_neg c, u64_id (by omega) (by omega)]

theorem shl_gcd (g t : Nat) (h : g * 2 ^ t < 18446744073709551616) (ht : t ≤ 64) : shl .u64 (g : Int) (t : Int) = ((g * 2 ^ t : Nat) : Int) := by
  unfold shl
  rw [show ((t : Int).toNat) = t from by omega, Nat.min_eq_left (by simp [IntKind.bits]; omega)]
  rw [show (g : Int) * 2 ^ t = ((g * 2 ^ t : Nat) : Int) from by simp]
  exact u64_id (by omega) (by omega)
theorem gcd_half {x y : Nat} (hx : x % 2 = 0) (hy : y % 2 = 1) : Nat.gcd (x / 2) y = Nat.gcd x y := by
  have hc : Nat.Coprime 2 y := by
    unfold Nat.Coprime
    rw [Nat.gcd_rec, hy]; rfl
  have := Nat.Coprime.gcd_mul_left_cancel (k := 2) (n := y) (x / 2) hc
  rw [show 2 * (x / 2) = x from by omega] at this
  exact this.symm
theorem ephemerisref1_Gcd_l1 : ∀ (n k x y t : Nat), x + y ≤ n → n < k → 0 < x → 0 < y → x < 18446744073709551616 → y < 18446744073709551616 → (x % 2 = 1 ∨ y % 2 = 1) →
    ephemerisref1_Gcd.l1 k (x : Int) (y : Int) (t : Int) = some (shl .u64 (Nat.gcd x y : Int) (t : Int)) := by
  intro n
  induction n with
  | zero => intro k x y t h; omega
  | succ n ih =>
    intro k x y t h hk hx hy hx1 hy1 ho
    obtain ⟨k, rfl⟩ : ∃ m, k = m + 1 := ⟨k - 1, by omega⟩
    simp only [ephemerisref1_Gcd.l1]
    by_cases c : x = y
    · subst c
      rw [if_pos rfl, if_pos (by omega), Nat.gcd_self]
    rw [if_neg (by omega), and_one _ (by omega) (by omega), and_one _ (by omega) (by omega)]
    by_cases c1 : x % 2 = 0
    · rw [if_pos (by omega), show (x : Int) / 2 = ((x / 2 : Nat) : Int) from by omega, ih k (x / 2) y t (by omega) (by omega) (by omega) hy (by omega) hy1 (by omega), gcd_half c1 (by omega)]
    rw [if_neg (by omega)]
    by_cases c2 : y % 2 = 0
    · rw [if_pos (by omega), show (y : Int) / 2 = ((y / 2 : Nat) : Int) from by omega, ih k x (y / 2) t (by omega) (by omega) hx (by omega) hx1 (by omega) (by omega), Nat.gcd_comm x, gcd_half c2 (by omega), Nat.gcd_comm y]
    rw [if_neg (by omega)]
    by_cases c3 : x > y
    · rw [if_pos (by omega), u64_id (by omega) (by omega), show (x : Int) - y = ((x - y : Nat) : Int) from by omega, ih k (x - y) y t (by omega) (by omega) (by omega) hy (by omega) hy1 (by omega)]
      have := Nat.gcd_add_self_left (m := y) (n := x - y)
      rw [show x - y + y = x from by omega] at this
      rw [this]
    · rw [if_neg (by omega), u64_id (by omega) (by omega), show (y : Int) - x = ((y - x : Nat) : Int) from by omega, ih k x (y - x) t (by omega) (by omega) hx (by omega) hx1 (by omega) (by omega)]
      have := Nat.gcd_add_self_left (m := x) (n := y - x)
      rw [show y - x + x = y from by omega] at this
      rw [Nat.gcd_comm x, ← this, Nat.gcd_comm y]
theorem ephemerisref1_Gcd_l0 : ∀ (n k x y t : Nat), x + y ≤ n → n + 36893488147419103240 < k → 0 < x → 0 < y → x < 18446744073709551616 → y < 18446744073709551616 → t ≤ 64 → Nat.gcd x y * 2 ^ t < 18446744073709551616 →
    ephemerisref1_Gcd.l0 k (x : Int) (y : Int) (t : Int) = some ((Nat.gcd x y * 2 ^ t : Nat) : Int) := by
  intro n
  induction n with
  | zero => intro k x y t h; omega
  | succ n ih =>
    intro k x y t h hk hx hy hx1 hy1 ht hg
    obtain ⟨k, rfl⟩ : ∃ m, k = m + 1 := ⟨k - 1, by omega⟩
    simp only [ephemerisref1_Gcd.l0]
    rw [and_one _ (by omega) (by omega), and_one _ (by omega) (by omega)]
    have last : (x % 2 = 1 ∨ y % 2 = 1) → ephemerisref1_Gcd.j2 k (x : Int) (y : Int) (t : Int) = some ((Nat.gcd x y * 2 ^ t : Nat) : Int) := fun ho => by
      obtain ⟨k, rfl⟩ : ∃ m, k = m + 1 := ⟨k - 1, by omega⟩
      simp only [ephemerisref1_Gcd.j2]
      rw [ephemerisref1_Gcd_l1 36893488147419103232 k x y t (by omega) (by omega) hx hy hx1 hy1 ho, shl_gcd _ _ hg ht]
    by_cases c1 : x % 2 = 0
    · rw [if_pos (by omega)]
      by_cases c2 : y % 2 = 0
      · have e : Nat.gcd x y = 2 * Nat.gcd (x / 2) (y / 2) := by
          rw [← Nat.gcd_mul_left, show 2 * (x / 2) = x from by omega, show 2 * (y / 2) = y from by omega]
        have e2 : Nat.gcd x y * 2 ^ t = Nat.gcd (x / 2) (y / 2) * 2 ^ (t + 1) := by
          rw [e, Nat.pow_succ, Nat.mul_comm 2, Nat.mul_assoc, Nat.mul_comm 2]
        have hp : 0 < Nat.gcd (x / 2) (y / 2) := Nat.gcd_pos_of_pos_left _ (by omega)
        have ht1 : t + 1 ≤ 64 := by
          rcases Nat.lt_or_ge (t + 1) 65 with h | h
          · omega
          · exfalso
            have h1 : 2 ^ 65 ≤ 2 ^ (t + 1) := Nat.pow_le_pow_right (by decide) h
            have h2 : 1 * 2 ^ (t + 1) ≤ Nat.gcd (x / 2) (y / 2) * 2 ^ (t + 1) := Nat.mul_le_mul_right _ hp
            have h3 : (2 : Nat) ^ 65 = 36893488147419103232 := by decide
            omega
        rw [if_pos (by omega), w64_id (by omega) (by omega), show (x : Int) / 2 = ((x / 2 : Nat) : Int) from by omega, show (y : Int) / 2 = ((y / 2 : Nat) : Int) from by omega, show (t : Int) + 1 = ((t + 1 : Nat) : Int) from by omega]
        rw [ih k (x / 2) (y / 2) (t + 1) (by omega) (by omega) (by omega) (by omega) (by omega) (by omega) ht1 (by omega), e2]
      · rw [if_neg (by omega)]; exact last (by omega)
    · rw [if_neg (by omega)]; exact last (by omega)
theorem gcdr_ab (a b : Int) : Nat.gcd (ab a).toNat (ab b).toNat = Int.gcd a b := by
  have h : ∀ c : Int, (ab c).toNat = c.natAbs := fun c => by unfold ab; split <;> omega
  rw [h, h]; rfl
theorem ephemerisref1_Gcd_f {a b : Int} (k : Nat) (hk : 100000000000000000000 ≤ k) (ha : -9223372036854775808 ≤ a) (ha1 : a ≤ 9223372036854775807) (hb : -9223372036854775808 ≤ b) (hb1 : b ≤ 9223372036854775807) :
    ephemerisref1_Gcd.f k a b = some (Int.gcd a b : Int) := by
  obtain ⟨k, rfl⟩ : ∃ m, k = m + 1 := ⟨k - 1, by omega⟩
  unfold ephemerisref1_Gcd.f
  rw [ephemerisref1_Size_f ha ha1, ephemerisref1_Size_f hb hb1]
  simp only [Option.bind_some]
  have e1 := ab_nonneg a
  have e2 := ab_nonneg b
  have e3 := ab_le ha ha1
  have e4 := ab_le hb hb1
  have hg := gcdr_ab a b
  by_cases c : ab a = 0
  · rw [if_pos c]
    simp only [ephemerisref1_Gcd.j0, if_true]
    rw [u64_id (by omega) (by omega)]
    rw [c] at hg
    simp only [Int.toNat_zero, Nat.gcd_zero_left] at hg
    congr 1; omega
  rw [if_neg c]
  simp only [ephemerisref1_Gcd.j0, beq_iff_eq]
  by_cases c2 : ab b = 0
  · rw [if_pos c2, u64_id (by omega) (by omega)]
    rw [c2] at hg
    simp only [Int.toNat_zero, Nat.gcd_zero_right] at hg
    congr 1; omega
  rw [if_neg c2]
  have hle := Nat.gcd_le_left (ab b).toNat (show 0 < (ab a).toNat by omega)
  have := ephemerisref1_Gcd_l0 36893488147419103232 k (ab a).toNat (ab b).toNat 0 (by omega) (by omega) (by omega) (by omega) (by omega) (by omega) (by omega) (by omega)
  rw [hg, Int.toNat_of_nonneg e1, Int.toNat_of_nonneg e2, Nat.pow_zero, Nat.mul_one] at this
  exact this

theorem ephemerisref1_FracOf_f {n d : Int} (k : Nat) (hk : 100000000000000000001 ≤ k) (hn : -9223372036854775808 ≤ n) (hn1 : n ≤ 9223372036854775807) (hd : -9223372036854775808 ≤ d) (hd1 : d ≤ 9223372036854775807) : ephemerisref1_FracOf.f k n d = some (ofs n d) := by
  obtain ⟨k, rfl⟩ : ∃ m, k = m + 1 := ⟨k - 1, by omega⟩
  unfold ephemerisref1_FracOf.f ofs
  by_cases c : d = 0
  · rw [if_pos c, if_pos c]
  have hg := gcd_pos_of n c
  have e1 := ab_nonneg n
  have e2 := ab_nonneg d
  have e3 := ab_le hn hn1
  have e4 := ab_le hd hd1
  have q1 := quo_bounds (ab n) e1 hg
  have q2 := quo_bounds (ab d) e2 hg
  rw [if_neg c, if_neg c, ephemerisref1_Gcd_f (k + 1) (by omega) hn hn1 hd hd1, Option.bind_some, ephemerisref1_Size_f hn hn1, Option.bind_some, ephemerisref1_Size_f hd hd1, Option.bind_some]
  generalize (Int.gcd n d : Int) = g at *
  rw [if_neg (by omega), Int.tdiv_eq_ediv_of_nonneg e1, Int.tdiv_eq_ediv_of_nonneg e2, u64_id (n := ab n / g) (by omega) (by omega), u64_id (n := ab d / g) (by omega) (by omega)]
  by_cases c1 : ab n / g > 2147483647
  · rw [if_pos c1, if_pos (.inl c1)]; simp only [ephemerisref1_FracOf.j0, if_true]
  rw [if_neg c1]
  simp only [ephemerisref1_FracOf.j0, decide_eq_true_eq]
  by_cases c2 : ab d / g > 2147483647
  · rw [if_pos c2, if_pos (.inr c2)]
  have hor : ¬ (ab n / g > 2147483647 ∨ ab d / g > 2147483647) := by omega
  rw [if_neg c2, if_neg hor, w64_id (n := ab n / g) (by omega) (by omega), w64_id (n := ab d / g) (by omega) (by omega), w64_id (n := -(ab n / g)) (by omega) (by omega)]
  by_cases c3 : n = 0
  · have h9 : ¬ (n ≠ 0 ∧ ((decide (n < 0)) != (decide (d < 0))) = true) := fun h => h.1 c3
    rw [if_pos c3, if_neg h9]
  rw [if_neg c3]
  by_cases c4 : ((decide (n < 0)) != (decide (d < 0))) = true
  · have h9 : n ≠ 0 ∧ ((decide (n < 0)) != (decide (d < 0))) = true := ⟨c3, c4⟩
    rw [if_pos c4, if_pos h9]
  · have h9 : ¬ (n ≠ 0 ∧ ((decide (n < 0)) != (decide (d < 0))) = true) := fun h => c4 h.2
    rw [if_neg c4, if_neg h9]

theorem ephemerisref1_In_f (x lo hi : Int) : ephemerisref1_In.f x lo hi = some (decide (lo ≤ x ∧ x ≤ hi)) := by
  unfold ephemerisref1_In.f
  by_cases h : x ≥ lo
  · rw [if_pos h]; congr 1; simp; omega
  · rw [if_neg h]; congr 1; simp; omega

theorem ephemerisref1_Num_f (x : Int) : ephemerisref1_Num.f x = some (decide (-2147483647 ≤ x ∧ x ≤ 2147483647)) := by
  unfold ephemerisref1_Num.f
  rw [ephemerisref1_In_f]; rfl

theorem ephemerisref1_FracOK_f {n d : Int} (k : Nat) (hk : 100000000000000000000 ≤ k) : ephemerisref1_FracOK.f k n d = some (fracOK n d) := by
  unfold ephemerisref1_FracOK.f fracOK
  rw [ephemerisref1_In_f, ephemerisref1_Num_f, Option.bind_some, Option.bind_some]
  simp only [decide_eq_true_eq]
  by_cases c : 1 ≤ d ∧ d ≤ 2147483647
  · rw [if_pos c]
    by_cases c2 : -2147483647 ≤ n ∧ n ≤ 2147483647
    · rw [if_pos c2, ephemerisref1_Gcd_f k hk (by omega) (by omega) (by omega) (by omega), Option.bind_some]
      congr 1
      by_cases c3 : Int.gcd n d = 1
      · rw [c3, decide_eq_true ⟨c, c2, rfl⟩]; rfl
      · rw [decide_eq_false (fun h => c3 h.2.2)]
        exact beq_eq_false_iff_ne.2 (by omega)
    · rw [if_neg c2, decide_eq_false (fun h => c2 h.2.1)]
  · rw [if_neg c, decide_eq_false (fun h => c h.1)]

theorem lcd_parts {b d : Int} (hb : 1 ≤ b) (hd : 1 ≤ d) : ∃ g b' d' : Int, g = (Int.gcd b d : Int) ∧ 0 < g ∧ g ≤ d ∧ b = g * b' ∧ d = g * d' ∧ 1 ≤ b' ∧ b' ≤ b ∧ 1 ≤ d' ∧ d' ≤ d := by
  have hg := gcd_pos_of b (d := d) (by omega)
  obtain ⟨x, hx⟩ := Int.gcd_dvd_left b d
  obtain ⟨y, hy⟩ := Int.gcd_dvd_right b d
  obtain ⟨x1, x2⟩ := mul_pos_of hg hx (by omega)
  obtain ⟨y1, y2⟩ := mul_pos_of hg hy (by omega)
  have hle : (Int.gcd b d : Int) ≤ d := Int.le_of_dvd (by omega) (Int.gcd_dvd_right b d)
  exact ⟨_, x, y, rfl, hg, hle, hx, hy, by omega, x2, by omega, y2⟩
theorem ephemerisref1_FracOp_f {op a b c d : Int} (k : Nat) (hk : 100000000000000000010 ≤ k) : ephemerisref1_FracOp.f k op a b c d = some (fracOp op a b c d) := by
  obtain ⟨k, rfl⟩ : ∃ m, k = m + 1 := ⟨k - 1, by omega⟩
  unfold ephemerisref1_FracOp.f fracOp
  rw [ephemerisref1_FracOK_f _ (by omega), ephemerisref1_FracOK_f _ (by omega), Option.bind_some, Option.bind_some]
  by_cases h : fracOK a b = true ∧ fracOK c d = true
  · obtain ⟨h1, h2⟩ := okNum h.1
    obtain ⟨h3, h4⟩ := okNum h.2
    obtain ⟨g, b', d', eg, hg, hgd, eb, ed, hb1, hb2, hd1, hd2⟩ := lcd_parts h1.1 h3.1
    have q1 : b / g = b' := by rw [eb]; exact Int.mul_ediv_cancel_left b' (by omega)
    have q2 : d / g = d' := by rw [ed]; exact Int.mul_ediv_cancel_left d' (by omega)
    have p1 := bigProd h2 (d := d') (by omega)
    have p2 := bigProd h4 (d := b') (by omega)
    have p3 := bigProd (n := b) (d := d') (by omega) (by omega)
    have p4 := bigProd h2 h4
    have p5 := bigProd (n := b) (d := d) (by omega) (by omega)
    have p6 := bigProd h2 (d := d) (by omega)
    have p7 := bigProd h4 (d := b) (by omega)
    rw [if_pos h.1, if_pos h, h.2]
    simp only [ephemerisref1_FracOp.j0, Bool.not_true, Bool.false_eq_true, if_false]
    rw [ephemerisref1_Gcd_f k (by omega) (by omega) (by omega) (by omega) (by omega), Option.bind_some, ← eg, w64_id (n := g) (by omega) (by omega), if_neg (by omega), Int.tdiv_eq_ediv_of_nonneg (by omega), Int.tdiv_eq_ediv_of_nonneg (by omega), q1, q2, w64_id (n := b') (by omega) (by omega), w64_id (n := d') (by omega) (by omega),
      w64_id (n := a * d') (by omega) (by omega), w64_id (n := c * b') (by omega) (by omega), w64_id (n := b * d') (by omega) (by omega), w64_id (n := a * d' + c * b') (by omega) (by omega), w64_id (n := a * d' - c * b') (by omega) (by omega),
      w64_id (n := a * c) (by omega) (by omega), w64_id (n := b * d) (by omega) (by omega), w64_id (n := a * d) (by omega) (by omega), w64_id (n := c * b) (by omega) (by omega),
      ephemerisref1_FracOf_f k (by omega) (by omega) (by omega) (by omega) (by omega), ephemerisref1_FracOf_f k (by omega) (by omega) (by omega) (by omega) (by omega), ephemerisref1_FracOf_f k (by omega) (by omega) (by omega) (by omega) (by omega), ephemerisref1_FracOf_f k (by omega) (by omega) (by omega) (by omega) (by omega), Option.bind_some, Option.bind_some, Option.bind_some, Option.bind_some]
    have s1 : b * d = g * (b * d') := by rw [ed, Int.mul_left_comm]
    have s2 : a * d = g * (a * d') := by rw [ed, Int.mul_left_comm]
    have s3 : c * b = g * (c * b') := by rw [eb, Int.mul_left_comm]
    unfold opOf
    by_cases c0 : op = 0
    · rw [if_pos c0, if_pos c0, s1, s2, s3, ← Int.mul_add, ofs_scale hg]
    rw [if_neg c0, if_neg c0]
    by_cases c1 : op = 1
    · rw [if_pos c1, if_pos c1, s1, s2, s3, ← Int.mul_sub, ofs_scale hg]
    rw [if_neg c1, if_neg c1]
    by_cases c2 : op = 2
    · rw [if_pos c2, if_pos c2]
    rw [if_neg c2, if_neg c2, Int.mul_comm c b]
  · rw [if_neg h]
    have hj : ephemerisref1_FracOp.j0 (k + 1) op true a b c d = some (0, 0, 8) := by simp only [ephemerisref1_FracOp.j0, if_true]
    by_cases h1 : fracOK a b = true
    · have h2 : fracOK c d = false := by
        cases e : fracOK c d
        · rfl
        · exact absurd ⟨h1, e⟩ h
      rw [if_pos h1, h2]
      exact hj
    · rw [if_neg h1]; exact hj

theorem FracReckons_round (k : Nat) (hk : 100000000000000000010 ≤ k) (a b c d i : Int) (h0 : 0 ≤ i) (h4 : i < 4) : ephemerislaw1_FracReckons.l0 (k + 1) i a b c d = ephemerislaw1_FracReckons.l0 k (i + 1) a b c d := by
  have hne : ∀ x y : Int, ¬ ((!(x == x) || !(y == y)) = true) := fun x y => by simp
  conv => lhs; unfold ephemerislaw1_FracReckons.l0
  rw [if_pos h4]
  by_cases e0 : i = 0
  · rw [if_pos e0, frac_Add_f k (by omega), Option.bind_some, ephemerisref1_FracOp_f k hk, Option.bind_some, e0, if_neg (hne _ _), if_pos rfl, w64_id (n := (0 : Int) + 1) (by omega) (by omega)]
  rw [if_neg e0]
  by_cases e1 : i = 1
  · rw [if_pos e1, frac_Sub_f k (by omega), Option.bind_some, ephemerisref1_FracOp_f k hk, Option.bind_some, e1, if_neg (hne _ _), if_pos rfl, w64_id (n := (1 : Int) + 1) (by omega) (by omega)]
  rw [if_neg e1]
  by_cases e2 : i = 2
  · rw [if_pos e2, frac_Mul_f k (by omega), Option.bind_some, ephemerisref1_FracOp_f k hk, Option.bind_some, e2, if_neg (hne _ _), if_pos rfl, w64_id (n := (2 : Int) + 1) (by omega) (by omega)]
  have e3 : i = 3 := by omega
  rw [if_neg e2, frac_Div_f k (by omega), Option.bind_some, ephemerisref1_FracOp_f k hk, Option.bind_some, e3, if_neg (hne _ _), if_pos rfl, w64_id (n := (3 : Int) + 1) (by omega) (by omega)]
theorem FracReckons : ephemerislaw1_FracReckons.Pure := by
  intro a b c d _ _ _ _
  obtain ⟨k, hk⟩ : ∃ k : Nat, 100000000000000000010 ≤ k := ⟨_, Nat.le_refl _⟩
  refine ⟨k + 6, ?_⟩
  unfold ephemerislaw1_FracReckons.f
  rw [frac_Add_f (k + 6) (by omega), show fracOp 0 1 2 1 3 = (5, 6, 0) from by decide, Option.bind_some, if_neg (by decide)]
  simp only [bne_self_eq_false, ephemerislaw1_FracReckons.j0, Bool.false_eq_true, if_false]
  rw [FracReckons_round (k + 4) (by omega) a b c d 0 (by omega) (by omega), FracReckons_round (k + 3) (by omega) a b c d (0 + 1) (by omega) (by omega), FracReckons_round (k + 2) (by omega) a b c d (0 + 1 + 1) (by omega) (by omega), FracReckons_round (k + 1) (by omega) a b c d (0 + 1 + 1 + 1) (by omega) (by omega)]
  conv => lhs; unfold ephemerislaw1_FracReckons.l0
  rw [if_neg (by omega)]
end Go.Proofs.Ytmihkcgkdhmccaa.Pure
