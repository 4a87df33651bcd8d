/- The law ObservedOfs over numbers and lists: what the law's functions tell, and that the law holds. -/
import Derived.Test.YtlfammlboncmeaaPObservedOfsx13
import Derived.Test.YtlfammlboncmeaaM
import Derived.Test.YtlfammlboncmeaaL
import Derived.Test.YtlfammlboncmeaaT
import Derived.Test.YtlfammlboncmeaaF
import Derived.Test.YtlfammlboncmeaaP
import Derived.Test.YtlfammlboncmeaaB
import Derived.Test.YtlfammlboncmeaaQ
import Derived.Test.YtlfammlboncmeaaN
import Derived.Test.YtlfammlboncmeaaO
namespace Go.Proofs.Ytlfammlboncmeaa.Pure
open Go.RowKit Go.Proofs.Ytlfammlboncmeaa.PObservedOfs Go.Proofs.YtlfammlboncmeaaW.PrintWords Go.Proofs.YtlfammlboncmeaaW.PrintLast Go.Proofs.Ytlfammlboncmeaa.M Go.Proofs.Ytlfammlboncmeaa.L Go.Proofs.Ytlfammlboncmeaa.T Go.Proofs.Ytlfammlboncmeaa.F Go.Proofs.Ytlfammlboncmeaa.P Go.Proofs.Ytlfammlboncmeaa.B Go.Proofs.Ytlfammlboncmeaa.Q Go.Proofs.Ytlfammlboncmeaa.N Go.Proofs.Ytlfammlboncmeaa.O
set_option linter.unusedVariables false
set_option linter.unusedSimpArgs false
/-- The law over numbers and lists. -/
def ephemerislaw1_ObservedOfs.Pure : Prop := ∀ (a0_0 : ByteArray) (a0_1 : Int) (a0_2 : Int) (a0_3 : Int) (a0_4 : Int) (a0_5 : Int) (a0_6 : Int) (a0_7 : Int) (a0_8 : Int) (l0_9 : List (Int)) (l0_10 : List (Int)) (a1 : Int) (a2 : Int), a0_0.size ≤ 140737488351232 → (Lit.int .i64 a0_1).wf = true → (Lit.int .i64 a0_2).wf = true → (Lit.int .i64 a0_3).wf = true → (Lit.int .i64 a0_4).wf = true → (Lit.int .i64 a0_5).wf = true → (Lit.int .i64 a0_6).wf = true → (Lit.int .i64 a0_7).wf = true → (Lit.int .i64 a0_8).wf = true → (l0_9.length * 8 ≤ 140737488351232 ∧ l0_9.length ≤ 9223372036854775807 ∧ ∀ v ∈ l0_9, (Lit.int .i64 v).wf = true) → (l0_10.length * 8 ≤ 140737488351232 ∧ l0_10.length ≤ 9223372036854775807 ∧ ∀ v ∈ l0_10, (Lit.int .i64 v).wf = true) → (Lit.int .i64 a1).wf = true → (Lit.int .i64 a2).wf = true → ∃ k, ephemerislaw1_ObservedOfs.f k a0_0 a0_1 a0_2 a0_3 a0_4 a0_5 a0_6 a0_7 a0_8 l0_9 l0_10 a1 a2 = some true

theorem ephemerisref1_SameInts_l0 (a b : List Int) (hl : a.length = b.length) (hm : a.length ≤ 9223372036854775807) : ∀ (d i k : Nat), i + d = a.length → d < k →
    ephemerisref1_SameInts.l0 k a b (a.length : Int) (i : Int) = some (decide (a.drop i = b.drop i)) := by
  intro d
  induction d with
  | zero =>
    intro i k hi hk
    obtain ⟨k, rfl⟩ : ∃ m, k = m + 1 := ⟨k - 1, by omega⟩
    conv => lhs; unfold ephemerisref1_SameInts.l0
    rw [if_neg (by omega), List.drop_of_length_le (by omega), List.drop_of_length_le (by omega)]; rfl
  | succ d ih =>
    intro i k hi hk
    obtain ⟨k, rfl⟩ : ∃ m, k = m + 1 := ⟨k - 1, by omega⟩
    have h1 : i < a.length := by omega
    have h2 : i < b.length := by omega
    conv => lhs; unfold ephemerisref1_SameInts.l0
    rw [if_pos (by omega), if_pos (by omega), if_pos (by omega), if_pos (by omega), rd_get a i h1, rd_get b i h2, List.drop_eq_getElem_cons h1, List.drop_eq_getElem_cons h2]
    by_cases c : a[i] = b[i]
    · rw [if_pos c, w64_id (n := (i : Int) + 1) (by omega) (by omega)]
      have := ih (i + 1) k (by omega) (by omega)
      rw [show ((i + 1 : Nat) : Int) = (i : Int) + 1 from by omega] at this
      rw [this]
      congr 1
      apply decide_eq_decide.2
      constructor
      · intro h; rw [c, h]
      · intro h; exact (List.cons.inj h).2
    · rw [if_neg c]
      congr 1
      symm
      exact decide_eq_false (fun h => c (List.cons.inj h).1)
theorem ephemerisref1_SameInts_f (a b : List Int) (hm : a.length ≤ 9223372036854775807) (k : Nat) (hk : a.length < k) : ephemerisref1_SameInts.f k a b = some (decide (a = b)) := by
  unfold ephemerisref1_SameInts.f
  by_cases c : a.length = b.length
  · rw [if_pos (by omega)]
    exact ephemerisref1_SameInts_l0 a b c hm a.length 0 k (by omega) hk
  · rw [if_neg (by omega)]
    congr 1
    symm
    exact decide_eq_false (fun h => c (by rw [h]))

theorem ephemerisref1_SameTable_f (n : ByteArray) (first : Int) (a b : List Int) (ha : a.length ≤ 9223372036854775807) (hb : b.length ≤ 9223372036854775807) (k : Nat) (h1 : a.length < k) (h2 : b.length < k) : ephemerisref1_SameTable.f k n first a b n first a b = some true := by
  unfold ephemerisref1_SameTable.f
  rw [if_pos rfl, if_pos rfl, ephemerisref1_SameInts_f a a ha k h1, Option.bind_some, decide_eq_true rfl, if_pos rfl, ephemerisref1_SameInts_f b b hb k h2, Option.bind_some, decide_eq_true rfl]

theorem ephemerisref1_In_f (x lo hi : Int) : ephemerisref1_In.f x lo hi = some (decide (lo ≤ x ∧ x ≤ hi)) := by
  unfold ephemerisref1_In.f
  by_cases h : x ≥ lo
  · rw [if_pos h]; congr 1; simp; omega
  · rw [if_neg h]; congr 1; simp; omega

theorem line_Check_f (x : Int) : line_Check.f x = some (if -4000000 ≤ x ∧ x ≤ 4000000 then 0 else 3) := by
  unfold line_Check.f
  by_cases h : x < -4000000
  · rw [if_pos h, if_neg (by omega)]
  · rw [if_neg h]
    by_cases h2 : x > 4000000
    · rw [if_pos h2, if_neg (by omega)]
    · rw [if_neg h2, if_pos (by omega)]

theorem rule_Name_f (s : ByteArray) : rule_Name.f s = some (isName s) := by
  have e : rule_Name.all s.data.toList = letters s.data.toList := rfl
  unfold rule_Name.f isName noWord
  rw [e]
  congr 1
  by_cases h1 : (s.size : Int) < 1
  · rw [if_pos h1, decide_eq_false (show ¬ 1 ≤ s.size by omega)]; rfl
  rw [if_neg h1, decide_eq_true (show 1 ≤ s.size by omega)]
  by_cases h2 : (s.size : Int) > 12
  · rw [if_pos h2, decide_eq_false (show ¬ s.size ≤ 12 by omega)]; rfl
  rw [if_neg h2, decide_eq_true (show s.size ≤ 12 by omega)]
  by_cases c1 : s.toList = [121]
  · rw [if_pos c1]; simp [c1]
  rw [if_neg c1, bne_iff_ne.2 c1]
  by_cases c2 : s.toList = [97, 110, 100]
  · rw [if_pos c2]; simp [c2]
  rw [if_neg c2, bne_iff_ne.2 c2]
  by_cases c3 : s.toList = [111, 114]
  · rw [if_pos c3]; simp [c3]
  rw [if_neg c3, bne_iff_ne.2 c3]
  by_cases c4 : s.toList = [110, 111, 116]
  · rw [if_pos c4]; simp [c4]
  rw [if_neg c4, bne_iff_ne.2 c4]
  rfl

theorem whole_size_f {a : Int} (h0 : -9223372036854775808 ≤ a) (h1 : a ≤ 9223372036854775807) : whole_size.f a = some (ab a) := by
  unfold whole_size.f ab
  by_cases c : a < 0
  · rw [if_pos c, if_pos c, u64_def a, u64_def]
    congr 1; omega
  · rw [if_neg c, if_neg c, u64_id (by omega) (by omega)]

theorem whole_Gcd_l0 : ∀ (n k x y : Nat), y ≤ n → n < k → x ≤ 9223372036854775808 → y ≤ 9223372036854775808 → (0 < x ∨ y ≤ 9223372036854775808) →
    whole_Gcd.l0 k (x : Int) (y : Int) = some (if Nat.gcd x y = 9223372036854775808 then (0, 14) else ((Nat.gcd x y : Int), 0)) := by
  intro n
  induction n with
  | zero =>
    intro k x y hy hk hx hy1 _
    obtain ⟨k, rfl⟩ : ∃ m, k = m + 1 := ⟨k - 1, by omega⟩
    obtain rfl : y = 0 := by omega
    simp only [whole_Gcd.l0]
    rw [if_pos (by omega), Nat.gcd_zero_right]
    by_cases c : x = 9223372036854775808
    · rw [if_pos (by omega), if_pos c]
    · rw [if_neg (by omega), if_neg c, w64_id (by omega) (by omega)]
  | succ n ih =>
    intro k x y hy hk hx hy1 _
    obtain ⟨k, rfl⟩ : ∃ m, k = m + 1 := ⟨k - 1, by omega⟩
    simp only [whole_Gcd.l0]
    by_cases c0 : y = 0
    · subst c0
      rw [if_pos (by omega), Nat.gcd_zero_right]
      by_cases c : x = 9223372036854775808
      · rw [if_pos (by omega), if_pos c]
      · rw [if_neg (by omega), if_neg c, w64_id (by omega) (by omega)]
    · have hm : x % y < y := Nat.mod_lt _ (by omega)
      rw [if_neg (by omega), show Int.tmod (x : Int) (y : Int) = ((x % y : Nat) : Int) from by rw [← Int.ofNat_tmod]]
      rw [ih k y (x % y) (by omega) (by omega) hy1 (by omega) (.inl (by omega))]
      rw [show Nat.gcd y (x % y) = Nat.gcd x y from by rw [Nat.gcd_comm y, ← Nat.gcd_rec, Nat.gcd_comm]]
theorem gcd_ab (a b : Int) : Nat.gcd (ab a).toNat (ab b).toNat = Int.gcd a b := by
  have h : ∀ c : Int, (ab c).toNat = c.natAbs := fun c => by unfold ab; split <;> omega
  rw [h, h]; rfl
theorem gcd_le {a b : Int} (ha : -9223372036854775808 ≤ a) (ha1 : a ≤ 9223372036854775807) (hb : -9223372036854775808 ≤ b) (hb1 : b ≤ 9223372036854775807) : Int.gcd a b ≤ 9223372036854775808 := by
  show Nat.gcd a.natAbs b.natAbs ≤ _
  by_cases h : a.natAbs = 0
  · rw [h, Nat.gcd_zero_left]; omega
  · have := Nat.gcd_le_left b.natAbs (show 0 < a.natAbs by omega)
    omega
theorem whole_Gcd_f {a b : Int} (k : Nat) (hk : 9223372036854775810 ≤ k) (ha : -9223372036854775808 ≤ a) (ha1 : a ≤ 9223372036854775807) (hb : -9223372036854775808 ≤ b) (hb1 : b ≤ 9223372036854775807) :
    whole_Gcd.f k a b = some (if Int.gcd a b = 9223372036854775808 then (0, 14) else ((Int.gcd a b : Int), 0)) := by
  unfold whole_Gcd.f
  rw [whole_size_f ha ha1, whole_size_f hb hb1]
  simp only [Option.bind_some]
  have e1 := ab_nonneg a
  have e2 := ab_nonneg b
  have e3 := ab_le ha ha1
  have e4 := ab_le hb hb1
  have := whole_Gcd_l0 9223372036854775808 k (ab a).toNat (ab b).toNat (by omega) (by omega) (by omega) (by omega) (.inr (by omega))
  rw [gcd_ab, Int.toNat_of_nonneg e1, Int.toNat_of_nonneg e2] at this
  exact this

theorem frac_Check_f {n d : Int} (k : Nat) (hk : 9223372036854775820 ≤ k) : frac_Check.f k n d = some (if fracOK n d = true then 0 else 8) := by
  obtain ⟨k, rfl⟩ : ∃ m, k = m + 1 := ⟨k - 1, by omega⟩
  have hj : frac_Check.f (k + 1) n d = frac_Check.j0 (k + 1) (decide (¬ ((1 ≤ d ∧ d ≤ 2147483647) ∧ (-2147483647 ≤ n ∧ n ≤ 2147483647)))) n d := by
    unfold frac_Check.f
    by_cases c1 : d < 1
    · rw [if_pos c1, decide_eq_true (by omega)]
    rw [if_neg c1]
    by_cases c2 : d > 2147483647
    · rw [if_pos c2, decide_eq_true (by omega)]
    rw [if_neg c2]
    by_cases c3 : n < -2147483647
    · rw [if_pos c3, decide_eq_true (by omega)]
    rw [if_neg c3]
    by_cases c4 : n > 2147483647
    · rw [decide_eq_true c4, decide_eq_true (by omega)]
    · rw [decide_eq_false c4, decide_eq_false (by omega)]
  rw [hj]
  simp only [frac_Check.j0, decide_eq_true_eq, fracOK]
  by_cases c : (1 ≤ d ∧ d ≤ 2147483647) ∧ (-2147483647 ≤ n ∧ n ≤ 2147483647)
  · rw [if_neg (fun h => h c), whole_Gcd_f k (by omega) (by omega) (by omega) (by omega) (by omega), Option.bind_some]
    have hle := gcd_pos_le n (m := d) (by omega)
    have h9 : ¬ Int.gcd n d = 9223372036854775808 := by omega
    rw [if_neg h9]
    by_cases c2 : Int.gcd n d = 1
    · have h8 : (1 ≤ d ∧ d ≤ 2147483647) ∧ (-2147483647 ≤ n ∧ n ≤ 2147483647) ∧ Int.gcd n d = 1 := ⟨c.1, c.2, c2⟩
      rw [if_pos h8]; simp [c2]
    · have h8 : ¬ ((1 ≤ d ∧ d ≤ 2147483647) ∧ (-2147483647 ≤ n ∧ n ≤ 2147483647) ∧ Int.gcd n d = 1) := fun h => c2 h.2.2
      have h7 : ¬ (Int.gcd n d : Int) = 1 := by omega
      rw [if_neg h8]
      simp only [if_neg h7]
  · have h8 : ¬ ((1 ≤ d ∧ d ≤ 2147483647) ∧ (-2147483647 ≤ n ∧ n ≤ 2147483647) ∧ Int.gcd n d = 1) := fun h => c ⟨h.1, h.2.1⟩
    rw [if_pos c, if_neg h8]

theorem lunisolar_parts_f (name : ByteArray) (ep sn sd mn' md ln ld cy : Int) (lp av : List Int) (h : moonFrac sn sd mn' md ln ld) (k : Nat) (hk : 9223372036854775830 ≤ k) : lunisolar_parts.f k name ep sn sd mn' md ln ld cy lp av = some (parts3 sd md ld) := by
  obtain ⟨k, rfl⟩ : ∃ m, k = m + 4 := ⟨k - 4, by omega⟩
  obtain ⟨⟨h1, h2⟩, h3⟩ := h
  have b1 := okNum h1; have b2 := okNum h2; have b3 := okNum h3
  have one : ∀ (n d : Int) (k : Nat), 9223372036854775810 ≤ k → 1 ≤ n → n ≤ 1000000 → 1 ≤ d → d ≤ 2147483647 → whole_Gcd.f k n d = some ((Int.gcd n d : Int), 0) ∧ wrap64 (Int.tdiv n (Int.gcd n d : Int)) = n / (Int.gcd n d : Int) ∧ wrap64 (1000000 / d) = 1000000 / d ∧ wrap64 (n / (Int.gcd n d : Int) * d) = lcmD n d ∧ ¬ (Int.gcd n d : Int) = 0 ∧ (n / (Int.gcd n d : Int) > 1000000 / d ↔ 1000000 < lcmD n d) := by
    intro n d k hk n1 n2 d1 d2
    obtain ⟨g1, g2, g3, g4, g5, g6, g7⟩ := lcmD_facts n1 d1
    have hm := mul_lt (n := 1000000) (m := 2147483647) (show 0 ≤ n by omega) n2 (show 0 ≤ d by omega) d2
    have q1 := Int.ediv_nonneg (show (0 : Int) ≤ 1000000 by decide) (show 0 ≤ d by omega)
    have q2 := Int.ediv_le_self (a := 1000000) d (by decide)
    refine ⟨?_, ?_, w64_id (by omega) (by omega), ?_, by omega, ?_⟩
    · rw [whole_Gcd_f k hk (by omega) (by omega) (by omega) (by omega), if_neg (by omega)]
    · rw [Int.tdiv_eq_ediv_of_nonneg (by omega), w64_id (by omega) (by omega)]
    · unfold lcmD at *; exact w64_id (by omega) (by omega)
    · exact quo_gt g4 d1
  have gone : ∀ d : Int, (Int.gcd 1 d : Int) = 1 := fun d => by rw [Int.gcd_comm, Int.gcd_one]; rfl
  have l1 : ∀ d : Int, lcmD 1 d = d := fun d => by unfold lcmD; rw [gone]; simp
  unfold lunisolar_parts.f
  rw [Option.bind_some]
  have w1 : wrap64 (0 + 1) = 1 := w64_id (by decide) (by decide)
  have w2 : wrap64 (1 + 1) = 2 := w64_id (by decide) (by decide)
  have w3 : wrap64 (2 + 1) = 3 := w64_id (by decide) (by decide)
  have r0 : rd_T58 [⟨sn, sd⟩, ⟨mn', md⟩, ⟨ln, ld⟩] 0 = ⟨sn, sd⟩ := rfl
  have r1 : rd_T58 [⟨sn, sd⟩, ⟨mn', md⟩, ⟨ln, ld⟩] 1 = ⟨mn', md⟩ := rfl
  have r2 : rd_T58 [⟨sn, sd⟩, ⟨mn', md⟩, ⟨ln, ld⟩] 2 = ⟨ln, ld⟩ := rfl
  have len : (([⟨sn, sd⟩, ⟨mn', md⟩, ⟨ln, ld⟩] : List S58).length : Int) = 3 := rfl
  rw [len]
  obtain ⟨e1, e2, e3, e4, e5, e6⟩ := one 1 sd (k + 3) (by omega) (by omega) (by omega) (by omega) (by omega)
  have st1 : lunisolar_parts.l0 (k + 4) 1 [⟨sn, sd⟩, ⟨mn', md⟩, ⟨ln, ld⟩] 3 0 = if 1000000 < sd then some 0 else lunisolar_parts.l0 (k + 3) sd [⟨sn, sd⟩, ⟨mn', md⟩, ⟨ln, ld⟩] 3 1 := by
    simp only [lunisolar_parts.l0, r0, len]
    rw [if_pos (by decide), if_pos (by decide), if_pos (by decide), e1, Option.bind_some]
    simp only
    rw [if_neg e5, if_neg (by omega), e2, e3, e4, w1, l1]
    rw [l1] at e6
    by_cases c : 1000000 < sd
    · rw [if_pos (e6.2 c), if_pos c]
    · rw [if_neg (fun h => c (e6.1 h)), if_neg c]
  rw [st1]
  unfold parts3
  by_cases c1 : sd ≤ 1000000
  · rw [if_neg (by omega), if_pos c1]
    obtain ⟨e1, e2, e3, e4, e5, e6⟩ := one sd md (k + 2) (by omega) (by omega) (by omega) (by omega) (by omega)
    have st2 : lunisolar_parts.l0 (k + 3) sd [⟨sn, sd⟩, ⟨mn', md⟩, ⟨ln, ld⟩] 3 1 = if 1000000 < lcmD sd md then some 0 else lunisolar_parts.l0 (k + 2) (lcmD sd md) [⟨sn, sd⟩, ⟨mn', md⟩, ⟨ln, ld⟩] 3 2 := by
      simp only [lunisolar_parts.l0, r1, len]
      rw [if_pos (by decide), if_pos (by decide), if_pos (by decide), e1, Option.bind_some]
      simp only
      rw [if_neg e5, if_neg (by omega), e2, e3, e4, w2]
      by_cases c : 1000000 < lcmD sd md
      · rw [if_pos (e6.2 c), if_pos c]
      · rw [if_neg (fun h => c (e6.1 h)), if_neg c]
    rw [st2]
    have ge := lcmD_ge (n := sd) (d := md) (by omega) (by omega)
    by_cases c2 : lcmD sd md ≤ 1000000
    · rw [if_neg (by omega), if_pos c2]
      obtain ⟨e1, e2, e3, e4, e5, e6⟩ := one (lcmD sd md) ld (k + 1) (by omega) (by omega) (by omega) (by omega) (by omega)
      have st3 : lunisolar_parts.l0 (k + 2) (lcmD sd md) [⟨sn, sd⟩, ⟨mn', md⟩, ⟨ln, ld⟩] 3 2 = if 1000000 < lcmD (lcmD sd md) ld then some 0 else lunisolar_parts.l0 (k + 1) (lcmD (lcmD sd md) ld) [⟨sn, sd⟩, ⟨mn', md⟩, ⟨ln, ld⟩] 3 3 := by
        simp only [lunisolar_parts.l0, r2, len]
        rw [if_pos (by decide), if_pos (by decide), if_pos (by decide), e1, Option.bind_some]
        simp only
        rw [if_neg e5, if_neg (by omega), e2, e3, e4, w3]
        by_cases c : 1000000 < lcmD (lcmD sd md) ld
        · rw [if_pos (e6.2 c), if_pos c]
        · rw [if_neg (fun h => c (e6.1 h)), if_neg c]
      rw [st3]
      by_cases c3 : lcmD (lcmD sd md) ld ≤ 1000000
      · rw [if_neg (by omega), if_pos c3]
        simp only [lunisolar_parts.l0]
        rw [if_neg (by decide)]
      · rw [if_pos (by omega), if_neg c3]
    · rw [if_pos (by omega), if_neg c2]
  · rw [if_pos (by omega), if_neg c1]

/-- Is the number not above the one before it? -/
def tooLow : Option Int → Int → Bool
  | none, _ => false
  | some q, x => decide (x ≤ q)
theorem tooLow_prev (l : List Int) (i : Nat) (x : Int) : tooLow (prevN l i) x = (decide (0 < (i : Int)) && decide (x ≤ rd l ((i : Int) - 1))) := by
  unfold prevN
  split
  · subst_vars; rfl
  · rw [decide_eq_true (show 0 < (i : Int) by omega)]; rfl
/-- Rising numbers within bounds: the first fault. -/
def riseFrom (lo hi : Int) : Option Int → List Int → Int
  | _, [] => 0
  | p, x :: t => if lo ≤ x ∧ x ≤ hi then (if tooLow p x = true then 9 else riseFrom lo hi (some x) t) else 3
theorem lunisolar_rising_l0 (l : List Int) (lo hi : Int) (hl : l.length ≤ 17592186044416) : ∀ (d i k : Nat), i + d = l.length → 2 * d < k →
    lunisolar_rising.l0 k l lo hi l (l.length : Int) (i : Int) = some (riseFrom lo hi (prevN l i) (l.drop i)) := by
  intro d
  induction d with
  | zero =>
    intro i k hi' hk
    obtain ⟨k, rfl⟩ : ∃ m, k = m + 1 := ⟨k - 1, by omega⟩
    simp only [lunisolar_rising.l0]
    rw [if_neg (by omega), List.drop_of_length_le (by omega)]; rfl
  | succ d ih =>
    intro i k hi' hk
    obtain ⟨k, rfl⟩ : ∃ m, k = m + 2 := ⟨k - 2, by omega⟩
    have hlt : i < l.length := by omega
    have ih := ih (i + 1) k (by omega) (by omega)
    rw [prevN_succ l i hlt, show ((i + 1 : Nat) : Int) = (i : Int) + 1 from by omega] at ih
    simp only [lunisolar_rising.l0, lunisolar_rising.j1]
    rw [List.drop_eq_getElem_cons hlt, rd_get l i hlt, w64_id (n := (i : Int) + 1) (by omega) (by omega), w64_id (n := (i : Int) - 1) (by omega) (by omega), ih]
    simp only [riseFrom, tooLow_prev]
    clear ih
    grind
theorem lunisolar_rising_f (l : List Int) (lo hi : Int) (hl : l.length ≤ 17592186044416) (k : Nat) (hk : 2 * l.length < k) : lunisolar_rising.f k l lo hi = some (riseFrom lo hi none l) := by
  unfold lunisolar_rising.f
  exact lunisolar_rising_l0 l lo hi hl l.length 0 k (by omega) (by omega)

/-- The first fault of a rule of mean months. -/
def moonErr (name : ByteArray) (ep sn sd mn' md ln ld cy : Int) (lp av : List Int) : Int :=
  if isName name = true then (if -4000000 ≤ ep ∧ ep ≤ 4000000 then (if moonFrac sn sd mn' md ln ld then (if moonRange sn sd mn' md ln ld then (if parts3 sd md ld = 0 then 14 else if 1 ≤ cy ∧ cy ≤ 100 then
    (if riseFrom 1 cy none lp = 0 then (if av.length ≤ 3 then riseFrom 0 6 none av else 2) else riseFrom 1 cy none lp) else 3) else 3) else 8) else 3) else 5
theorem lunisolar_Check_j2 (name : ByteArray) (ep sn sd mn' md ln ld cy : Int) (lp av : List Int) (hl : lp.length ≤ 17592186044416) (k : Nat) (hk : 50000000000000 ≤ k) :
    lunisolar_Check.j2 k false name ep sn sd mn' md ln ld cy lp av = some (if riseFrom 1 cy none lp = 0 then (if av.length ≤ 3 then riseFrom 0 6 none av else 2) else riseFrom 1 cy none lp) := by
  obtain ⟨k, rfl⟩ : ∃ m, k = m + 1 := ⟨k - 1, by omega⟩
  simp only [lunisolar_Check.j2, Bool.false_eq_true, if_false]
  rw [lunisolar_rising_f lp 1 cy hl k (by omega), Option.bind_some]
  by_cases c : riseFrom 1 cy none lp = 0
  · rw [if_pos c, if_pos c]
    by_cases c2 : av.length ≤ 3
    · rw [if_neg (by omega), if_pos c2, lunisolar_rising_f av 0 6 (by omega) k (by omega), Option.bind_some]
    · rw [if_pos (by omega), if_neg c2]
  · rw [if_neg c, if_neg c]
theorem lunisolar_Check_f (name : ByteArray) (ep sn sd mn' md ln ld cy : Int) (lp av : List Int) (hl : lp.length ≤ 17592186044416) (k : Nat) (hk : 9223372036854775900 ≤ k) :
    lunisolar_Check.f k name ep sn sd mn' md ln ld cy lp av = some (moonErr name ep sn sd mn' md ln ld cy lp av) := by
  obtain ⟨k, rfl⟩ : ∃ m, k = m + 6 := ⟨k - 6, by omega⟩
  have w1 : wrap64 (0 + 1) = 1 := w64_id (by decide) (by decide)
  have w2 : wrap64 (1 + 1) = 2 := w64_id (by decide) (by decide)
  have w3 : wrap64 (2 + 1) = 3 := w64_id (by decide) (by decide)
  have r0 : rd_T58 [⟨sn, sd⟩, ⟨mn', md⟩, ⟨ln, ld⟩] 0 = ⟨sn, sd⟩ := rfl
  have r1 : rd_T58 [⟨sn, sd⟩, ⟨mn', md⟩, ⟨ln, ld⟩] 1 = ⟨mn', md⟩ := rfl
  have r2 : rd_T58 [⟨sn, sd⟩, ⟨mn', md⟩, ⟨ln, ld⟩] 2 = ⟨ln, ld⟩ := rfl
  have len : (([⟨sn, sd⟩, ⟨mn', md⟩, ⟨ln, ld⟩] : List S58).length : Int) = 3 := rfl
  unfold lunisolar_Check.f moonErr
  rw [rule_Name_f, Option.bind_some, line_Check_f, Option.bind_some, Option.bind_some, len]
  by_cases c1 : isName name = true
  rotate_left
  · rw [if_neg c1, if_neg c1]
  rw [if_pos c1, if_pos c1]
  by_cases c2 : -4000000 ≤ ep ∧ ep ≤ 4000000
  rotate_left
  · rw [if_neg c2, if_neg c2, if_neg (by decide)]
  rw [if_pos c2, if_pos c2, if_pos rfl]
  simp only [lunisolar_Check.l0, r0, r1, r2, len, w1, w2, w3]
  rw [frac_Check_f (k + 5) (by omega), frac_Check_f (k + 4) (by omega), frac_Check_f (k + 3) (by omega)]
  simp only [Option.bind_some, if_pos (show (0 : Int) < 3 by decide), if_pos (show (1 : Int) < 3 by decide), if_pos (show (2 : Int) < 3 by decide), if_pos (show (0 : Int) ≤ 0 by decide), if_pos (show (0 : Int) ≤ 1 by decide), if_pos (show (0 : Int) ≤ 2 by decide), if_neg (show ¬ (3 : Int) < 3 by decide)]
  by_cases f1 : fracOK sn sd = true
  rotate_left
  · rw [if_neg f1, if_neg (by decide), if_neg (fun h => f1 h.1.1)]
  by_cases f2 : fracOK mn' md = true
  rotate_left
  · rw [if_pos f1, if_pos rfl, if_neg f2, if_neg (by decide), if_neg (fun h => f2 h.1.2)]
  by_cases f3 : fracOK ln ld = true
  rotate_left
  · rw [if_pos f1, if_pos rfl, if_pos f2, if_pos rfl, if_neg f3, if_neg (by decide), if_neg (fun h => f3 h.2)]
  have hf : moonFrac sn sd mn' md ln ld := ⟨⟨f1, f2⟩, f3⟩
  rw [if_pos f1, if_pos rfl, if_pos f2, if_pos rfl, if_pos f3, if_pos rfl, if_pos hf]
  have b1 := okNum f1; have b2 := okNum f2; have b3 := okNum f3
  rw [w64_id (n := 29 * md) (by omega) (by omega), w64_id (n := 30 * md) (by omega) (by omega)]
  have hj : ∀ b : Bool, b = decide (¬ moonRange sn sd mn' md ln ld) → lunisolar_Check.j1 (k + 2) b name ep sn sd mn' md ln ld cy lp av = some (if moonRange sn sd mn' md ln ld then (if parts3 sd md ld = 0 then 14 else if 1 ≤ cy ∧ cy ≤ 100 then
    (if riseFrom 1 cy none lp = 0 then (if av.length ≤ 3 then riseFrom 0 6 none av else 2) else riseFrom 1 cy none lp) else 3) else 3) := by
    rintro b rfl
    by_cases c : moonRange sn sd mn' md ln ld
    · rw [dec_not_false c, if_pos c]
      conv => lhs; unfold lunisolar_Check.j1
      simp only [Bool.false_eq_true, if_false]
      rw [lunisolar_parts_f name ep sn sd mn' md ln ld cy lp av hf (k + 1) (by omega), Option.bind_some]
      by_cases c3 : parts3 sd md ld = 0
      · rw [if_pos c3, if_pos c3]
      · rw [if_neg c3, if_neg c3]
        by_cases c4 : 1 ≤ cy ∧ cy ≤ 100
        · rw [if_neg (by omega), decide_eq_false (show ¬ cy > 100 by omega), if_pos c4]
          exact lunisolar_Check_j2 name ep sn sd mn' md ln ld cy lp av hl (k + 1) (by omega)
        · rw [if_neg c4]
          by_cases c5 : cy < 1
          · rw [if_pos c5]; simp only [lunisolar_Check.j2, if_true]
          · rw [if_neg c5, decide_eq_true (show cy > 100 by omega)]; simp only [lunisolar_Check.j2, if_true]
    · rw [dec_not_true c, if_neg c]
      simp only [lunisolar_Check.j1, if_true]
  have hr : moonRange sn sd mn' md ln ld ↔ ((0 ≤ sn ∧ sn < sd) ∧ (29 * md ≤ mn' ∧ mn' ≤ 30 * md)) ∧ (1 ≤ ln ∧ ln ≤ ld) := Iff.rfl
  by_cases d1 : sn < 0
  · rw [if_pos d1]; exact hj _ (dec_not_true (fun h => by rw [hr] at h; omega)).symm
  rw [if_neg d1]
  by_cases d2 : sn ≥ sd
  · rw [if_pos d2]; exact hj _ (dec_not_true (fun h => by rw [hr] at h; omega)).symm
  rw [if_neg d2]
  by_cases d3 : mn' < 29 * md
  · rw [if_pos d3]; exact hj _ (dec_not_true (fun h => by rw [hr] at h; omega)).symm
  rw [if_neg d3]
  by_cases d4 : mn' > 30 * md
  · rw [if_pos d4]; exact hj _ (dec_not_true (fun h => by rw [hr] at h; omega)).symm
  rw [if_neg d4]
  by_cases d5 : ln < 1
  · rw [if_pos d5]; exact hj _ (dec_not_true (fun h => by rw [hr] at h; omega)).symm
  rw [if_neg d5]
  exact hj _ (decide_eq_decide.2 (by rw [hr]; omega))

theorem riseFrom_ok (lo hi : Int) : ∀ (l : List Int) (p : Option Int), riseFrom lo hi p l = 0 → (∀ y ∈ l, (lo ≤ y ∧ y ≤ hi) ∧ ∀ q, p = some q → q < y) ∧ l.Pairwise (· < ·)
  | [], _, _ => ⟨fun y h => by simp at h, List.Pairwise.nil⟩
  | x :: t, p, h => by
    unfold riseFrom at h
    by_cases c1 : lo ≤ x ∧ x ≤ hi
    · rw [if_pos c1] at h
      by_cases c2 : tooLow p x = true
      · rw [if_pos c2] at h; cases h
      · rw [if_neg c2] at h
        obtain ⟨h1, h2⟩ := riseFrom_ok lo hi t (some x) h
        have hx : ∀ q, p = some q → q < x := by
          intro q hq
          subst hq
          simp only [tooLow, decide_eq_true_eq] at c2
          omega
        refine ⟨fun y hy => ?_, List.pairwise_cons.2 ⟨fun y hy => (h1 y hy).2 x rfl, h2⟩⟩
        rcases List.mem_cons.1 hy with rfl | hy
        · exact ⟨c1, hx⟩
        · have h3 := h1 y hy
          exact ⟨h3.1, fun q hq => by have := hx q hq; have := h3.2 x rfl; omega⟩
    · rw [if_neg c1] at h; cases h
theorem lcmD_dvd {n d : Int} (hn : 1 ≤ n) (hd : 1 ≤ d) : n ∣ lcmD n d ∧ d ∣ lcmD n d := by
  obtain ⟨g1, g2⟩ := gcd_pos_le n (m := d) (by omega)
  obtain ⟨c, hc⟩ := Int.gcd_dvd_left n d
  obtain ⟨e, he⟩ := Int.gcd_dvd_right n d
  have hq : n / (Int.gcd n d : Int) = c := by
    have := Int.mul_ediv_cancel_left c (show (Int.gcd n d : Int) ≠ 0 by omega)
    rw [← hc] at this; exact this
  unfold lcmD
  rw [hq]
  refine ⟨⟨e, ?_⟩, Int.dvd_mul_left ..⟩
  have h1 : c * d = c * ((Int.gcd n d : Int) * e) := by rw [← he]
  rw [h1, ← Int.mul_assoc, Int.mul_comm c, ← hc]
theorem parts3_ok {a b c : Int} (ha : 1 ≤ a) (hb : 1 ≤ b) (hc : 1 ≤ c) (h : parts3 a b c ≠ 0) : (1 ≤ parts3 a b c ∧ parts3 a b c ≤ 1000000) ∧ a ∣ parts3 a b c ∧ b ∣ parts3 a b c ∧ c ∣ parts3 a b c := by
  unfold parts3 at *
  by_cases c1 : a ≤ 1000000
  · rw [if_pos c1] at *
    by_cases c2 : lcmD a b ≤ 1000000
    · rw [if_pos c2] at *
      by_cases c3 : lcmD (lcmD a b) c ≤ 1000000
      · rw [if_pos c3] at *
        have f1 := lcmD_facts ha hb
        have f2 := lcmD_facts (n := lcmD a b) (d := c) (by omega) hc
        have d1 := lcmD_dvd ha hb
        have d2 := lcmD_dvd (n := lcmD a b) (d := c) (by omega) hc
        exact ⟨by omega, Int.dvd_trans d1.1 d2.1, Int.dvd_trans d1.2 d2.1, d2.2⟩
      · rw [if_neg c3] at h; exact absurd rfl h
    · rw [if_neg c2] at h; exact absurd rfl h
  · rw [if_neg c1] at h; exact absurd rfl h
/-- What is known of a valid rule of mean months. -/
structure OkMoon (ep sn sd mn' md ln ld cy : Int) (lp av : List Int) : Prop where
  fr : OkFr (parts3 sd md ld) ep sn sd mn' md ln ld
  lps : OkLp cy lp
  av3 : av.length ≤ 3
  frac : moonFrac sn sd mn' md ln ld
theorem moonErr_ok {name : ByteArray} {ep sn sd mn' md ln ld cy : Int} {lp av : List Int} (h : moonErr name ep sn sd mn' md ln ld cy lp av = 0) : OkMoon ep sn sd mn' md ln ld cy lp av := by
  unfold moonErr at h
  by_cases c1 : isName name = true
  rotate_left
  · rw [if_neg c1] at h; cases h
  rw [if_pos c1] at h
  by_cases c2 : -4000000 ≤ ep ∧ ep ≤ 4000000
  rotate_left
  · rw [if_neg c2] at h; cases h
  rw [if_pos c2] at h
  by_cases c3 : moonFrac sn sd mn' md ln ld
  rotate_left
  · rw [if_neg c3] at h; cases h
  rw [if_pos c3] at h
  by_cases c4 : moonRange sn sd mn' md ln ld
  rotate_left
  · rw [if_neg c4] at h; cases h
  rw [if_pos c4] at h
  by_cases c5 : parts3 sd md ld = 0
  · rw [if_pos c5] at h; cases h
  rw [if_neg c5] at h
  by_cases c6 : 1 ≤ cy ∧ cy ≤ 100
  rotate_left
  · rw [if_neg c6] at h; cases h
  rw [if_pos c6] at h
  by_cases c7 : riseFrom 1 cy none lp = 0
  rotate_left
  · rw [if_neg c7] at h; exact absurd h c7
  rw [if_pos c7] at h
  by_cases c8 : av.length ≤ 3
  rotate_left
  · rw [if_neg c8] at h; cases h
  obtain ⟨r1, r2⟩ := riseFrom_ok 1 cy lp none c7
  obtain ⟨⟨f1, f2⟩, f3⟩ := c3
  have b1 := okNum f1; have b2 := okNum f2; have b3 := okNum f3
  obtain ⟨p1, p2, p3, p4⟩ := parts3_ok (by omega) (by omega) (by omega) c5
  obtain ⟨⟨r3, r4⟩, r5⟩ := c4
  exact ⟨⟨c2, p1, ⟨⟨by omega, Int.le_of_dvd (by omega) p2⟩, p2⟩, ⟨⟨by omega, Int.le_of_dvd (by omega) p3⟩, p3⟩, ⟨⟨by omega, Int.le_of_dvd (by omega) p4⟩, p4⟩, r3, r4, r5⟩,
    ⟨c6, fun y hy => (r1 y hy).1.1, fun y hy => (r1 y hy).1.2, r2⟩, c8, ⟨⟨f1, f2⟩, f3⟩⟩
/-- The first day of a month. -/
def monD (ep sn sd mn' md ln ld cy : Int) (lp av : List Int) (y m : Int) : Int := mStart (parts3 sd md ld) ep sn sd mn' md ln ld cy lp av y m
theorem monD_bound {ep sn sd mn' md ln ld cy : Int} {lp av : List Int} (ok : OkMoon ep sn sd mn' md ln ld cy lp av) {y m : Int} (hy : -30000 ≤ y ∧ y ≤ 30000) (hm : -1000 ≤ m ∧ m ≤ 1000) : -130000000 ≤ monD ep sn sd mn' md ln ld cy lp av y m ∧ monD ep sn sd mn' md ln ld cy lp av y m ≤ 130000003 := by
  have h1 := (mB_bound ok.lps hy).2.2.2.2
  have h2 := (mDay_bound ok.fr (k := mB cy lp y + m - 1) (by omega)).2
  unfold monD mStart
  split
  · have := skipD_bound av ok.av3 (mDay (parts3 sd md ld) ep sn sd mn' md ln ld (mB cy lp y + m - 1)); omega
  · omega
/-- The day on which the next month begins. -/
def nextD (ep sn sd mn' md ln ld cy : Int) (lp av : List Int) (y m : Int) : Int :=
  if m = mMonths cy lp y then monD ep sn sd mn' md ln ld cy lp av (y + 1) 1 else monD ep sn sd mn' md ln ld cy lp av y (m + 1)
theorem mDay_step {n ep sn sd mn' md ln ld : Int} (ok : OkFr n ep sn sd mn' md ln ld) (k : Int) : mDay n ep sn sd mn' md ln ld k + 29 ≤ mDay n ep sn sd mn' md ln ld (k + 1) := by
  have h1 := ok.hn
  obtain ⟨f1, f2, f3, f4, f5, f6⟩ := ok.facts
  unfold mDay
  generalize mn' * (n / md) = M at *
  generalize sn * (n / sd) = S at *
  generalize ln * (n / ld) = L at *
  have hk : (k + 1) * M = k * M + M := by rw [Int.add_mul, Int.one_mul]
  have : (S + k * M + n - L) / n + 29 ≤ (S + (k + 1) * M + n - L) / n := by
    rw [Int.le_ediv_iff_mul_le (by omega), Int.add_mul]
    have := Int.ediv_mul_le (S + k * M + n - L) (b := n) (by omega)
    omega
  omega
theorem mDay_steps {n ep sn sd mn' md ln ld : Int} (ok : OkFr n ep sn sd mn' md ln ld) (k : Int) : ∀ j : Nat, mDay n ep sn sd mn' md ln ld k + 29 * j ≤ mDay n ep sn sd mn' md ln ld (k + j)
  | 0 => by simp
  | j + 1 => by
    have h1 := mDay_steps ok k j
    have h2 := mDay_step ok (k + j)
    rw [show k + ((j + 1 : Nat) : Int) = k + j + 1 from by omega]; omega
theorem mDay_lt {n ep sn sd mn' md ln ld : Int} (ok : OkFr n ep sn sd mn' md ln ld) {a b : Int} (h : a ≤ b) : mDay n ep sn sd mn' md ln ld a + 29 * (b - a) ≤ mDay n ep sn sd mn' md ln ld b := by
  have := mDay_steps ok a (b - a).toNat
  rwa [show a + (((b - a).toNat : Nat) : Int) = b from by omega, show (((b - a).toNat : Nat) : Int) = b - a from by omega] at this
section
variable {ep sn sd mn' md ln ld cy : Int} {lp av : List Int}
theorem monD_near (ok : OkMoon ep sn sd mn' md ln ld cy lp av) (y m : Int) : mDay (parts3 sd md ld) ep sn sd mn' md ln ld (mB cy lp y + m - 1) ≤ monD ep sn sd mn' md ln ld cy lp av y m ∧ monD ep sn sd mn' md ln ld cy lp av y m ≤ mDay (parts3 sd md ld) ep sn sd mn' md ln ld (mB cy lp y + m - 1) + 3 := by
  unfold monD mStart
  split
  · exact skipD_bound av ok.av3 _
  · omega
theorem monD_mono (ok : OkMoon ep sn sd mn' md ln ld cy lp av) (y : Int) {a b : Int} (h : a < b) : monD ep sn sd mn' md ln ld cy lp av y a + 26 ≤ monD ep sn sd mn' md ln ld cy lp av y b := by
  have h1 := monD_near ok y a; have h2 := monD_near ok y b
  have h3 := mDay_lt ok.fr (a := mB cy lp y + a - 1) (b := mB cy lp y + b - 1) (by omega)
  omega
theorem mB_steps (ok : OkLp cy lp) (y : Int) : ∀ j : Nat, mB cy lp y + 12 * j ≤ mB cy lp (y + j)
  | 0 => by simp
  | j + 1 => by
    have h1 := mB_steps ok y j
    have h2 := mB_succ ok (y + j)
    have h3 := mMonths_bound cy lp (y + j)
    rw [show y + ((j + 1 : Nat) : Int) = y + j + 1 from by omega, h2]; omega
theorem year_lt (ok : OkMoon ep sn sd mn' md ln ld cy lp av) {a b : Int} (h : a < b) : monD ep sn sd mn' md ln ld cy lp av a 1 < monD ep sn sd mn' md ln ld cy lp av b 1 := by
  have h1 := monD_near ok a 1; have h2 := monD_near ok b 1
  have h4 := mB_steps ok.lps a (b - a).toNat
  rw [show a + (((b - a).toNat : Nat) : Int) = b from by omega] at h4
  have h3 := mDay_lt ok.fr (a := mB cy lp a + 1 - 1) (b := mB cy lp b + 1 - 1) (by omega)
  omega
theorem next_last (ok : OkMoon ep sn sd mn' md ln ld cy lp av) (y m : Int) (h : m < mMonths cy lp y) : monD ep sn sd mn' md ln ld cy lp av y m + 26 ≤ monD ep sn sd mn' md ln ld cy lp av (y + 1) 1 := by
  have h1 := monD_near ok y m; have h2 := monD_near ok (y + 1) 1
  have hs := mB_succ ok.lps y
  have h3 := mDay_lt ok.fr (a := mB cy lp y + m - 1) (b := mB cy lp (y + 1) + 1 - 1) (by omega)
  omega
def inYearM (ep sn sd mn' md ln ld cy : Int) (lp av : List Int) (day y : Int) : Prop := monD ep sn sd mn' md ln ld cy lp av y 1 ≤ day ∧ day < monD ep sn sd mn' md ln ld cy lp av (y + 1) 1
def inMonthM (ep sn sd mn' md ln ld cy : Int) (lp av : List Int) (day y m : Int) : Prop := (1 ≤ m ∧ m ≤ mMonths cy lp y) ∧ monD ep sn sd mn' md ln ld cy lp av y m ≤ day ∧ day < nextD ep sn sd mn' md ln ld cy lp av y m
theorem inYearM_uniq (ok : OkMoon ep sn sd mn' md ln ld cy lp av) {day a b : Int} (ha : inYearM ep sn sd mn' md ln ld cy lp av day a) (hb : inYearM ep sn sd mn' md ln ld cy lp av day b) : a = b := by
  obtain ⟨a1, a2⟩ := ha; obtain ⟨b1, b2⟩ := hb
  rcases Int.lt_trichotomy a b with h | h | h
  · by_cases e : a + 1 = b
    · rw [e] at a2; omega
    · have := year_lt ok (show a + 1 < b by omega); omega
  · exact h
  · by_cases e : b + 1 = a
    · rw [e] at b2; omega
    · have := year_lt ok (show b + 1 < a by omega); omega
theorem inMonthM_uniq (ok : OkMoon ep sn sd mn' md ln ld cy lp av) {day y a b : Int} (ha : inMonthM ep sn sd mn' md ln ld cy lp av day y a) (hb : inMonthM ep sn sd mn' md ln ld cy lp av day y b) : a = b := by
  obtain ⟨⟨a0, a3⟩, a1, a2⟩ := ha; obtain ⟨⟨b0, b3⟩, b1, b2⟩ := hb
  have key : ∀ p q, p < q → q ≤ mMonths cy lp y → monD ep sn sd mn' md ln ld cy lp av y q ≤ day → day < nextD ep sn sd mn' md ln ld cy lp av y p → False := by
    intro p q h h2 h3 h4
    unfold nextD at h4
    rw [if_neg (by omega)] at h4
    by_cases e : p + 1 = q
    · rw [e] at h4; omega
    · have := monD_mono ok y (show p + 1 < q by omega); omega
  rcases Int.lt_trichotomy a b with h | h | h
  · exact (key a b h b3 b1 a2).elim
  · exact h
  · exact (key b a h a3 a1 b2).elim
/-- The answer of FromDay. -/
def moonFrom (ep sn sd mn' md ln ld cy : Int) (lp av : List Int) (day : Int) (res : Option (Int × Int × Int × Int)) : Prop :=
  ((monD ep sn sd mn' md ln ld cy lp av (-9999) 1 ≤ day ∧ day < monD ep sn sd mn' md ln ld cy lp av 10000 1) ∧ ∃ y m, (-9999 ≤ y ∧ y ≤ 9999) ∧ inYearM ep sn sd mn' md ln ld cy lp av day y ∧ inMonthM ep sn sd mn' md ln ld cy lp av day y m ∧ res = some (y, m, day - monD ep sn sd mn' md ln ld cy lp av y m + 1, 0)) ∨
  (¬ (monD ep sn sd mn' md ln ld cy lp av (-9999) 1 ≤ day ∧ day < monD ep sn sd mn' md ln ld cy lp av 10000 1) ∧ res = some (0, 0, 0, 3))
theorem moonFrom_uniq (ok : OkMoon ep sn sd mn' md ln ld cy lp av) {day : Int} {a b : Option (Int × Int × Int × Int)} (ha : moonFrom ep sn sd mn' md ln ld cy lp av day a) (hb : moonFrom ep sn sd mn' md ln ld cy lp av day b) : a = b := by
  rcases ha with ⟨h1, y, m, hy, h2, h3, rfl⟩ | ⟨h1, rfl⟩
  · rcases hb with ⟨_, y', m', hy', h2', h3', rfl⟩ | ⟨h1', _⟩
    · obtain rfl := inYearM_uniq ok h2 h2'
      obtain rfl := inMonthM_uniq ok h3 h3'
      rfl
    · exact absurd h1 h1'
  · rcases hb with ⟨h1', _⟩ | ⟨_, rfl⟩
    · exact absurd h1' h1
    · rfl
end
/-- The day of a date of a valid rule. -/
def toDayM (ep sn sd mn' md ln ld cy : Int) (lp av : List Int) (y m d : Int) : Int × Int :=
  if -10000 ≤ y ∧ y ≤ 10000 then (if 1 ≤ m ∧ m ≤ mMonths cy lp y then (if -4000000 ≤ monD ep sn sd mn' md ln ld cy lp av y m ∧ monD ep sn sd mn' md ln ld cy lp av y m ≤ 4000000 then
    (if -4000000 ≤ nextD ep sn sd mn' md ln ld cy lp av y m ∧ nextD ep sn sd mn' md ln ld cy lp av y m ≤ 4000000 then (if 1 ≤ d ∧ d ≤ nextD ep sn sd mn' md ln ld cy lp av y m - monD ep sn sd mn' md ln ld cy lp av y m then (monD ep sn sd mn' md ln ld cy lp av y m + d - 1, 0) else (0, 1)) else (0, 3)) else (0, 3)) else (0, 1)) else (0, 3)

theorem lunisolar_begin_f (name : ByteArray) (ep sn sd mn' md ln ld cy : Int) (lp av : List Int) (hl : lp.length ≤ 17592186044416) (y : Int) (k : Nat) (hk : 9223372036854775900 ≤ k) :
    lunisolar_begin.f k name ep sn sd mn' md ln ld cy lp av y = some (if moonErr name ep sn sd mn' md ln ld cy lp av = 0 then (if -10000 ≤ y ∧ y ≤ 10000 then 0 else 3) else moonErr name ep sn sd mn' md ln ld cy lp av) := by
  unfold lunisolar_begin.f
  rw [lunisolar_Check_f name ep sn sd mn' md ln ld cy lp av hl k hk, Option.bind_some]
  grind

theorem whole_Mod_f {a m : Int} (hm : 0 < m) (hm1 : m ≤ 9223372036854775807) : whole_Mod.f a m = some (a % m) := by
  unfold whole_Mod.f
  rw [if_neg (by omega)]
  obtain ⟨h1, h2⟩ := tmod_emod a m hm
  have h3 := Int.emod_nonneg a (b := m) (by omega)
  have h4 := Int.emod_lt_of_pos a hm
  by_cases c : Int.tmod a m < 0
  · rw [if_pos c, h1 c, w64_id (by omega) (by omega)]
  · rw [if_neg c, h2 c]

theorem sort_SearchInts_f {l : List Int} (hp : l.Pairwise (· < ·)) (hl : l.length ≤ 100000) (r : Int) : sort_SearchInts.f l (r + 1) = some ((l.countP fun y => decide (y ≤ r) : Nat) : Int) := by
  unfold sort_SearchInts.f
  have : sort_SearchInts.asc l = true := decide_eq_true ⟨hp.imp (fun h => Int.le_of_lt h), by omega⟩
  rw [if_pos this, count_fun]

theorem lunisolar_months_f {name : ByteArray} {ep sn sd mn' md ln ld cy : Int} {lp av : List Int} (ok : OkLp cy lp) (y : Int) (hy : -30000 ≤ y ∧ y ≤ 30000) : lunisolar_months.f name ep sn sd mn' md ln ld cy lp av y = some (mMonths cy lp y) := by
  have hc := ok.cy; have hll := ok.llen
  have r1 := Int.emod_nonneg (y - 1) (b := cy) (by omega)
  have r2 := Int.emod_lt_of_pos (y - 1) (b := cy) (by omega)
  have hs := srch_at (l := lp) ((y - 1) % cy) ok.up
  unfold lunisolar_months.f mMonths isLeapM
  rw [w64_id (n := y - 1) (by omega) (by omega), whole_Mod_f (by omega) (by omega), Option.bind_some, w64_id (n := (y - 1) % cy + 1) (by omega) (by omega), sort_SearchInts_f ok.up (by omega), Option.bind_some]
  by_cases hlt : (lp.countP fun y_1 => decide (y_1 ≤ (y - 1) % cy)) < lp.length
  · rw [if_pos (by omega), if_pos (by omega), rd_get lp _ hlt]
    by_cases hm : (y - 1) % cy + 1 ∈ lp
    · rw [if_pos (hs.1 hm).2, if_pos (decide_eq_true hm)]
    · rw [if_neg (fun h => hm (hs.2 ⟨hlt, h⟩)), if_neg (by simpa using hm)]
  · rw [if_neg (by omega), if_neg]
    intro h
    exact hlt (hs.1 (of_decide_eq_true h)).1

theorem lunisolar_Months_f (name : ByteArray) (ep sn sd mn' md ln ld cy : Int) (lp av : List Int) (hl : lp.length ≤ 17592186044416) (y : Int) (k : Nat) (hk : 9223372036854775900 ≤ k) :
    lunisolar_Months.f k name ep sn sd mn' md ln ld cy lp av y = some (if moonErr name ep sn sd mn' md ln ld cy lp av = 0 then (if -10000 ≤ y ∧ y ≤ 10000 then (mMonths cy lp y, 0) else (0, 3)) else (0, moonErr name ep sn sd mn' md ln ld cy lp av)) := by
  unfold lunisolar_Months.f
  rw [lunisolar_begin_f name ep sn sd mn' md ln ld cy lp av hl y k hk, Option.bind_some]
  by_cases h : moonErr name ep sn sd mn' md ln ld cy lp av = 0
  rotate_left
  · rw [if_neg h, if_neg h, if_neg h]
  rw [if_pos h, if_pos h]
  by_cases h2 : -10000 ≤ y ∧ y ≤ 10000
  rotate_left
  · rw [if_neg h2, if_neg (by decide), if_neg h2]
  rw [if_pos h2, if_pos rfl, if_pos h2, lunisolar_months_f (moonErr_ok h).lps y (by omega), Option.bind_some]

theorem whole_Div_f {a b : Int} (k : Nat) (hk : 1 ≤ k) (ha : -9223372036854775808 ≤ a) (ha1 : a ≤ 9223372036854775807) (hb : -9223372036854775808 ≤ b) (hb1 : b ≤ 9223372036854775807) : whole_Div.f k a b = some (divs a b) := by
  obtain ⟨k, rfl⟩ : ∃ m, k = m + 1 := ⟨k - 1, by omega⟩
  unfold whole_Div.f divs
  by_cases c : b = 0
  · rw [if_pos c, if_pos c]
  rw [if_neg c, if_neg c]
  by_cases d : a = -9223372036854775808 ∧ b = -1
  · rw [if_pos d.1, if_pos d, d.2]; simp [whole_Div.j0]
  have e : (if a = (-9223372036854775808) then (whole_Div.j0 (k + 1) a b (b == (-1))) else (whole_Div.j0 (k + 1) a b false)) = whole_Div.j0 (k + 1) a b false := by
    by_cases c1 : a = -9223372036854775808
    · rw [if_pos c1, show (b == -1) = false from beq_eq_false_iff_ne.2 (fun h => d ⟨c1, h⟩)]
    · rw [if_neg c1]
  rw [e, if_neg d]
  simp only [whole_Div.j0, Bool.false_eq_true, if_false]
  rw [if_neg c]
  obtain ⟨b1, b2⟩ := tdiv_bound a b c ha ha1 d
  obtain ⟨g1, g2, g3⟩ := fd_of_t a b c
  obtain ⟨t0, t1, t2, t3, t4⟩ := tdm a b c
  rw [w64_id b1 b2]
  by_cases hz : Int.tmod a b = 0
  · rw [if_pos hz, (g1 hz).1, (g1 hz).2, hz]
  · rw [if_neg hz]
    cases hs : (decide (Int.tmod a b < 0) != decide (b < 0)) with
    | true =>
      have hq : fd a b = Int.tdiv a b - 1 := (g2 hz hs).1
      have hfs := fd_spec a b c
      have hlow : -9223372036854775808 ≤ Int.tdiv a b - 1 := by
        by_cases hm : Int.tdiv a b = -9223372036854775808
        · exfalso
          have h9 : (Int.tdiv a b).natAbs = a.natAbs / b.natAbs := Int.natAbs_tdiv a b
          rw [hm] at h9
          have h10 : a.natAbs / b.natAbs ≤ a.natAbs := Nat.div_le_self _ _
          by_cases hb2 : b.natAbs = 1
          · have : b = 1 ∨ b = -1 := by omega
            rcases this with rfl | rfl
            · exact hz (by rw [Int.tmod_one])
            · exact hz (by rw [Int.tmod_neg, Int.tmod_one])
          · have : a.natAbs / b.natAbs ≤ a.natAbs / 2 := Nat.div_le_div_left (by omega) (by omega)
            omega
        · omega
      have hss : (Int.tmod a b < 0 ∧ 0 < b) ∨ (0 < Int.tmod a b ∧ b < 0) := by
        by_cases hx : Int.tmod a b < 0 <;> by_cases hy : b < 0 <;> simp [hx, hy] at hs
        · exact .inl ⟨hx, by omega⟩
        · exact .inr ⟨by omega, hy⟩
      simp only [if_true]
      rw [(g2 hz hs).1, (g2 hz hs).2, w64_id hlow (by omega), w64_id (n := Int.tmod a b + b) (by omega) (by omega)]
    | false =>
      simp only [Bool.false_eq_true, if_false]
      rw [(g3 hz hs).1, (g3 hz hs).2]

theorem lunisolar_before_f {name : ByteArray} {ep sn sd mn' md ln ld cy : Int} {lp av : List Int} (ok : OkLp cy lp) (y : Int) (hy : -30000 ≤ y ∧ y ≤ 30000) (k : Nat) (hk : 10 ≤ k) : lunisolar_before.f k name ep sn sd mn' md ln ld cy lp av y = some (mB cy lp y) := by
  have hc := ok.cy; have hll := ok.llen
  obtain ⟨b1, b2, b3, b4, b5⟩ := mB_bound ok hy
  have hd : divs (y - 1) cy = ((y - 1) / cy, (y - 1) % cy, 0) := divs_pos (by omega)
  unfold lunisolar_before.f
  rw [w64_id (n := y - 1) (by omega) (by omega), whole_Div_f k (by omega) (by omega) (by omega) (by omega) (by omega), hd, Option.bind_some]
  simp only
  rw [w64_id (n := (y - 1) % cy + 1) (by omega) (by omega), sort_SearchInts_f ok.up (by omega), Option.bind_some]
  rw [show (((lp.countP fun y_1 => decide (y_1 ≤ (y - 1) % cy) : Nat)) : Int) = cntLe lp ((y - 1) % cy) from rfl]
  rw [w64_id (n := 12 * (y - 1)) (by omega) (by omega), w64_id (n := (y - 1) / cy * _) (by omega) (by omega), w64_id (n := 12 * (y - 1) + _) (by omega) (by omega), w64_id (by omega) (by omega)]
  rfl

theorem lunisolar_avoided_l0 (av : List Int) (x : Int) (hl : av.length ≤ 3) : ∀ (d i k : Nat), i + d = av.length → d < k → lunisolar_avoided.l0 k x av (av.length : Int) (i : Int) = some (decide (x ∈ av.drop i)) := by
  intro d
  induction d with
  | zero =>
    intro i k hi hk
    obtain ⟨k, rfl⟩ : ∃ m, k = m + 1 := ⟨k - 1, by omega⟩
    simp only [lunisolar_avoided.l0]
    rw [if_neg (by omega), List.drop_of_length_le (by omega)]; simp
  | succ d ih =>
    intro i k hi hk
    obtain ⟨k, rfl⟩ : ∃ m, k = m + 1 := ⟨k - 1, by omega⟩
    have hlt : i < av.length := by omega
    have ih := ih (i + 1) k (by omega) (by omega)
    simp only [lunisolar_avoided.l0]
    rw [if_pos (by omega), if_pos (by omega), if_pos (by omega), rd_get av i hlt, List.drop_eq_getElem_cons hlt, w64_id (n := (i : Int) + 1) (by omega) (by omega)]
    by_cases c : av[i] = x
    · rw [if_pos c, decide_eq_true (by rw [c]; exact List.mem_cons_self)]
    · rw [if_neg c, show (i : Int) + 1 = ((i + 1 : Nat) : Int) from by omega, ih]
      congr 1
      refine decide_eq_decide.2 ⟨fun h => List.mem_cons_of_mem _ h, fun h => ?_⟩
      rcases List.mem_cons.1 h with h | h
      · exact absurd h.symm c
      · exact h
theorem lunisolar_avoided_f {name : ByteArray} {ep sn sd mn' md ln ld cy : Int} {lp av : List Int} (x : Int) (hl : av.length ≤ 3) (k : Nat) (hk : 5 ≤ k) : lunisolar_avoided.f k name ep sn sd mn' md ln ld cy lp av x = some (decide (x ∈ av)) := by
  unfold lunisolar_avoided.f
  have := lunisolar_avoided_l0 av x hl av.length 0 k (by omega) (by omega)
  exact this

theorem lunisolar_start_l0 {name : ByteArray} {ep sn sd mn' md ln ld cy : Int} {lp av : List Int} (hl : av.length ≤ 3) : ∀ (j k : Nat) (d : Int), j + 20 < k → -1000000000 ≤ d → d + j ≤ 1000000000 → j ≤ 10 → (d + j - 1) % 7 ∉ av → (∀ i : Nat, i < j → (d + i - 1) % 7 ∈ av) →
    lunisolar_start.l0 k d name ep sn sd mn' md ln ld cy lp av = some (d + j) := by
  intro j
  induction j with
  | zero =>
    intro k d hk h0 h1 hj hn hi
    obtain ⟨k, rfl⟩ : ∃ m, k = m + 1 := ⟨k - 1, by omega⟩
    simp only [lunisolar_start.l0]
    rw [w64_id (n := d - 1) (by omega) (by omega), whole_Mod_f (by omega) (by omega), Option.bind_some, lunisolar_avoided_f _ hl k (by omega), Option.bind_some, if_neg (by simpa using hn)]
    congr 1; omega
  | succ j ih =>
    intro k d hk h0 h1 hj hn hi
    obtain ⟨k, rfl⟩ : ∃ m, k = m + 1 := ⟨k - 1, by omega⟩
    simp only [lunisolar_start.l0]
    rw [w64_id (n := d - 1) (by omega) (by omega), whole_Mod_f (by omega) (by omega), Option.bind_some, lunisolar_avoided_f _ hl k (by omega), Option.bind_some, if_pos (by have := hi 0 (by omega); simpa using this), w64_id (n := d + 1) (by omega) (by omega), ih k (d + 1) (by omega) (by omega) (by omega) (by omega) (by rw [show d + 1 + (j : Int) - 1 = d + ((j + 1 : Nat) : Int) - 1 from by omega]; exact hn) (fun i hij => by rw [show d + 1 + (i : Int) - 1 = d + ((i + 1 : Nat) : Int) - 1 from by omega]; exact hi (i + 1) (by omega))]
    congr 1; omega
theorem lunisolar_start_f {name : ByteArray} {ep sn sd mn' md ln ld cy : Int} {lp av : List Int} (ok : OkMoon ep sn sd mn' md ln ld cy lp av) (y m : Int) (hy : -30000 ≤ y ∧ y ≤ 30000) (hm : -1000 ≤ m ∧ m ≤ 1000) (k : Nat) (hk : 9223372036854775900 ≤ k) :
    lunisolar_start.f k name ep sn sd mn' md ln ld cy lp av y m = some (monD ep sn sd mn' md ln ld cy lp av y m) := by
  have hn := ok.fr.hn; have he := ok.fr.hep; have hs := ok.fr.hsd; have hm' := ok.fr.hmd; have hl := ok.fr.hld; have hsn := ok.fr.hsn; have hln := ok.fr.hln
  obtain ⟨f1, f2, f3, f4, f5, f6⟩ := ok.fr.facts
  have hB := (mB_bound ok.lps hy).2.2.2.2
  obtain ⟨g1, g2⟩ := mDay_bound ok.fr (k := mB cy lp y + m - 1) (by omega)
  unfold lunisolar_start.f
  rw [lunisolar_parts_f name ep sn sd mn' md ln ld cy lp av ok.frac k (by omega), Option.bind_some, lunisolar_before_f ok.lps y hy k (by omega), Option.bind_some, if_neg (by omega), if_neg (by omega), if_neg (by omega)]
  rw [Int.tdiv_eq_ediv_of_nonneg (a := parts3 sd md ld) (by omega), Int.tdiv_eq_ediv_of_nonneg (a := parts3 sd md ld) (by omega), Int.tdiv_eq_ediv_of_nonneg (a := parts3 sd md ld) (by omega)]
  unfold monD mStart
  generalize hN : parts3 sd md ld = n at *
  have hd : ∀ t : Int, divs t n = (t / n, t % n, 0) := fun t => divs_pos (by omega)
  rw [w64_id (n := n / sd) (by omega) (by omega), w64_id (n := n / md) (by omega) (by omega), w64_id (n := n / ld) (by omega) (by omega), w64_id (n := sn * (n / sd)) (by omega) (by omega), w64_id (n := mB cy lp y + m) (by omega) (by omega), w64_id (n := mB cy lp y + m - 1) (by omega) (by omega), w64_id (n := mn' * (n / md)) (by omega) (by omega), w64_id (n := (mB cy lp y + m - 1) * _) (by omega) (by omega), w64_id (n := sn * (n / sd) + _) (by omega) (by omega), w64_id (n := sn * (n / sd) + _ + n) (by omega) (by omega), w64_id (n := ln * (n / ld)) (by omega) (by omega), w64_id (n := sn * (n / sd) + _ + n - _) (by omega) (by omega)]
  rw [whole_Div_f k (by omega) (by omega) (by omega) (by omega) (by omega), hd, Option.bind_some]
  simp only
  have e0 : ep + (sn * (n / sd) + (mB cy lp y + m - 1) * (mn' * (n / md)) + n - ln * (n / ld)) / n = mDay n ep sn sd mn' md ln ld (mB cy lp y + m - 1) := rfl
  rw [e0, w64_id (n := mDay _ _ _ _ _ _ _ _ _) (by omega) (by omega)]
  by_cases c : m = 1
  · rw [if_pos c, if_pos c]
    obtain ⟨j, h1, h2, h3⟩ := skip_ex av ok.av3 (mDay n ep sn sd mn' md ln ld (mB cy lp y + m - 1))
    rw [lunisolar_start_l0 ok.av3 j k _ (by omega) (by omega) (by omega) (by omega) h2 h3, skipD_at av j 7 _ (by omega) h2 h3]
  · rw [if_neg c, if_neg c]

/-- The day on which a month of a valid rule begins. -/
def moonBegD (ep sn sd mn' md ln ld cy : Int) (lp av : List Int) (y m : Int) : Int × Int :=
  if 1 ≤ m ∧ m ≤ mMonths cy lp y then (if -4000000 ≤ monD ep sn sd mn' md ln ld cy lp av y m ∧ monD ep sn sd mn' md ln ld cy lp av y m ≤ 4000000 then (monD ep sn sd mn' md ln ld cy lp av y m, 0) else (0, 3)) else (0, 1)
theorem lunisolar_Begin_f (name : ByteArray) (ep sn sd mn' md ln ld cy : Int) (lp av : List Int) (hl : lp.length ≤ 17592186044416) (y m : Int) (k : Nat) (hk : 9223372036854775901 ≤ k) :
    lunisolar_Begin.f k name ep sn sd mn' md ln ld cy lp av y m = some (if moonErr name ep sn sd mn' md ln ld cy lp av = 0 then (if -10000 ≤ y ∧ y ≤ 10000 then moonBegD ep sn sd mn' md ln ld cy lp av y m else (0, 3)) else (0, moonErr name ep sn sd mn' md ln ld cy lp av)) := by
  obtain ⟨k, rfl⟩ : ∃ m, k = m + 1 := ⟨k - 1, by omega⟩
  unfold lunisolar_Begin.f
  rw [lunisolar_begin_f name ep sn sd mn' md ln ld cy lp av hl y (k + 1) (by omega), Option.bind_some]
  by_cases h : moonErr name ep sn sd mn' md ln ld cy lp av = 0
  rotate_left
  · rw [if_neg h, if_neg h, if_neg h]
  rw [if_pos h, if_pos h]
  by_cases h2 : -10000 ≤ y ∧ y ≤ 10000
  rotate_left
  · rw [if_neg h2, if_neg (by decide), if_neg h2]
  have ok := moonErr_ok h
  have hmm := mMonths_bound cy lp y
  rw [if_pos h2, if_pos rfl, if_pos h2, lunisolar_months_f ok.lps y (by omega), Option.bind_some]
  unfold moonBegD
  by_cases c1 : m < 1
  · rw [if_pos c1, if_neg (fun h => by omega)]; simp only [lunisolar_Begin.j0, if_true]
  rw [if_neg c1]
  by_cases c2 : m > mMonths cy lp y
  · rw [decide_eq_true c2, if_neg (fun h => by omega)]; simp only [lunisolar_Begin.j0, if_true]
  rw [decide_eq_false c2, if_pos (by omega)]
  simp only [lunisolar_Begin.j0, Bool.false_eq_true, if_false]
  rw [lunisolar_start_f ok y m (by omega) (by omega) k (by omega), Option.bind_some, line_Check_f, Option.bind_some]
  by_cases c3 : -4000000 ≤ monD ep sn sd mn' md ln ld cy lp av y m ∧ monD ep sn sd mn' md ln ld cy lp av y m ≤ 4000000
  · rw [if_pos c3, if_pos rfl, if_pos c3]
  · rw [if_neg c3, if_neg (by decide), if_neg c3]

/-- The first days of a number of months of a year; of the months of a number of years; the numbers of months. -/
def monL (D : Int → Int) : Nat → Int → List Int
  | 0, _ => []
  | d + 1, m => D m :: monL D d (m + 1)
def yrL (D : Int → Int → Int) (M : Int → Int) : Nat → Int → List Int
  | 0, _ => []
  | d + 1, y => monL (D y) (M y).toNat 1 ++ yrL D M d (y + 1)
def yrM (M : Int → Int) : Nat → Int → List Int
  | 0, _ => []
  | d + 1, y => M y :: yrM M d (y + 1)
def okDays (l : List Int) : Bool := l.all (fun x => decide (-4000000 ≤ x ∧ x ≤ 4000000))
theorem okDays_cons (x : Int) (l : List Int) : okDays (x :: l) = (decide (-4000000 ≤ x ∧ x ≤ 4000000) && okDays l) := by unfold okDays; rw [List.all_cons]
theorem okDays_app (a b : List Int) : okDays (a ++ b) = (okDays a && okDays b) := by unfold okDays; rw [List.all_append]
theorem monL_len (D : Int → Int) : ∀ (d : Nat) (m : Int), (monL D d m).length = d
  | 0, _ => rfl
  | d + 1, m => by unfold monL; rw [List.length_cons, monL_len D d]
theorem yrM_len (M : Int → Int) : ∀ (d : Nat) (y : Int), (yrM M d y).length = d
  | 0, _ => rfl
  | d + 1, y => by unfold yrM; rw [List.length_cons, yrM_len M d]
theorem yrL_len (D : Int → Int → Int) (M : Int → Int) (h : ∀ y, M y ≤ 13) : ∀ (d : Nat) (y : Int), (yrL D M d y).length ≤ 13 * d
  | 0, _ => Nat.zero_le _
  | d + 1, y => by unfold yrL; rw [List.length_append, monL_len]; have := yrL_len D M h d (y + 1); have := h y; omega
theorem moonBegD_in {ep sn sd mn' md ln ld cy : Int} {lp av : List Int} {y m : Int} (h : 1 ≤ m ∧ m ≤ mMonths cy lp y) : moonBegD ep sn sd mn' md ln ld cy lp av y m =
    (if -4000000 ≤ monD ep sn sd mn' md ln ld cy lp av y m ∧ monD ep sn sd mn' md ln ld cy lp av y m ≤ 4000000 then (monD ep sn sd mn' md ln ld cy lp av y m, 0) else (0, 3)) := by unfold moonBegD; rw [if_pos h]
theorem observed_Of_l1 {name : ByteArray} {ep sn sd mn' md ln ld cy : Int} {lp av : List Int} (h0 : moonErr name ep sn sd mn' md ln ld cy lp av = 0) (hl : lp.length ≤ 17592186044416) (x1 x2 y : Int) (hy : -10000 ≤ y ∧ y ≤ 10000) (nm : ByteArray) (fi : Int) (ms : List Int) :
    ∀ (d k : Nat) (m : Int) (ss : List Int), m + d = mMonths cy lp y + 1 → 1 ≤ m → 9223372036854775901 ≤ k → ss.length + d ≤ 100000 →
    observed_Of.l1 (k + d + 1) x1 x2 y (mMonths cy lp y) m name ep sn sd mn' md ln ld cy lp av nm fi ms ss = if okDays (monL (monD ep sn sd mn' md ln ld cy lp av y) d m) = true then observed_Of.l0 k x1 x2 (y + 1) name ep sn sd mn' md ln ld cy lp av nm fi ms (ss ++ monL (monD ep sn sd mn' md ln ld cy lp av y) d m) else some ((⟨#[]⟩ : ByteArray), 0, ([] : List Int), ([] : List Int), 3) := by
  have hmm := mMonths_bound cy lp y
  intro d
  induction d with
  | zero =>
    intro k m ss hm h1 hk hs
    simp only [observed_Of.l1]
    rw [if_neg (by omega), w64_id (by omega) (by omega)]
    simp [monL, okDays]
  | succ d ih =>
    intro k m ss hm h1 hk hs
    rw [show k + (d + 1) + 1 = (k + d + 1) + 1 from by omega]
    conv => lhs; unfold observed_Of.l1
    rw [if_pos (by omega), lunisolar_Begin_f name ep sn sd mn' md ln ld cy lp av hl y m _ (by omega), if_pos h0, if_pos hy, Option.bind_some, w64_id (n := m + 1) (by omega) (by omega)]
    rw [moonBegD_in (by omega)]
    unfold monL
    rw [okDays_cons]
    by_cases c : -4000000 ≤ monD ep sn sd mn' md ln ld cy lp av y m ∧ monD ep sn sd mn' md ln ld cy lp av y m ≤ 4000000
    · rw [if_pos c, if_pos rfl, if_pos (by omega), decide_eq_true c, Bool.true_and, ih k (m + 1) _ (by omega) (by omega) hk (by rw [List.length_append, List.length_singleton]; omega), List.append_assoc]
      rfl
    · rw [if_neg c, if_neg (by decide), decide_eq_false c, Bool.false_and, if_neg (by decide)]
theorem observed_Of_l0 {name : ByteArray} {ep sn sd mn' md ln ld cy : Int} {lp av : List Int} (h0 : moonErr name ep sn sd mn' md ln ld cy lp av = 0) (hl : lp.length ≤ 17592186044416) (x1 x2 : Int) (hx : -10000 ≤ x1 ∧ x1 ≤ 9960) (hx2 : 1 ≤ x2 ∧ x2 ≤ 40) (nm : ByteArray) (fi : Int) :
    ∀ (d k : Nat) (y : Int) (ms ss : List Int), y + d = x1 + x2 → x1 ≤ y → 9223372036854775901 + 20 * d + 5 ≤ k → ms.length + d ≤ 1000 → ss.length + 13 * d + 1 ≤ 50000 →
    observed_Of.l0 k x1 x2 y name ep sn sd mn' md ln ld cy lp av nm fi ms ss = some (if okDays (yrL (monD ep sn sd mn' md ln ld cy lp av) (mMonths cy lp) d y ++ [monD ep sn sd mn' md ln ld cy lp av (x1 + x2) 1]) = true
      then (nm, fi, ms ++ yrM (mMonths cy lp) d y, ss ++ (yrL (monD ep sn sd mn' md ln ld cy lp av) (mMonths cy lp) d y ++ [monD ep sn sd mn' md ln ld cy lp av (x1 + x2) 1]), 0) else ((⟨#[]⟩ : ByteArray), 0, ([] : List Int), ([] : List Int), 3)) := by
  intro d
  induction d with
  | zero =>
    intro k y ms ss hy h1 hk hm hs
    obtain ⟨k, rfl⟩ : ∃ q, k = q + 1 := ⟨k - 1, by omega⟩
    have hmm := mMonths_bound cy lp (x1 + x2)
    simp only [observed_Of.l0]
    rw [w64_id (by omega) (by omega), if_neg (by omega), lunisolar_Begin_f name ep sn sd mn' md ln ld cy lp av hl (x1 + x2) 1 k (by omega), if_pos h0, if_pos (by omega), Option.bind_some]
    rw [moonBegD_in (by omega)]
    unfold yrL yrM
    rw [List.nil_append, List.append_nil, okDays_cons]
    by_cases c : -4000000 ≤ monD ep sn sd mn' md ln ld cy lp av (x1 + x2) 1 ∧ monD ep sn sd mn' md ln ld cy lp av (x1 + x2) 1 ≤ 4000000
    · rw [if_pos c, if_pos rfl, if_pos (by omega), decide_eq_true c, Bool.true_and]; rfl
    · rw [if_neg c, if_neg (by decide), decide_eq_false c, Bool.false_and, if_neg (by decide)]
  | succ d ih =>
    intro k y ms ss hy h1 hk hm hs
    have hmm := mMonths_bound cy lp y
    obtain ⟨k, rfl⟩ : ∃ q, k = (q + (mMonths cy lp y).toNat + 1) + 1 := ⟨k - 2 - (mMonths cy lp y).toNat, by omega⟩
    conv => lhs; unfold observed_Of.l0
    rw [w64_id (by omega) (by omega), if_pos (by omega), lunisolar_Months_f name ep sn sd mn' md ln ld cy lp av hl y _ (by omega), if_pos h0, if_pos (by omega), Option.bind_some, if_pos (by omega)]
    simp only
    rw [observed_Of_l1 h0 hl x1 x2 y (by omega) nm fi _ (mMonths cy lp y).toNat k 1 ss (by omega) (by omega) (by omega) (by omega)]
    unfold yrL yrM
    rw [List.append_assoc, okDays_app]
    by_cases c : okDays (monL (monD ep sn sd mn' md ln ld cy lp av y) (mMonths cy lp y).toNat 1) = true
    · rw [if_pos c, c, Bool.true_and, ih k (y + 1) _ _ (by omega) (by omega) (by omega) (by rw [List.length_append, List.length_singleton]; omega) (by rw [List.length_append, monL_len]; omega)]
      simp only [List.append_assoc, List.singleton_append]
    · rw [if_neg c, Bool.eq_false_iff.2 c, Bool.false_and, if_neg (by decide)]
/-- What Of tells. -/
def ofR (name : ByteArray) (ep sn sd mn' md ln ld cy : Int) (lp av : List Int) (x1 x2 : Int) : ByteArray × Int × List Int × List Int × Int :=
  if moonErr name ep sn sd mn' md ln ld cy lp av = 0 then (if 1 ≤ x2 ∧ x2 ≤ 40 then (if -10000 ≤ x1 ∧ x1 ≤ 9960 then
    (if okDays (yrL (monD ep sn sd mn' md ln ld cy lp av) (mMonths cy lp) x2.toNat x1 ++ [monD ep sn sd mn' md ln ld cy lp av (x1 + x2) 1]) = true
      then (name, x1, yrM (mMonths cy lp) x2.toNat x1, yrL (monD ep sn sd mn' md ln ld cy lp av) (mMonths cy lp) x2.toNat x1 ++ [monD ep sn sd mn' md ln ld cy lp av (x1 + x2) 1], 0) else ((⟨#[]⟩ : ByteArray), 0, ([] : List Int), ([] : List Int), 3))
    else ((⟨#[]⟩ : ByteArray), 0, ([] : List Int), ([] : List Int), 3)) else ((⟨#[]⟩ : ByteArray), 0, ([] : List Int), ([] : List Int), 1)) else ((⟨#[]⟩ : ByteArray), 0, ([] : List Int), ([] : List Int), moonErr name ep sn sd mn' md ln ld cy lp av)
theorem observed_Of_f (name : ByteArray) (ep sn sd mn' md ln ld cy : Int) (lp av : List Int) (hl : lp.length ≤ 17592186044416) (x1 x2 : Int) (k : Nat) (hk : 9223372036854778000 ≤ k) :
    observed_Of.f k name ep sn sd mn' md ln ld cy lp av x1 x2 = some (ofR name ep sn sd mn' md ln ld cy lp av x1 x2) := by
  unfold observed_Of.f ofR
  rw [lunisolar_Check_f name ep sn sd mn' md ln ld cy lp av hl k (by omega), Option.bind_some]
  by_cases h0 : moonErr name ep sn sd mn' md ln ld cy lp av = 0
  rotate_left
  · rw [if_neg h0, if_neg h0]
  rw [if_pos h0, if_pos h0]
  obtain ⟨k, rfl⟩ : ∃ m, k = m + 2 := ⟨k - 2, by omega⟩
  have hj : (if x2 < 1 then (observed_Of.j0 (k + 2) x1 x2 true name ep sn sd mn' md ln ld cy lp av) else (observed_Of.j0 (k + 2) x1 x2 (decide (x2 > 40)) name ep sn sd mn' md ln ld cy lp av)) = observed_Of.j0 (k + 2) x1 x2 (!decide (1 ≤ x2 ∧ x2 ≤ 40)) name ep sn sd mn' md ln ld cy lp av := by
    by_cases c : x2 < 1
    · rw [if_pos c, decide_eq_false (p := 1 ≤ x2 ∧ x2 ≤ 40) (by omega)]; rfl
    · rw [if_neg c]
      by_cases c2 : x2 ≤ 40
      · rw [decide_eq_true (p := 1 ≤ x2 ∧ x2 ≤ 40) (by omega), decide_eq_false (by omega)]; rfl
      · rw [decide_eq_false (p := 1 ≤ x2 ∧ x2 ≤ 40) (by omega), decide_eq_true (by omega)]; rfl
  rw [hj, show k + 2 = (k + 1) + 1 from rfl]
  simp only [observed_Of.j0]
  by_cases h2 : 1 ≤ x2 ∧ x2 ≤ 40
  rotate_left
  · rw [decide_eq_false h2, if_neg h2]; rfl
  rw [decide_eq_true h2, if_neg (by decide), if_pos h2]
  have hj1 : (if x1 < (-10000) then (observed_Of.j1 (k + 1) x1 x2 true name ep sn sd mn' md ln ld cy lp av) else (observed_Of.j1 (k + 1) x1 x2 (decide (x1 > 9960)) name ep sn sd mn' md ln ld cy lp av)) = observed_Of.j1 (k + 1) x1 x2 (!decide (-10000 ≤ x1 ∧ x1 ≤ 9960)) name ep sn sd mn' md ln ld cy lp av := by
    by_cases c : x1 < -10000
    · rw [if_pos c, decide_eq_false (p := -10000 ≤ x1 ∧ x1 ≤ 9960) (by omega)]; rfl
    · rw [if_neg c]
      by_cases c2 : x1 ≤ 9960
      · rw [decide_eq_true (p := -10000 ≤ x1 ∧ x1 ≤ 9960) (by omega), decide_eq_false (by omega)]; rfl
      · rw [decide_eq_false (p := -10000 ≤ x1 ∧ x1 ≤ 9960) (by omega), decide_eq_true (by omega)]; rfl
  rw [hj1]
  simp only [observed_Of.j1]
  by_cases h3 : -10000 ≤ x1 ∧ x1 ≤ 9960
  rotate_left
  · rw [decide_eq_false h3, if_neg h3]; rfl
  rw [decide_eq_true h3, if_neg (by decide), if_pos h3, observed_Of_l0 h0 hl x1 x2 h3 h2 name x1 x2.toNat k x1 [] [] (by omega) (Int.le_refl _) (by omega) (by simp only [List.length_nil]; omega) (by simp only [List.length_nil]; omega), List.nil_append, List.nil_append]

theorem ephemerislaw1_plainMoon_f : ephemerislaw1_plainMoon.f = some ((⟨#[112, 108, 97, 105, 110]⟩ : ByteArray), 1, 0, 1, 59, 2, 1, 1, 1, ([] : List Int), ([] : List Int)) := rfl

theorem ephemerisref1_Day_f (x : Int) : ephemerisref1_Day.f x = some (decide (-4000000 ≤ x ∧ x ≤ 4000000)) := by
  unfold ephemerisref1_Day.f
  rw [ephemerisref1_In_f]; rfl

theorem ephemerisref1_Name_l0 (s : ByteArray) (hs : s.size ≤ 12) : ∀ (d i k : Nat), i + d = s.size → d < k →
    ephemerisref1_Name.l0 k s (s.size : Int) (i : Int) = some (noWord s && letters (s.data.toList.drop i)) := by
  intro d
  induction d with
  | zero =>
    intro i k hi hk
    obtain ⟨k, rfl⟩ : ∃ m, k = m + 1 := ⟨k - 1, by omega⟩
    obtain rfl : i = s.size := by omega
    simp only [ephemerisref1_Name.l0]
    rw [if_neg (by omega), letters_end, Bool.and_true]
    unfold noWord
    by_cases c1 : s.toList = [121]
    · rw [if_pos c1]; simp [c1]
    rw [if_neg c1, bne_iff_ne.2 c1]
    by_cases c2 : s.toList = [97, 110, 100]
    · rw [if_pos c2]; simp [c2]
    rw [if_neg c2, bne_iff_ne.2 c2]
    by_cases c3 : s.toList = [111, 114]
    · rw [if_pos c3]; simp [c3]
    rw [if_neg c3, bne_iff_ne.2 c3]
    rfl
  | succ d ih =>
    intro i k hi hk
    obtain ⟨k, rfl⟩ : ∃ m, k = m + 1 := ⟨k - 1, by omega⟩
    simp only [ephemerisref1_Name.l0]
    rw [if_pos (by omega), if_pos (by omega), if_pos (by omega), letters_cons s i (by omega)]
    by_cases c1 : bt s i < 97
    · rw [if_pos c1, decide_eq_false (show ¬ 97 ≤ bt s i by omega)]; simp
    rw [if_neg c1, decide_eq_true (show 97 ≤ bt s i by omega)]
    by_cases c2 : bt s i > 122
    · rw [if_pos c2, decide_eq_false (show ¬ bt s i ≤ 122 by omega)]; simp
    rw [if_neg c2, decide_eq_true (show bt s i ≤ 122 by omega), w64_id (by omega) (by omega)]
    have := ih (i + 1) k (by omega) (by omega)
    rw [show ((i + 1 : Nat) : Int) = (i : Int) + 1 from by omega] at this
    rw [this]; simp
theorem ephemerisref1_Name_f (s : ByteArray) (k : Nat) (hk : 20 ≤ k) : ephemerisref1_Name.f k s = some (isName s) := by
  obtain ⟨k, rfl⟩ : ∃ m, k = m + 1 := ⟨k - 1, by omega⟩
  unfold ephemerisref1_Name.f isName
  by_cases h1 : s.toList = []
  · rw [if_pos h1, decide_eq_false (show ¬ 1 ≤ s.size by have := (toList_nil s).1 h1; omega)]
    simp [ephemerisref1_Name.j0]
  have h1' : ¬ s.size = 0 := fun h => h1 ((toList_nil s).2 h)
  rw [if_neg h1, decide_eq_true (show 1 ≤ s.size by omega)]
  simp only [ephemerisref1_Name.j0, decide_eq_true_eq]
  by_cases h2 : (s.size : Int) > 12
  · rw [if_pos h2, decide_eq_false (show ¬ s.size ≤ 12 by omega)]; rfl
  rw [if_neg h2, decide_eq_true (show s.size ≤ 12 by omega)]
  exact ephemerisref1_Name_l0 s (by omega) s.size 0 k (by omega) (by omega)

theorem ephemerisref1_Num_f (x : Int) : ephemerisref1_Num.f x = some (decide (-2147483647 ≤ x ∧ x ≤ 2147483647)) := by
  unfold ephemerisref1_Num.f
  rw [ephemerisref1_In_f]; rfl

theorem ephemerisref1_Size_f {a : Int} (h0 : -9223372036854775808 ≤ a) (h1 : a ≤ 9223372036854775807) : ephemerisref1_Size.f a = some (ab a) := by
  unfold ephemerisref1_Size.f ab
  by_cases c : a < 0
  · rw [if_pos c, if_pos c, w64_id (n := a + 1) (by omega) (by omega), w64_id (n := -(a + 1)) (by omega) (by omega), u64_id (n := -(a + 1)) (by omega) (by omega), u64_id (by omega) (by omega)]
    congr 1; omega
  · rw [if_neg c, if_neg c, u64_id (by omega) (by omega)]

theorem shl_gcd (g t : Nat) (h : g * 2 ^ t < 18446744073709551616) (ht : t ≤ 64) : shl .u64 (g : Int) (t : Int) = ((g * 2 ^ t : Nat) : Int) := by
  unfold shl
  rw [show ((t : Int).toNat) = t from by omega, Nat.min_eq_left (by simp [IntKind.bits]; omega)]
  rw [show (g : Int) * 2 ^ t = ((g * 2 ^ t : Nat) : Int) from by simp]
  exact u64_id (by omega) (by omega)
theorem gcd_half {x y : Nat} (hx : x % 2 = 0) (hy : y % 2 = 1) : Nat.gcd (x / 2) y = Nat.gcd x y := by
  have hc : Nat.Coprime 2 y := by
    unfold Nat.Coprime
    rw [Nat.gcd_rec, hy]; rfl
  have := Nat.Coprime.gcd_mul_left_cancel (k := 2) (n := y) (x / 2) hc
  rw [show 2 * (x / 2) = x from by omega] at this
  exact this.symm
theorem ephemerisref1_Gcd_l1 : ∀ (n k x y t : Nat), x + y ≤ n → n < k → 0 < x → 0 < y → x < 18446744073709551616 → y < 18446744073709551616 → (x % 2 = 1 ∨ y % 2 = 1) →
    ephemerisref1_Gcd.l1 k (x : Int) (y : Int) (t : Int) = some (shl .u64 (Nat.gcd x y : Int) (t : Int)) := by
  intro n
  induction n with
  | zero => intro k x y t h; omega
  | succ n ih =>
    intro k x y t h hk hx hy hx1 hy1 ho
    obtain ⟨k, rfl⟩ : ∃ m, k = m + 1 := ⟨k - 1, by omega⟩
    simp only [ephemerisref1_Gcd.l1]
    by_cases c : x = y
    · subst c
      rw [if_pos rfl, if_pos (by omega), Nat.gcd_self]
    rw [if_neg (by omega), and_one _ (by omega) (by omega), and_one _ (by omega) (by omega)]
    by_cases c1 : x % 2 = 0
    · rw [if_pos (by omega), show (x : Int) / 2 = ((x / 2 : Nat) : Int) from by omega, ih k (x / 2) y t (by omega) (by omega) (by omega) hy (by omega) hy1 (by omega), gcd_half c1 (by omega)]
    rw [if_neg (by omega)]
    by_cases c2 : y % 2 = 0
    · rw [if_pos (by omega), show (y : Int) / 2 = ((y / 2 : Nat) : Int) from by omega, ih k x (y / 2) t (by omega) (by omega) hx (by omega) hx1 (by omega) (by omega), Nat.gcd_comm x, gcd_half c2 (by omega), Nat.gcd_comm y]
    rw [if_neg (by omega)]
    by_cases c3 : x > y
    · rw [if_pos (by omega), u64_id (by omega) (by omega), show (x : Int) - y = ((x - y : Nat) : Int) from by omega, ih k (x - y) y t (by omega) (by omega) (by omega) hy (by omega) hy1 (by omega)]
      have := Nat.gcd_add_self_left (m := y) (n := x - y)
      rw [show x - y + y = x from by omega] at this
      rw [this]
    · rw [if_neg (by omega), u64_id (by omega) (by omega), show (y : Int) - x = ((y - x : Nat) : Int) from by omega, ih k x (y - x) t (by omega) (by omega) hx (by omega) hx1 (by omega) (by omega)]
      have := Nat.gcd_add_self_left (m := x) (n := y - x)
      rw [show y - x + x = y from by omega] at this
      rw [Nat.gcd_comm x, ← this, Nat.gcd_comm y]
theorem ephemerisref1_Gcd_l0 : ∀ (n k x y t : Nat), x + y ≤ n → n + 36893488147419103240 < k → 0 < x → 0 < y → x < 18446744073709551616 → y < 18446744073709551616 → t ≤ 64 → Nat.gcd x y * 2 ^ t < 18446744073709551616 →
    ephemerisref1_Gcd.l0 k (x : Int) (y : Int) (t : Int) = some ((Nat.gcd x y * 2 ^ t : Nat) : Int) := by
  intro n
  induction n with
  | zero => intro k x y t h; omega
  | succ n ih =>
    intro k x y t h hk hx hy hx1 hy1 ht hg
    obtain ⟨k, rfl⟩ : ∃ m, k = m + 1 := ⟨k - 1, by omega⟩
    simp only [ephemerisref1_Gcd.l0]
    rw [and_one _ (by omega) (by omega), and_one _ (by omega) (by omega)]
    have last : (x % 2 = 1 ∨ y % 2 = 1) → ephemerisref1_Gcd.j2 k (x : Int) (y : Int) (t : Int) = some ((Nat.gcd x y * 2 ^ t : Nat) : Int) := fun ho => by
      obtain ⟨k, rfl⟩ : ∃ m, k = m + 1 := ⟨k - 1, by omega⟩
      simp only [ephemerisref1_Gcd.j2]
      rw [ephemerisref1_Gcd_l1 36893488147419103232 k x y t (by omega) (by omega) hx hy hx1 hy1 ho, shl_gcd _ _ hg ht]
    by_cases c1 : x % 2 = 0
    · rw [if_pos (by omega)]
      by_cases c2 : y % 2 = 0
      · have e : Nat.gcd x y = 2 * Nat.gcd (x / 2) (y / 2) := by
          rw [← Nat.gcd_mul_left, show 2 * (x / 2) = x from by omega, show 2 * (y / 2) = y from by omega]
        have e2 : Nat.gcd x y * 2 ^ t = Nat.gcd (x / 2) (y / 2) * 2 ^ (t + 1) := by
          rw [e, Nat.pow_succ, Nat.mul_comm 2, Nat.mul_assoc, Nat.mul_comm 2]
        have hp : 0 < Nat.gcd (x / 2) (y / 2) := Nat.gcd_pos_of_pos_left _ (by omega)
        have ht1 : t + 1 ≤ 64 := by
          rcases Nat.lt_or_ge (t + 1) 65 with h | h
          · omega
          · exfalso
            have h1 : 2 ^ 65 ≤ 2 ^ (t + 1) := Nat.pow_le_pow_right (by decide) h
            have h2 : 1 * 2 ^ (t + 1) ≤ Nat.gcd (x / 2) (y / 2) * 2 ^ (t + 1) := Nat.mul_le_mul_right _ hp
            have h3 : (2 : Nat) ^ 65 = 36893488147419103232 := by decide
            omega
        rw [if_pos (by omega), w64_id (by omega) (by omega), show (x : Int) / 2 = ((x / 2 : Nat) : Int) from by omega, show (y : Int) / 2 = ((y / 2 : Nat) : Int) from by omega, show (t : Int) + 1 = ((t + 1 : Nat) : Int) from by omega]
        rw [ih k (x / 2) (y / 2) (t + 1) (by omega) (by omega) (by omega) (by omega) (by omega) (by omega) ht1 (by omega), e2]
      · rw [if_neg (by omega)]; exact last (by omega)
    · rw [if_neg (by omega)]; exact last (by omega)
theorem gcdr_ab (a b : Int) : Nat.gcd (ab a).toNat (ab b).toNat = Int.gcd a b := by
  have h : ∀ c : Int, (ab c).toNat = c.natAbs := fun c => by unfold ab; split <;> omega
  rw [h, h]; rfl
theorem ephemerisref1_Gcd_f {a b : Int} (k : Nat) (hk : 100000000000000000000 ≤ k) (ha : -9223372036854775808 ≤ a) (ha1 : a ≤ 9223372036854775807) (hb : -9223372036854775808 ≤ b) (hb1 : b ≤ 9223372036854775807) :
    ephemerisref1_Gcd.f k a b = some (Int.gcd a b : Int) := by
  obtain ⟨k, rfl⟩ : ∃ m, k = m + 1 := ⟨k - 1, by omega⟩
  unfold ephemerisref1_Gcd.f
  rw [ephemerisref1_Size_f ha ha1, ephemerisref1_Size_f hb hb1]
  simp only [Option.bind_some]
  have e1 := ab_nonneg a
  have e2 := ab_nonneg b
  have e3 := ab_le ha ha1
  have e4 := ab_le hb hb1
  have hg := gcdr_ab a b
  by_cases c : ab a = 0
  · rw [if_pos c]
    simp only [ephemerisref1_Gcd.j0, if_true]
    rw [u64_id (by omega) (by omega)]
    rw [c] at hg
    simp only [Int.toNat_zero, Nat.gcd_zero_left] at hg
    congr 1; omega
  rw [if_neg c]
  simp only [ephemerisref1_Gcd.j0, beq_iff_eq]
  by_cases c2 : ab b = 0
  · rw [if_pos c2, u64_id (by omega) (by omega)]
    rw [c2] at hg
    simp only [Int.toNat_zero, Nat.gcd_zero_right] at hg
    congr 1; omega
  rw [if_neg c2]
  have hle := Nat.gcd_le_left (ab b).toNat (show 0 < (ab a).toNat by omega)
  have := ephemerisref1_Gcd_l0 36893488147419103232 k (ab a).toNat (ab b).toNat 0 (by omega) (by omega) (by omega) (by omega) (by omega) (by omega) (by omega) (by omega)
  rw [hg, Int.toNat_of_nonneg e1, Int.toNat_of_nonneg e2, Nat.pow_zero, Nat.mul_one] at this
  exact this

theorem ephemerisref1_FracOK_f {n d : Int} (k : Nat) (hk : 100000000000000000000 ≤ k) : ephemerisref1_FracOK.f k n d = some (fracOK n d) := by
  unfold ephemerisref1_FracOK.f fracOK
  rw [ephemerisref1_In_f, ephemerisref1_Num_f, Option.bind_some, Option.bind_some]
  simp only [decide_eq_true_eq]
  by_cases c : 1 ≤ d ∧ d ≤ 2147483647
  · rw [if_pos c]
    by_cases c2 : -2147483647 ≤ n ∧ n ≤ 2147483647
    · rw [if_pos c2, ephemerisref1_Gcd_f k hk (by omega) (by omega) (by omega) (by omega), Option.bind_some]
      congr 1
      by_cases c3 : Int.gcd n d = 1
      · rw [c3, decide_eq_true ⟨c, c2, rfl⟩]; rfl
      · rw [decide_eq_false (fun h => c3 h.2.2)]
        exact beq_eq_false_iff_ne.2 (by omega)
    · rw [if_neg c2, decide_eq_false (fun h => c2 h.2.1)]
  · rw [if_neg c, decide_eq_false (fun h => c h.1)]

theorem ephemerisref1_Div_l0 (X Y : Int) (hX : 0 ≤ X) (hX1 : X < 18446744073709551616) (hY : 0 < Y) (hY1 : Y ≤ 9223372036854775808) :
    ∀ (n k : Nat), n ≤ 64 → n < k → ephemerisref1_Div.l0 k X Y (X / 2 ^ n / Y * 2 ^ n) (X / 2 ^ n % Y) ((n : Int) - 1) = some (X / Y, X % Y) := by
  intro n
  induction n with
  | zero =>
    intro k _ hk
    obtain ⟨k, rfl⟩ : ∃ m, k = m + 1 := ⟨k - 1, by omega⟩
    simp only [ephemerisref1_Div.l0]
    rw [if_neg (by omega)]
    simp
  | succ n ih =>
    intro k hn hk
    obtain ⟨k, rfl⟩ : ∃ m, k = m + 1 := ⟨k - 1, by omega⟩
    have ih := ih k (by omega) (by omega)
    have hhp := half_pow X n
    have hpow : (2 : Int) ^ (n + 1) = 2 * 2 ^ n := by rw [Int.pow_succ, Int.mul_comm]
    have hpp := pow_pos' n
    have hp63 := pow_le_63 n (by omega)
    have hd1 := div_pow_le X Y (n + 1) hX hY
    have hd0 := div_pow_le X Y n hX hY
    have hz : 0 ≤ X / 2 ^ n := Int.ediv_nonneg hX (by omega)
    obtain ⟨s1, s2⟩ := long_step (X / 2 ^ n) Y hz hY
    rw [← hhp] at s1 s2
    have r0 := Int.emod_nonneg (X / 2 ^ (n + 1)) (b := Y) (by omega)
    have r1 := Int.emod_lt_of_pos (X / 2 ^ (n + 1)) hY
    have hshr : shr .u64 X ((n : Int) + 1 - 1) = X / 2 ^ n := by
      rw [show (n : Int) + 1 - 1 = n from by omega]; exact shr_pow X n (by omega)
    have hshl : shl .u64 1 ((n : Int) + 1 - 1) = 2 ^ n := by
      rw [show (n : Int) + 1 - 1 = n from by omega]; exact shl_one n (by omega)
    have hzx : X / 2 ^ n ≤ X := Int.ediv_le_self _ hX
    have hmod : (X / 2 ^ (n + 1) / Y * 2 ^ (n + 1)) % 2 ^ (n + 1) = 0 := Int.mul_emod_left _ _
    have hor : Go.bits .or .u64 (X / 2 ^ (n + 1) / Y * 2 ^ (n + 1)) (2 ^ n) = X / 2 ^ (n + 1) / Y * 2 ^ (n + 1) + 2 ^ n :=
      or_join (n + 1) _ _ hd1.1 (by omega) hmod (by omega) (by omega) (by omega)
    have q2 : X / 2 ^ (n + 1) / Y * 2 ^ (n + 1) = 2 * (X / 2 ^ (n + 1) / Y) * 2 ^ n := by
      rw [hpow, Int.mul_comm 2 (X / (2 * 2 ^ n) / Y), Int.mul_assoc]
    generalize hR : X / 2 ^ (n + 1) % Y = R at *
    generalize hQ : X / 2 ^ (n + 1) / Y * 2 ^ (n + 1) = Q at *
    simp only [ephemerisref1_Div.l0]
    rw [show (((n + 1 : Nat) : Int) - 1) = (n : Int) + 1 - 1 from by omega]
    rw [if_pos (by omega), hshr, hshl, hor, w64_id (n := (n : Int) + 1 - 1 - 1) (by omega) (by omega), show (n : Int) + 1 - 1 - 1 = (n : Int) - 1 from by omega]
    rw [and_one _ hz (by omega), u64_id (n := R * 2) (by omega) (by omega)]
    have hbit := Int.emod_nonneg (X / 2 ^ n) (b := 2) (by omega)
    have hbit1 := Int.emod_lt_of_pos (X / 2 ^ n) (b := 2) (by omega)
    rw [or_join 1 (R * 2) _ (by omega) (by omega) (by simp only [Int.reducePow]; omega) hbit (by simp only [Int.reducePow]; omega) (by omega)]
    rw [if_neg (by omega)]
    rw [show R * 2 + X / 2 ^ n % 2 = 2 * R + X / 2 ^ n % 2 from by omega]
    by_cases c : Y ≤ 2 * R + X / 2 ^ n % 2
    · rw [if_pos c, u64_id (by omega) (by omega)]
      have e := s1 c
      rw [e.1, e.2, Int.add_mul, Int.one_mul, ← q2] at ih
      exact ih
    · rw [if_neg c]
      have e := s2 c
      rw [e.1, e.2, ← q2] at ih
      exact ih
theorem ephemerisref1_Div_f {a b : Int} (k : Nat) (hk : 65 ≤ k) (ha : -9223372036854775808 ≤ a) (ha1 : a ≤ 9223372036854775807) (hb : -9223372036854775808 ≤ b) (hb1 : b ≤ 9223372036854775807) : ephemerisref1_Div.f k a b = some (divs a b) := by
  unfold ephemerisref1_Div.f
  by_cases c : b = 0
  · rw [if_pos c]; unfold divs; rw [if_pos c]
  rw [if_neg c, ephemerisref1_Size_f ha ha1, ephemerisref1_Size_f hb hb1]
  simp only [Option.bind_some]
  have hX := ab_nonneg a
  have hX1 := ab_le ha ha1
  have hY1 := ab_le hb hb1
  have hY : 0 < ab b := by unfold ab; split <;> omega
  have h64 := ephemerisref1_Div_l0 (ab a) (ab b) hX (by omega) hY hY1 64 k (by omega) (by omega)
  have hz : ab a / 2 ^ 64 = 0 := Int.ediv_eq_zero_of_lt hX (by simp only [Int.reducePow]; omega)
  rw [hz] at h64
  simp only [Int.zero_ediv, Int.zero_mul, Int.zero_emod] at h64
  rw [show (((64 : Nat) : Int) - 1) = 63 from by omega] at h64
  rw [h64]
  simp only [Option.bind_some, Option.some.injEq]
  have h1 := Int.mul_ediv_add_emod (ab a) (ab b)
  have h2 := Int.emod_nonneg (ab a) (b := ab b) (by omega)
  have h3 := Int.emod_lt_of_pos (ab a) hY
  have h4 : ab a / ab b ≤ ab a := Int.ediv_le_self _ hX
  have h5 : 0 ≤ ab a / ab b := Int.ediv_nonneg hX (by omega)
  have h6 : 2 ≤ ab b → ab a / ab b ≤ 4611686018427387904 := fun h => by
    have : ab a / ab b ≤ ab a / 2 := by
      have := Int.ediv_le_ediv (c := 2) (by omega) (a := ab a / ab b * 2) (b := ab a) (by
        have : ab a / ab b * 2 ≤ ab a / ab b * ab b := Int.mul_le_mul_of_nonneg_left h h5
        rw [Int.mul_comm (ab b)] at h1
        omega)
      omega
    omega
  have h7 : ab b = 1 → ab a / ab b = ab a ∧ ab a % ab b = 0 := fun h => by rw [h]; omega
  have uniq : ∀ {q r : Int}, a = b * q + r → (0 < b → 0 ≤ r ∧ r < b) → (b < 0 → b < r ∧ r ≤ 0) → ¬ (a = -9223372036854775808 ∧ b = -1) → divs a b = (q, r, 0) := by
    intro q r e1 e2 e3 e4
    have := fd_uniq e1 e2 e3 c
    unfold divs
    rw [if_neg c, if_neg e4, this.1, this.2]
  generalize hq : ab a / ab b = q at *
  generalize hr : ab a % ab b = r at *
  clear h64 hz
  have eY : ∀ s : Int, (-(ab b)) * s = -(ab b * s) := fun s => by rw [Int.neg_mul]
  by_cases sa : a < 0 <;> by_cases sb : b < 0
  · have xa : a = -(ab a) := by unfold ab; rw [if_pos sa]; omega
    have xb : b = -(ab b) := by unfold ab; rw [if_pos sb]; omega
    simp only [ephemerisref1_Div.e0, ephemerisref1_Div.e1, sa, sb, decide_true, bne_self_eq_false, Bool.false_eq_true, false_and, if_false, true_and, if_true]
    by_cases c2 : q > 9223372036854775807
    · rw [if_pos c2]
      unfold divs
      have : ab b = 1 := by
        by_cases h : 2 ≤ ab b
        · have := h6 h; omega
        · omega
      rw [if_neg c, if_pos (by omega)]
    · rw [if_neg c2, w64_id (by omega) (by omega), u64_def, w64_def]
      rw [uniq (q := q) (r := -r) (by rw [xb, eY]; omega) (by omega) (by omega) (fun h => by have := h7 (by omega); omega)]
      congr 2; omega
  · have xa : a = -(ab a) := by unfold ab; rw [if_pos sa]; omega
    have xb : b = ab b := by unfold ab; rw [if_neg sb]
    simp only [ephemerisref1_Div.e0, ephemerisref1_Div.e1, sa, sb, decide_true, decide_false, Bool.bne_false, Bool.false_eq_true, true_and, if_true, Bool.true_eq_false, false_and, if_false]
    by_cases c2 : r = 0
    · rw [if_neg (fun h => h c2), u64_def, w64_def, w64_id (by omega) (by omega)]
      rw [uniq (q := -q) (r := 0) (by rw [xb, Int.mul_neg]; omega) (by omega) (by omega) (by omega)]
      rw [c2]
      congr 1; omega
    · rw [if_pos c2, u64_id (n := q + 1) (by omega) (by omega), u64_id (n := ab b - r) (by omega) (by omega), u64_def, w64_def, w64_id (by omega) (by omega)]
      have : q ≤ 9223372036854775807 := by
        by_cases h : 2 ≤ ab b
        · have := h6 h; omega
        · have := h7 (by omega); omega
      have eb : b * q = ab b * q := by rw [← xb]
      rw [uniq (q := -(q + 1)) (r := ab b - r) (by rw [Int.mul_neg, Int.mul_add, Int.mul_one, eb]; omega) (by omega) (by omega) (by omega)]
      congr 1; omega
  · have xa : a = ab a := by unfold ab; rw [if_neg sa]
    have xb : b = -(ab b) := by unfold ab; rw [if_pos sb]; omega
    simp only [ephemerisref1_Div.e0, ephemerisref1_Div.e1, sa, sb, decide_true, decide_false, Bool.bne_true, Bool.not_false, Bool.false_eq_true, true_and, if_true, Bool.true_eq_false, false_and, if_false]
    by_cases c2 : r = 0
    · rw [if_neg (fun h => h c2), u64_def, w64_def, u64_def, w64_def]
      rw [uniq (q := -q) (r := 0) (by rw [xb, eY, Int.mul_neg]; omega) (by omega) (by omega) (by omega)]
      rw [c2]
      congr 1
      omega
    · rw [if_pos c2, u64_id (n := q + 1) (by omega) (by omega), u64_id (n := ab b - r) (by omega) (by omega), u64_def, w64_def, u64_def, w64_def]
      have eb := eY q
      rw [← xb] at eb
      rw [uniq (q := -(q + 1)) (r := -(ab b - r)) (by rw [Int.mul_neg, Int.mul_add, Int.mul_one, eb]; omega) (by omega) (by omega) (by omega)]
      congr 1
      · omega
      · congr 1; omega
  · have xa : a = ab a := by unfold ab; rw [if_neg sa]
    have xb : b = ab b := by unfold ab; rw [if_neg sb]
    simp only [ephemerisref1_Div.e0, ephemerisref1_Div.e1, sa, sb, decide_false, bne_self_eq_false, Bool.false_eq_true, false_and, if_false, true_and]
    rw [if_neg (by omega), w64_id (by omega) (by omega), w64_id (by omega) (by omega)]
    rw [uniq (q := q) (r := r) (by rw [xb]; omega) (by omega) (by omega) (by omega)]

theorem ephemerisref1_Floor_f {a b : Int} (k : Nat) (hk : 65 ≤ k) (ha : -9223372036854775808 ≤ a) (ha1 : a ≤ 9223372036854775807) (hb : 0 < b) (hb1 : b ≤ 9223372036854775807) : ephemerisref1_Floor.f k a b = some (a / b) := by
  unfold ephemerisref1_Floor.f
  rw [ephemerisref1_Div_f k hk ha ha1 (by omega) hb1, divs_pos hb]
  rfl

theorem ephemerisref1_Parts_f (name : ByteArray) (ep sn sd mn' md ln ld cy : Int) (lp av : List Int) (h : moonFrac sn sd mn' md ln ld) (k : Nat) (hk : 100000000000000000010 ≤ k) : ephemerisref1_Parts.f k name ep sn sd mn' md ln ld cy lp av = some (parts3 sd md ld) := by
  obtain ⟨k, rfl⟩ : ∃ m, k = m + 3 := ⟨k - 3, by omega⟩
  obtain ⟨⟨h1, h2⟩, h3⟩ := h
  have b1 := okNum h1; have b2 := okNum h2; have b3 := okNum h3
  have w1 : wrap64 (0 + 1) = 1 := w64_id (by decide) (by decide)
  have w2 : wrap64 (1 + 1) = 2 := w64_id (by decide) (by decide)
  have r0 : rd [md, ld] 0 = md := rfl
  have r1 : rd [md, ld] 1 = ld := rfl
  have len : (([md, ld] : List Int).length : Int) = 2 := rfl
  have one : ∀ (n d : Int) (k : Nat), 100000000000000000000 ≤ k → 1 ≤ n → n ≤ 1000000 → 1 ≤ d → d ≤ 1000000 → ephemerisref1_Gcd.f k n d = some (Int.gcd n d : Int) ∧ wrap64 (Int.gcd n d : Int) = (Int.gcd n d : Int) ∧ wrap64 (wrap64 (Int.tdiv n (Int.gcd n d : Int)) * d) = lcmD n d ∧ ¬ (Int.gcd n d : Int) = 0 := by
    intro n d k hk n1 n2 d1 d2
    obtain ⟨g1, g2, g3, g4, g5, g6, g7⟩ := lcmD_facts n1 d1
    have hm := mul_lt (n := 1000000) (m := 1000000) (show 0 ≤ n by omega) n2 (show 0 ≤ d by omega) d2
    refine ⟨ephemerisref1_Gcd_f k hk (by omega) (by omega) (by omega) (by omega), w64_id (by omega) (by omega), ?_, by omega⟩
    rw [Int.tdiv_eq_ediv_of_nonneg (by omega), w64_id (n := n / _) (by omega) (by omega)]
    unfold lcmD at *; exact w64_id (by omega) (by omega)
  unfold ephemerisref1_Parts.f
  rw [Option.bind_some, len]
  simp only [ephemerisref1_Parts.l0, r0, r1, len, w1, w2, if_pos (show (0 : Int) < 2 by decide), if_pos (show (1 : Int) < 2 by decide), if_neg (show ¬ (2 : Int) < 2 by decide), if_pos (show (0 : Int) ≤ 0 by decide), if_pos (show (0 : Int) ≤ 1 by decide)]
  unfold parts3
  by_cases c1 : sd ≤ 1000000
  rotate_left
  · rw [if_pos (by omega), if_neg c1]
  rw [if_neg (by omega), if_pos c1]
  obtain ⟨g1, g2, g3, g4, g5, g6, g7⟩ := lcmD_facts (n := sd) (d := md) (by omega) (by omega)
  by_cases c2 : md ≤ 1000000
  rotate_left
  · rw [if_pos (by omega), if_neg (by omega)]
  rw [if_neg (by omega)]
  obtain ⟨e1, e2, e3, e4⟩ := one sd md (k + 2) (by omega) (by omega) (by omega) (by omega) (by omega)
  rw [e1, Option.bind_some, e2, if_neg e4, e3]
  by_cases c3 : lcmD sd md ≤ 1000000
  rotate_left
  · rw [if_pos (by omega), if_neg c3]
  rw [if_neg (by omega), if_pos c3]
  obtain ⟨g1, g2, g3, g4, g5, g6', g7⟩ := lcmD_facts (n := lcmD sd md) (d := ld) (by omega) (by omega)
  by_cases c4 : ld ≤ 1000000
  rotate_left
  · rw [if_pos (by omega), if_neg (by omega)]
  rw [if_neg (by omega)]
  obtain ⟨e1, e2, e3, e4⟩ := one (lcmD sd md) ld (k + 1) (by omega) (by omega) (by omega) (by omega) (by omega)
  rw [e1, Option.bind_some, e2, if_neg e4, e3]
  by_cases c5 : lcmD (lcmD sd md) ld ≤ 1000000
  · rw [if_neg (by omega), if_pos c5]
  · rw [if_pos (by omega), if_neg c5]

theorem MoonError_l1 (name : ByteArray) (ep sn sd mn' md ln ld cy : Int) (lp av : List Int) (hl : av.length ≤ 3) : ∀ (d i k : Nat), i + d = av.length → d < k →
    ephemerisref1_MoonError.l1 k av (av.length : Int) (i : Int) name ep sn sd mn' md ln ld cy lp av = some (riseFrom 0 6 (prevN av i) (av.drop i)) := by
  intro d
  induction d with
  | zero =>
    intro i k hi' hk
    obtain ⟨k, rfl⟩ : ∃ m, k = m + 1 := ⟨k - 1, by omega⟩
    simp only [ephemerisref1_MoonError.l1]
    rw [if_neg (by omega), List.drop_of_length_le (by omega)]; rfl
  | succ d ih =>
    intro i k hi' hk
    obtain ⟨k, rfl⟩ : ∃ m, k = m + 1 := ⟨k - 1, by omega⟩
    have hlt : i < av.length := by omega
    have ih := ih (i + 1) k (by omega) (by omega)
    rw [prevN_succ av i hlt, show ((i + 1 : Nat) : Int) = (i : Int) + 1 from by omega] at ih
    simp only [ephemerisref1_MoonError.l1]
    rw [List.drop_eq_getElem_cons hlt, rd_get av i hlt, w64_id (n := (i : Int) + 1) (by omega) (by omega), w64_id (n := (i : Int) - 1) (by omega) (by omega), ih]
    simp only [riseFrom, tooLow_prev, ephemerisref1_In_f, Option.bind_some]
    clear ih
    grind
theorem MoonError_l0 (name : ByteArray) (ep sn sd mn' md ln ld cy : Int) (lp av : List Int) (hl : lp.length ≤ 17592186044416) : ∀ (d i k : Nat), i + d = lp.length → d + 10 < k →
    ephemerisref1_MoonError.l0 k lp (lp.length : Int) (i : Int) name ep sn sd mn' md ln ld cy lp av = some (if riseFrom 1 cy (prevN lp i) (lp.drop i) = 0 then (if av.length ≤ 3 then riseFrom 0 6 none av else 2) else riseFrom 1 cy (prevN lp i) (lp.drop i)) := by
  intro d
  induction d with
  | zero =>
    intro i k hi' hk
    obtain ⟨k, rfl⟩ : ∃ m, k = m + 1 := ⟨k - 1, by omega⟩
    conv => lhs; unfold ephemerisref1_MoonError.l0
    rw [if_neg (by omega), List.drop_of_length_le (by omega)]
    simp only [riseFrom, if_true]
    by_cases c : av.length ≤ 3
    · rw [if_neg (by omega), if_pos c]
      exact MoonError_l1 name ep sn sd mn' md ln ld cy lp av c av.length 0 k (by omega) (by omega)
    · rw [if_pos (by omega), if_neg c]
  | succ d ih =>
    intro i k hi' hk
    obtain ⟨k, rfl⟩ : ∃ m, k = m + 1 := ⟨k - 1, by omega⟩
    have hlt : i < lp.length := by omega
    have ih := ih (i + 1) k (by omega) (by omega)
    rw [prevN_succ lp i hlt, show ((i + 1 : Nat) : Int) = (i : Int) + 1 from by omega] at ih
    conv => lhs; unfold ephemerisref1_MoonError.l0
    rw [List.drop_eq_getElem_cons hlt, rd_get lp i hlt, w64_id (n := (i : Int) + 1) (by omega) (by omega), w64_id (n := (i : Int) - 1) (by omega) (by omega), ih]
    simp only [riseFrom, tooLow_prev, ephemerisref1_In_f, Option.bind_some]
    clear ih
    generalize (if av.length ≤ 3 then riseFrom 0 6 none av else 2) = z
    grind
theorem ephemerisref1_MoonError_f (name : ByteArray) (ep sn sd mn' md ln ld cy : Int) (lp av : List Int) (hl : lp.length ≤ 17592186044416) (hn : -9223372036854775808 ≤ mn' ∧ mn' ≤ 9223372036854775807) (hs : name.size ≤ 140737488351232) (k : Nat) (hk : 100000000000000000030 ≤ k) :
    ephemerisref1_MoonError.f k name ep sn sd mn' md ln ld cy lp av = some (moonErr name ep sn sd mn' md ln ld cy lp av) := by
  obtain ⟨k, rfl⟩ : ∃ m, k = m + 2 := ⟨k - 2, by omega⟩
  unfold ephemerisref1_MoonError.f moonErr
  rw [ephemerisref1_Name_f name _ (by omega), Option.bind_some, ephemerisref1_Day_f, Option.bind_some]
  by_cases c1 : isName name = true
  rotate_left
  · rw [if_neg c1, if_neg c1]
  rw [if_pos c1, if_pos c1]
  by_cases c2 : -4000000 ≤ ep ∧ ep ≤ 4000000
  rotate_left
  · rw [if_neg c2, if_neg (by simpa using c2)]
  rw [if_pos (decide_eq_true c2), if_pos c2]
  rw [ephemerisref1_FracOK_f _ (by omega), ephemerisref1_FracOK_f _ (by omega), ephemerisref1_FracOK_f _ (by omega)]
  simp only [Option.bind_some]
  have j0t : ephemerisref1_MoonError.j0 (k + 2) true name ep sn sd mn' md ln ld cy lp av = some 8 := by simp only [ephemerisref1_MoonError.j0, if_true]
  by_cases f1 : fracOK sn sd = true
  rotate_left
  · rw [if_neg f1, if_neg (fun h => f1 h.1.1), j0t]
  by_cases f2 : fracOK mn' md = true
  rotate_left
  · rw [if_pos f1, if_neg f2, if_neg (fun h => f2 h.1.2), j0t]
  by_cases f3 : fracOK ln ld = true
  rotate_left
  · rw [if_pos f1, if_pos f2, if_neg (fun h => f3 h.2), show (!fracOK ln ld) = true by simpa using f3, j0t]
  have hf : moonFrac sn sd mn' md ln ld := ⟨⟨f1, f2⟩, f3⟩
  rw [if_pos f1, if_pos f2, if_pos hf, f3]
  have b1 := okNum f1; have b2 := okNum f2; have b3 := okNum f3
  have hr : moonRange sn sd mn' md ln ld ↔ ((0 ≤ sn ∧ sn < sd) ∧ (29 * md ≤ mn' ∧ mn' ≤ 30 * md)) ∧ (1 ≤ ln ∧ ln ≤ ld) := Iff.rfl
  have hj : ∀ b : Bool, b = decide (¬ moonRange sn sd mn' md ln ld) → ephemerisref1_MoonError.j1 (k + 1) b name ep sn sd mn' md ln ld cy lp av = some (if moonRange sn sd mn' md ln ld then (if parts3 sd md ld = 0 then 14 else if 1 ≤ cy ∧ cy ≤ 100 then
    (if riseFrom 1 cy none lp = 0 then (if av.length ≤ 3 then riseFrom 0 6 none av else 2) else riseFrom 1 cy none lp) else 3) else 3) := by
    rintro b rfl
    by_cases c : moonRange sn sd mn' md ln ld
    · rw [dec_not_false c, if_pos c]
      conv => lhs; unfold ephemerisref1_MoonError.j1
      simp only [Bool.false_eq_true, if_false]
      rw [ephemerisref1_Parts_f name ep sn sd mn' md ln ld cy lp av hf k (by omega), Option.bind_some, ephemerisref1_In_f, Option.bind_some]
      by_cases c3 : parts3 sd md ld = 0
      · rw [if_pos c3, if_pos c3]
      · rw [if_neg c3, if_neg c3]
        by_cases c4 : 1 ≤ cy ∧ cy ≤ 100
        · rw [if_pos (decide_eq_true c4), if_pos c4]
          exact MoonError_l0 name ep sn sd mn' md ln ld cy lp av hl lp.length 0 k (by omega) (by omega)
        · rw [if_neg (by simpa using c4), if_neg c4]
    · rw [dec_not_true c, if_neg c]
      simp only [ephemerisref1_MoonError.j1, if_true]
  simp only [ephemerisref1_MoonError.j0, Bool.not_true, Bool.false_eq_true, if_false]
  rw [ephemerisref1_Floor_f (k + 1) (by omega) (by omega) (by omega) (by omega) (by omega), ephemerisref1_Floor_f (k + 1) (by omega) (by omega) (by omega) (by omega) (by omega), w64_id (n := mn' - 1) (by omega) (by omega), ephemerisref1_Floor_f (k + 1) (by omega) (by omega) (by omega) (by omega) (by omega)]
  simp only [Option.bind_some]
  have q1 : sn / sd > 0 ↔ sd ≤ sn := by
    have := Int.le_ediv_iff_mul_le (a := 1) (b := sn) (c := sd) (by omega)
    omega
  have q2 : mn' / md < 29 ↔ mn' < 29 * md := Int.ediv_lt_iff_lt_mul (by omega)
  have q3 : (mn' - 1) / md > 29 ↔ 30 * md < mn' := by
    have := Int.le_ediv_iff_mul_le (a := 30) (b := mn' - 1) (c := md) (by omega)
    omega
  by_cases d1 : sn < 0
  · rw [if_pos d1]; exact hj _ (dec_not_true (fun h => by rw [hr] at h; omega)).symm
  rw [if_neg d1]
  by_cases d2 : sn / sd > 0
  · rw [if_pos d2]; exact hj _ (dec_not_true (fun h => by rw [hr] at h; omega)).symm
  rw [if_neg d2]
  by_cases d3 : mn' / md < 29
  · rw [if_pos d3]; exact hj _ (dec_not_true (fun h => by rw [hr] at h; omega)).symm
  rw [if_neg d3]
  by_cases d4 : (mn' - 1) / md > 29
  · rw [if_pos d4]; exact hj _ (dec_not_true (fun h => by rw [hr] at h; omega)).symm
  rw [if_neg d4]
  by_cases d5 : ln ≤ 0
  · rw [if_pos d5]; exact hj _ (dec_not_true (fun h => by rw [hr] at h; omega)).symm
  rw [if_neg d5]
  rw [q1] at d2; rw [q2] at d3; rw [q3] at d4
  exact hj _ (decide_eq_decide.2 (by rw [hr]; omega))

theorem MoonMonths_l0 {name : ByteArray} {ep sn sd mn' md ln ld cy : Int} {lp av : List Int} (ok : OkLp cy lp) (y : Int) (hy : -30000 ≤ y ∧ y ≤ 30000) : ∀ (d i k : Nat), i + d = lp.length → d < k →
    ephemerisref1_MoonMonths.l0 k y lp (lp.length : Int) (i : Int) name ep sn sd mn' md ln ld cy lp av = some (if ∃ z ∈ lp.drop i, (y - z) % cy = 0 then 13 else 12) := by
  have hc := ok.cy; have hll := ok.llen
  intro d
  induction d with
  | zero =>
    intro i k hi hk
    obtain ⟨k, rfl⟩ : ∃ m, k = m + 1 := ⟨k - 1, by omega⟩
    simp only [ephemerisref1_MoonMonths.l0]
    rw [if_neg (by omega), List.drop_of_length_le (by omega), if_neg (fun ⟨z, hz, _⟩ => by simp at hz)]
  | succ d ih =>
    intro i k hi hk
    obtain ⟨k, rfl⟩ : ∃ m, k = m + 1 := ⟨k - 1, by omega⟩
    have hlt : i < lp.length := by omega
    have z1 := ok.lo lp[i] (List.getElem_mem hlt)
    have z2 := ok.hi lp[i] (List.getElem_mem hlt)
    have ih := ih (i + 1) k (by omega) (by omega)
    simp only [ephemerisref1_MoonMonths.l0]
    rw [if_pos (by omega), if_pos (by omega), if_pos (by omega), rd_get lp i hlt, if_neg (by omega), w64_id (n := y - lp[i]) (by omega) (by omega), w64_id (n := (i : Int) + 1) (by omega) (by omega), List.drop_eq_getElem_cons hlt]
    have ht := tmod_zero_iff (y - lp[i]) (g := cy) (by omega)
    by_cases c : (y - lp[i]) % cy = 0
    · rw [if_pos (ht.2 c), if_pos ⟨lp[i], List.mem_cons_self, c⟩]
    · rw [if_neg (fun h => c (ht.1 h)), show (i : Int) + 1 = ((i + 1 : Nat) : Int) from by omega, ih]
      by_cases c2 : ∃ z ∈ lp.drop (i + 1), (y - z) % cy = 0
      · obtain ⟨z, hz, h0⟩ := c2
        rw [if_pos ⟨z, hz, h0⟩, if_pos ⟨z, List.mem_cons_of_mem _ hz, h0⟩]
      · rw [if_neg c2, if_neg]
        rintro ⟨z, hz, h0⟩
        rcases List.mem_cons.1 hz with rfl | hz
        · exact c h0
        · exact c2 ⟨z, hz, h0⟩
theorem ephemerisref1_MoonMonths_f {name : ByteArray} {ep sn sd mn' md ln ld cy : Int} {lp av : List Int} (ok : OkLp cy lp) (y : Int) (hy : -30000 ≤ y ∧ y ≤ 30000) (k : Nat) (hk : 110 ≤ k) :
    ephemerisref1_MoonMonths.f k name ep sn sd mn' md ln ld cy lp av y = some (mMonths cy lp y) := by
  have hll := ok.llen; have hc := ok.cy
  have h := MoonMonths_l0 (name := name) (ep := ep) (sn := sn) (sd := sd) (mn' := mn') (md := md) (ln := ln) (ld := ld) (av := av) ok y hy lp.length 0 k (by omega) (by omega)
  have hd := leap_dvd ok y
  unfold ephemerisref1_MoonMonths.f mMonths
  rw [show (0 : Int) = ((0 : Nat) : Int) from rfl, h, List.drop_zero]
  by_cases c : isLeapM cy lp y = true
  · rw [if_pos c, if_pos (hd.1 c)]
  · rw [if_neg c, if_neg (fun h => c (hd.2 h))]

theorem ephemerisref1_Mod_f {a b : Int} (k : Nat) (hk : 65 ≤ k) (ha : -9223372036854775808 ≤ a) (ha1 : a ≤ 9223372036854775807) (hb : 0 < b) (hb1 : b ≤ 9223372036854775807) : ephemerisref1_Mod.f k a b = some (a % b) := by
  unfold ephemerisref1_Mod.f
  rw [ephemerisref1_Div_f k hk ha ha1 (by omega) hb1, divs_pos hb]
  rfl

theorem ephemerisref1_Week_f {x : Int} (k : Nat) (hk : 65 ≤ k) (h0 : -4000000000000 ≤ x) (h1 : x ≤ 4000000000000) : ephemerisref1_Week.f k x = some ((x + 6) % 7) := by
  unfold ephemerisref1_Week.f
  rw [w64_id (by omega) (by omega), ephemerisref1_Mod_f k hk (by omega) (by omega) (by omega) (by omega)]
  rfl

theorem MoonBegin_l3 {name : ByteArray} {ep sn sd mn' md ln ld cy : Int} {lp av : List Int} (hl : av.length ≤ 3) (day i : Int) (hd : -1000000000 ≤ day ∧ day ≤ 1000000000) (hi7 : 0 ≤ i ∧ i < 7) : ∀ (d j k : Nat) (b : Bool), j + d = av.length → d + 100 < k →
    ephemerisref1_MoonBegin.l3 k day i b av (av.length : Int) (j : Int) name ep sn sd mn' md ln ld cy lp av = (if b = true ∨ (day - 1) % 7 ∈ av.drop j then ephemerisref1_MoonBegin.l2 (k - d - 1) (day + 1) (i + 1) name ep sn sd mn' md ln ld cy lp av else some day) := by
  intro d
  induction d with
  | zero =>
    intro j k b hj hk
    obtain ⟨k, rfl⟩ : ∃ m, k = m + 1 := ⟨k - 1, by omega⟩
    conv => lhs; unfold ephemerisref1_MoonBegin.l3
    rw [if_neg (by omega), List.drop_of_length_le (by omega), w64_id (n := day + 1) (by omega) (by omega), w64_id (n := i + 1) (by omega) (by omega)]
    cases b <;> simp
  | succ d ih =>
    intro j k b hj hk
    obtain ⟨k, rfl⟩ : ∃ m, k = m + 1 := ⟨k - 1, by omega⟩
    have hlt : j < av.length := by omega
    conv => lhs; unfold ephemerisref1_MoonBegin.l3
    rw [if_pos (by omega), if_pos (by omega), if_pos (by omega), rd_get av j hlt, w64_id (n := (j : Int) + 1) (by omega) (by omega), List.drop_eq_getElem_cons hlt, show k + 1 - (d + 1) - 1 = k - d - 1 from by omega]
    have e1 : ∀ b', ephemerisref1_MoonBegin.l3 k day i b' av (av.length : Int) ((j : Int) + 1) name ep sn sd mn' md ln ld cy lp av = (if b' = true ∨ (day - 1) % 7 ∈ av.drop (j + 1) then ephemerisref1_MoonBegin.l2 (k - d - 1) (day + 1) (i + 1) name ep sn sd mn' md ln ld cy lp av else some day) := by
      intro b'
      have := ih (j + 1) k b' (by omega) (by omega)
      rw [show ((j + 1 : Nat) : Int) = (j : Int) + 1 from by omega] at this
      exact this
    cases b with
    | true => rw [if_pos rfl, e1, if_pos (.inl rfl), if_pos (.inl rfl)]
    | false =>
      rw [if_neg (by decide), ephemerisref1_Week_f k (by omega) (by omega) (by omega), Option.bind_some, e1]
      have hw : (day + 6) % 7 = (day - 1) % 7 := by omega
      rw [hw, beq_dec]
      by_cases c : av[j] = (day - 1) % 7
      · rw [if_pos (.inl (decide_eq_true c)), if_pos (.inr (by rw [c]; exact List.mem_cons_self))]
      · by_cases c2 : (day - 1) % 7 ∈ av.drop (j + 1)
        · rw [if_pos (.inr c2), if_pos (.inr (List.mem_cons_of_mem _ c2))]
        · rw [if_neg, if_neg]
          · rintro (h | h)
            · cases h
            · rcases List.mem_cons.1 h with h | h
              · exact c h.symm
              · exact c2 h
          · rintro (h | h)
            · exact c (of_decide_eq_true h)
            · exact c2 h
theorem MoonBegin_l2 {name : ByteArray} {ep sn sd mn' md ln ld cy : Int} {lp av : List Int} (hl : av.length ≤ 3) : ∀ (j k : Nat) (d i : Int), 10 * j + 200 < k → -1000000000 ≤ d → d + j ≤ 1000000000 → 0 ≤ i → i + j < 7 → (d + j - 1) % 7 ∉ av → (∀ x : Nat, x < j → (d + x - 1) % 7 ∈ av) →
    ephemerisref1_MoonBegin.l2 k d i name ep sn sd mn' md ln ld cy lp av = some (d + j) := by
  intro j
  induction j with
  | zero =>
    intro k d i hk h0 h1 hi hj hn hx
    obtain ⟨k, rfl⟩ : ∃ m, k = m + 1 := ⟨k - 1, by omega⟩
    conv => lhs; unfold ephemerisref1_MoonBegin.l2
    have := MoonBegin_l3 (name := name) (ep := ep) (sn := sn) (sd := sd) (mn' := mn') (md := md) (ln := ln) (ld := ld) (cy := cy) (lp := lp) hl d i (by omega) (by omega) av.length 0 k false (by omega) (by omega)
    rw [if_pos (by omega), show (0 : Int) = ((0 : Nat) : Int) from rfl, this, List.drop_zero, if_neg]
    · congr 1; omega
    · rintro (h | h)
      · cases h
      · exact hn (by simpa using h)
  | succ j ih =>
    intro k d i hk h0 h1 hi hj hn hx
    obtain ⟨k, rfl⟩ : ∃ m, k = m + 1 := ⟨k - 1, by omega⟩
    conv => lhs; unfold ephemerisref1_MoonBegin.l2
    have := MoonBegin_l3 (name := name) (ep := ep) (sn := sn) (sd := sd) (mn' := mn') (md := md) (ln := ln) (ld := ld) (cy := cy) (lp := lp) hl d i (by omega) (by omega) av.length 0 k false (by omega) (by omega)
    rw [if_pos (by omega), show (0 : Int) = ((0 : Nat) : Int) from rfl, this, List.drop_zero, if_pos (.inr (by have := hx 0 (by omega); simpa using this)), ih _ (d + 1) (i + 1) (by omega) (by omega) (by omega) (by omega) (by omega) (by rw [show d + 1 + (j : Int) - 1 = d + ((j + 1 : Nat) : Int) - 1 from by omega]; exact hn) (fun x hij => by rw [show d + 1 + (x : Int) - 1 = d + ((x + 1 : Nat) : Int) - 1 from by omega]; exact hx (x + 1) (by omega))]
    congr 1; omega
/-- Behind the loops over the years. -/
theorem MoonBegin_end {name : ByteArray} {ep sn sd mn' md ln ld cy : Int} {lp av : List Int} (ok : OkMoon ep sn sd mn' md ln ld cy lp av) (y m : Int) (hy : -30000 ≤ y ∧ y ≤ 30000) (hm : 1 ≤ m ∧ m ≤ 1000) (k : Nat) (hk : 100000000000000000100 ≤ k) (x9 : Int) (hx : x9 < y) :
    ephemerisref1_MoonBegin.l1 (k + 3) y m (mB cy lp y + m - 1) x9 name ep sn sd mn' md ln ld cy lp av = some (monD ep sn sd mn' md ln ld cy lp av y m) := by
  have hn := ok.fr.hn; have he := ok.fr.hep; have hs := ok.fr.hsd; have hm' := ok.fr.hmd; have hl := ok.fr.hld; have hsn := ok.fr.hsn; have hln := ok.fr.hln
  obtain ⟨f1, f2, f3, f4, f5, f6⟩ := ok.fr.facts
  have hB := (mB_bound ok.lps hy).2.2.2.2
  obtain ⟨g1, g2⟩ := mDay_bound ok.fr (k := mB cy lp y + m - 1) (by omega)
  conv => lhs; unfold ephemerisref1_MoonBegin.l1
  rw [if_neg (by omega), ephemerisref1_Parts_f name ep sn sd mn' md ln ld cy lp av ok.frac _ (by omega), Option.bind_some, if_neg (by omega), if_neg (by omega)]
  simp only [if_neg (show ¬ ld = 0 by omega)]
  rw [Int.tdiv_eq_ediv_of_nonneg (a := parts3 sd md ld) (by omega), Int.tdiv_eq_ediv_of_nonneg (a := parts3 sd md ld) (by omega), Int.tdiv_eq_ediv_of_nonneg (a := parts3 sd md ld) (by omega)]
  unfold monD mStart
  generalize hN : parts3 sd md ld = n at *
  rw [w64_id (n := n / sd) (by omega) (by omega), w64_id (n := n / md) (by omega) (by omega), w64_id (n := n / ld) (by omega) (by omega), Int.mul_comm (n / sd) sn, Int.mul_comm (n / md) mn', Int.mul_comm (n / ld) ln, w64_id (n := sn * (n / sd)) (by omega) (by omega), w64_id (n := mn' * (n / md)) (by omega) (by omega), w64_id (n := (mB cy lp y + m - 1) * _) (by omega) (by omega), w64_id (n := sn * (n / sd) + _) (by omega) (by omega), w64_id (n := ln * (n / ld)) (by omega) (by omega)]
  rw [ephemerisref1_Floor_f _ (by omega) (by omega) (by omega) (by omega) (by omega), Option.bind_some]
  have hdm := Int.mul_ediv_add_emod (sn * (n / sd) + (mB cy lp y + m - 1) * (mn' * (n / md))) n
  have hr0 := Int.emod_nonneg (sn * (n / sd) + (mB cy lp y + m - 1) * (mn' * (n / md))) (b := n) (by omega)
  have hr1 := Int.emod_lt_of_pos (sn * (n / sd) + (mB cy lp y + m - 1) * (mn' * (n / md))) (b := n) (by omega)
  have hq1 : mDay n ep sn sd mn' md ln ld (mB cy lp y + m - 1) = ep + (sn * (n / sd) + (mB cy lp y + m - 1) * (mn' * (n / md)) + n - ln * (n / ld)) / n := rfl
  generalize (sn * (n / sd) + (mB cy lp y + m - 1) * (mn' * (n / md))) / n = q at *
  generalize (sn * (n / sd) + (mB cy lp y + m - 1) * (mn' * (n / md))) % n = r at *
  have hday : ∀ z : Int, z = (if r ≥ ln * (n / ld) then q + 1 else q) → z + ep = mDay n ep sn sd mn' md ln ld (mB cy lp y + m - 1) := by
    rintro z rfl
    rw [hq1]
    by_cases c : r ≥ ln * (n / ld)
    · have := (ed_uniq (a := sn * (n / sd) + (mB cy lp y + m - 1) * (mn' * (n / md)) + n - ln * (n / ld)) (b := n) (q := q + 1) (r := r - ln * (n / ld)) (by omega) (by rw [Int.mul_add]; omega) (by omega) (by omega)).1
      rw [if_pos c, this]; omega
    · have := (ed_uniq (a := sn * (n / sd) + (mB cy lp y + m - 1) * (mn' * (n / md)) + n - ln * (n / ld)) (b := n) (q := q) (r := r + n - ln * (n / ld)) (by omega) (by omega) (by omega) (by omega)).1
      rw [if_neg c, this]; omega
  have hqb : -140000000 ≤ q ∧ q ≤ 140000000 := by
    have := hday _ rfl
    split at this <;> omega
  have hnq : q * n = n * q := Int.mul_comm ..
  rw [w64_id (n := q * n) (by omega) (by omega), w64_id (n := _ - q * n) (by omega) (by omega), w64_id (n := q + 1) (by omega) (by omega), show sn * (n / sd) + (mB cy lp y + m - 1) * (mn' * (n / md)) - q * n = r from by omega]
  have j2 : ∀ z : Int, z = (if r ≥ ln * (n / ld) then q + 1 else q) → ephemerisref1_MoonBegin.j2 (k + 2) m z name ep sn sd mn' md ln ld cy lp av = some (if m = 1 then skipD av 7 (mDay n ep sn sd mn' md ln ld (mB cy lp y + m - 1)) else mDay n ep sn sd mn' md ln ld (mB cy lp y + m - 1)) := by
    intro z hz
    have hd := hday z hz
    simp only [ephemerisref1_MoonBegin.j2]
    rw [hd, w64_id (n := mDay _ _ _ _ _ _ _ _ _) (by omega) (by omega)]
    by_cases c : m = 1
    · rw [if_neg (by omega), if_pos c]
      obtain ⟨j, h1, h2, h3⟩ := skip_ex av ok.av3 (mDay n ep sn sd mn' md ln ld (mB cy lp y + m - 1))
      rw [MoonBegin_l2 ok.av3 j (k + 1) _ 0 (by omega) (by omega) (by omega) (by omega) (by omega) h2 h3, skipD_at av j 7 _ (by omega) h2 h3]
    · rw [if_pos (by omega), if_neg c]
  by_cases c : r ≥ ln * (n / ld)
  · rw [if_pos c]; exact j2 _ (by rw [if_pos c])
  · rw [if_neg c]; exact j2 _ (by rw [if_neg c])
theorem MoonBegin_l1 {name : ByteArray} {ep sn sd mn' md ln ld cy : Int} {lp av : List Int} (ok : OkMoon ep sn sd mn' md ln ld cy lp av) (y m : Int) (hy : -30000 ≤ y ∧ y ≤ 30000) (hm : 1 ≤ m ∧ m ≤ 1000) : ∀ (d k : Nat) (x : Int), x + 1 = y + d → x ≤ 30000 → 100000000000000001000 + d ≤ k →
    ephemerisref1_MoonBegin.l1 k y m (mB cy lp (x + 1) + m - 1) x name ep sn sd mn' md ln ld cy lp av = some (monD ep sn sd mn' md ln ld cy lp av y m) := by
  intro d
  induction d with
  | zero =>
    intro k x hx h30 hk
    obtain ⟨k, rfl⟩ : ∃ m, k = m + 3 := ⟨k - 3, by omega⟩
    rw [show x + 1 = y from by omega]
    exact MoonBegin_end ok y m hy hm k (by omega) x (by omega)
  | succ d ih =>
    intro k x hx h30 hk
    obtain ⟨k, rfl⟩ : ∃ m, k = m + 1 := ⟨k - 1, by omega⟩
    have hs := mB_succ ok.lps x
    have hb := (mB_bound ok.lps (y := x) (by omega)).2.2.2.2
    have hmm := mMonths_bound cy lp x
    conv => lhs; unfold ephemerisref1_MoonBegin.l1
    rw [if_pos (by omega), ephemerisref1_MoonMonths_f ok.lps x (by omega) k (by omega), Option.bind_some, w64_id (n := _ - mMonths cy lp x) (by omega) (by omega), w64_id (n := x - 1) (by omega) (by omega), show mB cy lp (x + 1) + m - 1 - mMonths cy lp x = mB cy lp (x - 1 + 1) + m - 1 from by rw [show x - 1 + 1 = x from by omega]; omega]
    exact ih k (x - 1) (by omega) (by omega) (by omega)
theorem MoonBegin_l0 {name : ByteArray} {ep sn sd mn' md ln ld cy : Int} {lp av : List Int} (ok : OkMoon ep sn sd mn' md ln ld cy lp av) (y m : Int) (hy : 1 ≤ y ∧ y ≤ 30000) (hm : 1 ≤ m ∧ m ≤ 1000) : ∀ (d k : Nat) (x : Int), x + d = y → 1 ≤ x → 100000000000000001010 + d ≤ k →
    ephemerisref1_MoonBegin.l0 k y m (mB cy lp x + m - 1) x name ep sn sd mn' md ln ld cy lp av = some (monD ep sn sd mn' md ln ld cy lp av y m) := by
  intro d
  induction d with
  | zero =>
    intro k x hx h1 hk
    obtain ⟨k, rfl⟩ : ∃ m, k = m + 4 := ⟨k - 4, by omega⟩
    conv => lhs; unfold ephemerisref1_MoonBegin.l0
    rw [if_neg (by omega), show x = y from by omega]
    exact MoonBegin_end ok y m (by omega) hm k (by omega) 0 (by omega)
  | succ d ih =>
    intro k x hx h1 hk
    obtain ⟨k, rfl⟩ : ∃ m, k = m + 1 := ⟨k - 1, by omega⟩
    have hs := mB_succ ok.lps x
    have hb := (mB_bound ok.lps (y := x) (by omega)).2.2.2.2
    have hmm := mMonths_bound cy lp x
    conv => lhs; unfold ephemerisref1_MoonBegin.l0
    rw [if_pos (by omega), ephemerisref1_MoonMonths_f ok.lps x (by omega) k (by omega), Option.bind_some, w64_id (n := _ + mMonths cy lp x) (by omega) (by omega), w64_id (n := x + 1) (by omega) (by omega), show mB cy lp x + m - 1 + mMonths cy lp x = mB cy lp (x + 1) + m - 1 from by omega]
    exact ih k (x + 1) (by omega) (by omega) (by omega)
theorem ephemerisref1_MoonBegin_f {name : ByteArray} {ep sn sd mn' md ln ld cy : Int} {lp av : List Int} (ok : OkMoon ep sn sd mn' md ln ld cy lp av) (y m : Int) (hy : -30000 ≤ y ∧ y ≤ 30000) (hm : 1 ≤ m ∧ m ≤ 1000) (k : Nat) (hk : 100000000000000200000 ≤ k) :
    ephemerisref1_MoonBegin.f k name ep sn sd mn' md ln ld cy lp av y m = some (monD ep sn sd mn' md ln ld cy lp av y m) := by
  unfold ephemerisref1_MoonBegin.f
  have h1 := mB_one ok.lps
  rw [w64_id (n := m - 1) (by omega) (by omega), show m - 1 = mB cy lp 1 + m - 1 from by omega]
  by_cases c : 1 ≤ y
  · exact MoonBegin_l0 ok y m (by omega) hm (y - 1).toNat k 1 (by omega) (by omega) (by omega)
  · obtain ⟨k, rfl⟩ : ∃ m, k = m + 1 := ⟨k - 1, by omega⟩
    conv => lhs; unfold ephemerisref1_MoonBegin.l0
    rw [if_neg (by omega)]
    exact MoonBegin_l1 ok y m hy hm (1 - y).toNat k 0 (by omega) (by omega) (by omega)

theorem plain_ok : moonErr (⟨#[112, 108, 97, 105, 110]⟩ : ByteArray) 1 0 1 59 2 1 1 1 [] [] = 0 := by
  have n1 : isName (⟨#[112, 108, 97, 105, 110]⟩ : ByteArray) = true := by unfold isName noWord; rw [toList_data]; decide
  unfold moonErr
  rw [if_pos n1, if_pos (by decide), if_pos (by decide), if_pos (by decide), if_neg (by decide), if_pos (by decide)]
  decide
theorem ofs_l1 {name : ByteArray} {ep sn sd mn' md ln ld cy : Int} {lp av : List Int} (ok : OkMoon ep sn sd mn' md ln ld cy lp av) (x1 x2 e f y : Int) (hy : -10000 ≤ y ∧ y ≤ 10000) (tn : ByteArray) (tf : Int) (tm ts : List Int) (nm : ByteArray) (fi : Int) (ms : List Int) :
    ∀ (d k : Nat) (m : Int) (ss : List Int), m + d = mMonths cy lp y + 1 → 1 ≤ m → 100000000000000200000 ≤ k → ss.length + d ≤ 100000 →
    ephemerislaw1_ObservedOfs.l1 (k + d + 1) x1 x2 e f y (mMonths cy lp y) m name ep sn sd mn' md ln ld cy lp av tn tf tm ts nm fi ms ss = ephemerislaw1_ObservedOfs.l0 k x1 x2 e f (y + 1) name ep sn sd mn' md ln ld cy lp av tn tf tm ts nm fi ms (ss ++ monL (monD ep sn sd mn' md ln ld cy lp av y) d m) := by
  have hmm := mMonths_bound cy lp y
  intro d
  induction d with
  | zero =>
    intro k m ss hm h1 hk hs
    simp only [ephemerislaw1_ObservedOfs.l1]
    rw [if_neg (by omega), w64_id (by omega) (by omega)]
    simp [monL]
  | succ d ih =>
    intro k m ss hm h1 hk hs
    rw [show k + (d + 1) + 1 = (k + d + 1) + 1 from by omega]
    conv => lhs; unfold ephemerislaw1_ObservedOfs.l1
    rw [if_pos (by omega), ephemerisref1_MoonBegin_f ok y m (by omega) (by omega) _ (by omega), Option.bind_some, if_pos (by omega), w64_id (n := m + 1) (by omega) (by omega), ih k (m + 1) _ (by omega) (by omega) hk (by rw [List.length_append, List.length_singleton]; omega), List.append_assoc]
    rfl
theorem ofs_l0 {name : ByteArray} {ep sn sd mn' md ln ld cy : Int} {lp av : List Int} (ok : OkMoon ep sn sd mn' md ln ld cy lp av) (x1 x2 e : Int) (hx : -10000 ≤ x1 ∧ x1 ≤ 9960) (hx2 : 1 ≤ x2 ∧ x2 ≤ 40) (tn : ByteArray) (tf : Int) (tm ts : List Int) (nm : ByteArray) (fi : Int) :
    ∀ (d k : Nat) (y : Int) (ms ss : List Int), y + d = x1 + x2 → x1 ≤ y → 100000000000000200000 + 20 * d + 100 ≤ k → ms.length + d ≤ 1000 → ss.length + 13 * d + 1 ≤ 50000 → ∃ k' : Nat, 100000000000000100000 ≤ k' ∧
    ephemerislaw1_ObservedOfs.l0 k x1 x2 e 0 y name ep sn sd mn' md ln ld cy lp av tn tf tm ts nm fi ms ss =
      ephemerislaw1_ObservedOfs.l2 k' e 0 (ss ++ (yrL (monD ep sn sd mn' md ln ld cy lp av) (mMonths cy lp) d y ++ [monD ep sn sd mn' md ln ld cy lp av (x1 + x2) 1])) ((ss ++ (yrL (monD ep sn sd mn' md ln ld cy lp av) (mMonths cy lp) d y ++ [monD ep sn sd mn' md ln ld cy lp av (x1 + x2) 1])).length : Int) 0 tn tf tm ts nm fi (ms ++ yrM (mMonths cy lp) d y)
        (ss ++ (yrL (monD ep sn sd mn' md ln ld cy lp av) (mMonths cy lp) d y ++ [monD ep sn sd mn' md ln ld cy lp av (x1 + x2) 1])) := by
  intro d
  induction d with
  | zero =>
    intro k y ms ss hy h1 hk hm hs
    obtain ⟨k, rfl⟩ : ∃ q, k = q + 2 := ⟨k - 2, by omega⟩
    refine ⟨k, by omega, ?_⟩
    rw [show k + 2 = (k + 1) + 1 from rfl]
    simp only [ephemerislaw1_ObservedOfs.l0]
    rw [if_pos trivial, w64_id (by omega) (by omega), decide_eq_false (by omega)]
    simp only [ephemerislaw1_ObservedOfs.j5]
    rw [if_neg (by decide), if_pos trivial, w64_id (by omega) (by omega), ephemerisref1_MoonBegin_f ok (x1 + x2) 1 (by omega) (by omega) k (by omega), Option.bind_some, if_pos (by omega), Option.bind_some]
    unfold yrL yrM
    rw [List.nil_append, List.append_nil]
  | succ d ih =>
    intro k y ms ss hy h1 hk hm hs
    have hmm := mMonths_bound cy lp y
    obtain ⟨k, rfl⟩ : ∃ q, k = (q + (mMonths cy lp y).toNat + 1) + 2 := ⟨k - 3 - (mMonths cy lp y).toNat, by omega⟩
    obtain ⟨k', hk', e'⟩ := ih k (y + 1) (ms ++ [mMonths cy lp y]) (ss ++ monL (monD ep sn sd mn' md ln ld cy lp av y) (mMonths cy lp y).toNat 1) (by omega) (by omega) (by omega) (by rw [List.length_append, List.length_singleton]; omega) (by rw [List.length_append, monL_len]; omega)
    refine ⟨k', hk', ?_⟩
    rw [show k + (mMonths cy lp y).toNat + 1 + 2 = (k + (mMonths cy lp y).toNat + 1 + 1) + 1 from rfl]
    conv => lhs; unfold ephemerislaw1_ObservedOfs.l0
    rw [if_pos rfl, w64_id (by omega) (by omega), decide_eq_true (by omega)]
    conv => lhs; unfold ephemerislaw1_ObservedOfs.j5
    rw [if_pos rfl, ephemerisref1_MoonMonths_f ok.lps y (by omega) _ (by omega), Option.bind_some, if_pos (by omega), ofs_l1 ok x1 x2 e 0 y (by omega) tn tf tm ts nm fi _ (mMonths cy lp y).toNat k 1 ss (by omega) (by omega) (by omega) (by omega), e']
    have e1 : ms ++ [mMonths cy lp y] ++ yrM (mMonths cy lp) d (y + 1) = ms ++ yrM (mMonths cy lp) (d + 1) y := by rw [List.append_assoc]; rfl
    have e2 : ss ++ monL (monD ep sn sd mn' md ln ld cy lp av y) (mMonths cy lp y).toNat 1 ++ (yrL (monD ep sn sd mn' md ln ld cy lp av) (mMonths cy lp) d (y + 1) ++ [monD ep sn sd mn' md ln ld cy lp av (x1 + x2) 1]) = ss ++ (yrL (monD ep sn sd mn' md ln ld cy lp av) (mMonths cy lp) (d + 1) y ++ [monD ep sn sd mn' md ln ld cy lp av (x1 + x2) 1]) := by
      rw [show yrL (monD ep sn sd mn' md ln ld cy lp av) (mMonths cy lp) (d + 1) y = monL (monD ep sn sd mn' md ln ld cy lp av y) (mMonths cy lp y).toNat 1 ++ yrL (monD ep sn sd mn' md ln ld cy lp av) (mMonths cy lp) d (y + 1) from rfl]
      simp only [List.append_assoc]
    rw [e1, e2]
theorem ofs_l2 (e : Int) (L : List Int) (hL : L.length ≤ 100000) (tn : ByteArray) (tf : Int) (tm ts : List Int) (nm : ByteArray) (fi : Int) (wm ws : List Int) : ∀ (d i k : Nat) (f : Int), i + d = L.length → ∃ f', f' = (if okDays (L.drop i) = true then f else 3) ∧
    ephemerislaw1_ObservedOfs.l2 (k + d + 1) e f L (L.length : Int) (i : Int) tn tf tm ts nm fi wm ws = ephemerislaw1_ObservedOfs.j8 k e f' tn tf tm ts nm fi wm ws := by
  intro d
  induction d with
  | zero =>
    intro i k f hi
    refine ⟨f, ?_, ?_⟩
    · rw [List.drop_of_length_le (by omega)]; simp [okDays]
    · simp only [ephemerislaw1_ObservedOfs.l2]
      rw [if_neg (by omega)]
  | succ d ih =>
    intro i k f hi
    have hlt : i < L.length := by omega
    rw [List.drop_eq_getElem_cons hlt, okDays_cons]
    have step : ephemerislaw1_ObservedOfs.l2 (k + (d + 1) + 1) e f L (L.length : Int) (i : Int) tn tf tm ts nm fi wm ws = if (decide (-4000000 ≤ L[i] ∧ L[i] ≤ 4000000)) = true then ephemerislaw1_ObservedOfs.l2 (k + d + 1) e f L (L.length : Int) ((i + 1 : Nat) : Int) tn tf tm ts nm fi wm ws else ephemerislaw1_ObservedOfs.l2 (k + d + 1) e 3 L (L.length : Int) ((i + 1 : Nat) : Int) tn tf tm ts nm fi wm ws := by
      rw [show k + (d + 1) + 1 = (k + d + 1) + 1 from by omega]
      conv => lhs; unfold ephemerislaw1_ObservedOfs.l2
      rw [if_pos (by omega), if_pos (by omega), if_pos (by omega), rd_get L i hlt, ephemerisref1_Day_f, Option.bind_some, w64_id (n := (i : Int) + 1) (by omega) (by omega), show ((i : Int) + 1) = ((i + 1 : Nat) : Int) from by omega]
    rw [step]
    by_cases c : -4000000 ≤ L[i] ∧ L[i] ≤ 4000000
    · rw [decide_eq_true c, if_pos rfl]
      obtain ⟨f', h1, h2⟩ := ih (i + 1) k f (by omega)
      exact ⟨f', by rw [h1, Bool.true_and], h2⟩
    · rw [decide_eq_false c, if_neg (c := false = true) (by decide)]
      obtain ⟨f', h1, h2⟩ := ih (i + 1) k 3 (by omega)
      refine ⟨3, rfl, ?_⟩
      rw [h2, h1]
      split <;> rfl
theorem ofs_j3 {name : ByteArray} {ep sn sd mn' md ln ld cy : Int} {lp av : List Int} (x1 x2 : Int) (f : Int) (hf : f ≠ 0) (e : Int) (he : e = f) (k : Nat) (hk : 10 ≤ k) : ephemerislaw1_ObservedOfs.j3 k x1 x2 e f name ep sn sd mn' md ln ld cy lp av (⟨#[]⟩ : ByteArray) 0 [] [] = some true := by
  obtain ⟨k, rfl⟩ : ∃ m, k = m + 4 := ⟨k - 4, by omega⟩
  subst he
  simp only [ephemerislaw1_ObservedOfs.j3, ephemerislaw1_ObservedOfs.l0, ephemerislaw1_ObservedOfs.j5, ephemerislaw1_ObservedOfs.j8, if_neg hf, Bool.false_eq_true, if_false]
  rw [ephemerisref1_SameTable_f _ _ _ _ (by simp) (by simp) k (by simp only [List.length_nil]; omega) (by simp only [List.length_nil]; omega), Option.bind_some]
  simp
theorem ObservedOfs : ephemerislaw1_ObservedOfs.Pure := by
  intro name ep sn sd mn' md ln ld cy lp av x1 x2 hs _ _ _ hmn _ _ _ _ hl _ _ hx2
  have hmn := wf_i64 hmn
  have hx2 := wf_i64 hx2
  obtain ⟨K, hK⟩ : ∃ K : Nat, 100000000000000900000 ≤ K := ⟨_, Nat.le_refl _⟩
  refine ⟨K, ?_⟩
  unfold ephemerislaw1_ObservedOfs.f
  rw [ephemerislaw1_plainMoon_f, Option.bind_some]
  simp only
  have hof : ofR (⟨#[112, 108, 97, 105, 110]⟩ : ByteArray) 1 0 1 59 2 1 1 1 [] [] 1 1 = ((⟨#[112, 108, 97, 105, 110]⟩ : ByteArray), 1, [12], [1, 30, 60, 89, 119, 148, 178, 207, 237, 266, 296, 325, 355], 0) := by
    unfold ofR
    rw [if_pos plain_ok, if_pos (by decide), if_pos (by decide)]
    rw [show yrL (monD 1 0 1 59 2 1 1 1 [] []) (mMonths 1 []) (1 : Int).toNat 1 ++ [monD 1 0 1 59 2 1 1 1 [] [] (1 + 1) 1] = [1, 30, 60, 89, 119, 148, 178, 207, 237, 266, 296, 325, 355] from by decide +kernel, show yrM (mMonths 1 []) (1 : Int).toNat 1 = [12] from by decide +kernel]
    rw [if_pos (by decide)]
  rw [observed_Of_f _ _ _ _ _ _ _ _ _ _ _ (by simp) 1 1 K (by omega), hof, Option.bind_some]
  simp only
  rw [if_pos trivial, if_pos (by decide), if_pos (by decide), if_pos (by decide), if_pos (by decide), show (rd [1, 30, 60, 89, 119, 148, 178, 207, 237, 266, 296, 325, 355] 12 != 355) = false from by decide]
  obtain ⟨k, rfl⟩ : ∃ m, K = m + 3 := ⟨K - 3, by omega⟩
  have hj2 : ∀ x2 : Int, -9223372036854775808 ≤ x2 ∧ x2 ≤ 9223372036854775807 → ephemerislaw1_ObservedOfs.j2 (k + 1) x1 x2 name ep sn sd mn' md ln ld cy lp av = some true := by
    intro x2 hx2
    simp only [ephemerislaw1_ObservedOfs.j2]
    rw [observed_Of_f name ep sn sd mn' md ln ld cy lp av (by omega) x1 x2 k (by omega), Option.bind_some, ephemerisref1_MoonError_f name ep sn sd mn' md ln ld cy lp av (by omega) hmn hs k (by omega), Option.bind_some, ephemerisref1_In_f, ephemerisref1_In_f, Option.bind_some, Option.bind_some]
    unfold ofR
    by_cases h0 : moonErr name ep sn sd mn' md ln ld cy lp av = 0
    rotate_left
    · rw [if_neg h0, if_neg h0]
      exact ofs_j3 x1 x2 _ h0 _ rfl k (by omega)
    rw [if_pos h0, if_pos h0]
    by_cases h2 : 1 ≤ x2 ∧ x2 ≤ 40
    rotate_left
    · rw [if_neg h2, decide_eq_false h2, if_neg (by decide)]
      exact ofs_j3 x1 x2 1 (by decide) _ rfl k (by omega)
    rw [if_pos h2, decide_eq_true h2, if_pos rfl]
    by_cases h3 : -10000 ≤ x1 ∧ x1 ≤ 9960
    rotate_left
    · rw [if_neg h3, decide_eq_false h3, if_neg (by decide)]
      exact ofs_j3 x1 x2 3 (by decide) _ rfl k (by omega)
    rw [if_pos h3, decide_eq_true h3, if_pos rfl, h0]
    have ok := moonErr_ok h0
    obtain ⟨q, rfl⟩ : ∃ m, k = m + 1 := ⟨k - 1, by omega⟩
    have hyl := yrL_len (monD ep sn sd mn' md ln ld cy lp av) (mMonths cy lp) (fun y => (mMonths_bound cy lp y).2) x2.toNat x1
    have hym := yrM_len (mMonths cy lp) x2.toNat x1
    generalize hL : yrL (monD ep sn sd mn' md ln ld cy lp av) (mMonths cy lp) x2.toNat x1 ++ [monD ep sn sd mn' md ln ld cy lp av (x1 + x2) 1] = L
    have hLl : L.length ≤ 600 := by rw [← hL, List.length_append, List.length_singleton]; omega
    generalize hr : (if okDays L = true then (name, x1, yrM (mMonths cy lp) x2.toNat x1, L, (0 : Int)) else ((⟨#[]⟩ : ByteArray), 0, ([] : List Int), ([] : List Int), 3)) = r
    simp only [ephemerislaw1_ObservedOfs.j3]
    obtain ⟨k', hk', e'⟩ := ofs_l0 (name := name) ok x1 x2 r.2.2.2.2 h3 h2 r.1 r.2.1 r.2.2.1 r.2.2.2.1 name x1 x2.toNat q x1 [] [] (by omega) (Int.le_refl _) (by omega) (by simp only [List.length_nil]; omega) (by simp only [List.length_nil]; omega)
    rw [e', List.nil_append, List.nil_append, hL]
    obtain ⟨k', rfl⟩ : ∃ m, k' = m + 1 + L.length + 1 := ⟨k' - 2 - L.length, by omega⟩
    obtain ⟨f', h1, h2'⟩ := ofs_l2 r.2.2.2.2 L (by omega) r.1 r.2.1 r.2.2.1 r.2.2.2.1 name x1 (yrM (mMonths cy lp) x2.toNat x1) L L.length 0 (k' + 1) 0 (by omega)
    rw [List.drop_zero] at h1
    rw [show (0 : Int) = ((0 : Nat) : Int) from rfl] at h1 h2' ⊢
    rw [h2']
    simp only [ephemerislaw1_ObservedOfs.j8]
    by_cases c : okDays L = true
    · rw [if_pos c] at hr h1
      subst hr
      rw [if_pos (show f' = 0 from h1), if_pos rfl, ephemerisref1_SameTable_f _ _ _ _ (by simp only; omega) (by simp only; omega) k' (by simp only; omega) (by simp only; omega), Option.bind_some]
    · rw [if_neg c] at hr h1
      subst hr
      rw [if_neg (show ¬ f' = 0 from by rw [h1]; decide), ephemerisref1_SameTable_f _ _ _ _ (by simp) (by simp) k' (by simp only [List.length_nil]; omega) (by simp only [List.length_nil]; omega), Option.bind_some, if_pos rfl, h1]
      rfl
  rw [show k + 3 = (k + 2) + 1 from rfl]
  simp only [ephemerislaw1_ObservedOfs.j0, Bool.false_eq_true, if_false]
  have hj1 : ∀ b : Bool, ephemerislaw1_ObservedOfs.j1 (k + 2) x1 x2 b name ep sn sd mn' md ln ld cy lp av = some true := by
    intro b
    rw [show k + 2 = (k + 1) + 1 from rfl]
    simp only [ephemerislaw1_ObservedOfs.j1]
    have ht := tmod_emod x2 4 (by decide)
    have h1 := Int.emod_nonneg x2 (b := 4) (by decide)
    have h2 := Int.emod_lt_of_pos x2 (b := 4) (by decide)
    have hb : -4 ≤ Int.tmod x2 4 ∧ Int.tmod x2 4 ≤ 4 := by
      by_cases c : Int.tmod x2 4 < 0
      · have := ht.1 c; omega
      · have := ht.2 c; omega
    split
    · exact hj2 _ (by rw [w64_id (by omega) (by omega)]; omega)
    · exact hj2 _ hx2
  split
  · exact hj1 _
  · exact hj1 _
end Go.Proofs.Ytlfammlboncmeaa.Pure
