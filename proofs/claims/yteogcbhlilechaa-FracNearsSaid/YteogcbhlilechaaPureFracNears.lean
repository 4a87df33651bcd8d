/- The law FracNears over numbers and lists: what the law's functions tell, and that the law holds. -/
import Derived.Test.YteogcbhlilechaaPFracNearsx6
import Derived.Test.YteogcbhlilechaaM
import Derived.Test.YteogcbhlilechaaF
import Derived.Test.YteogcbhlilechaaS
import Derived.Test.YteogcbhlilechaaO
import Derived.Test.YteogcbhlilechaaL
namespace Go.Proofs.Yteogcbhlilechaa.Pure
open Go.RowKit Go.Proofs.Yteogcbhlilechaa.PFracNears Go.Proofs.YteogcbhlilechaaW.PrintWords Go.Proofs.YteogcbhlilechaaW.PrintLast Go.Proofs.Yteogcbhlilechaa.M Go.Proofs.Yteogcbhlilechaa.F Go.Proofs.Yteogcbhlilechaa.S Go.Proofs.Yteogcbhlilechaa.O Go.Proofs.Yteogcbhlilechaa.L
set_option linter.unusedVariables false
set_option linter.unusedSimpArgs false
/-- The law over numbers and lists. -/
def ephemerislaw1_FracNears.Pure : Prop := ∀ (a0_0 : Int) (a0_1 : Int) (a1 : Int), (Lit.int .i64 a0_0).wf = true → (Lit.int .i64 a0_1).wf = true → (Lit.int .i64 a1).wf = true → ∃ k, ephemerislaw1_FracNears.f k a0_0 a0_1 a1 = some true

theorem whole_size_f {a : Int} (h0 : -9223372036854775808 ≤ a) (h1 : a ≤ 9223372036854775807) : whole_size.f a = some (ab a) := by
  unfold whole_size.f ab
  by_cases c : a < 0
  · rw [if_pos c, if_pos c, u64_def a, u64_def]
    congr 1; omega
  · rw [if_neg c, if_neg c, u64_id (by omega) (by omega)]

theorem whole_Gcd_l0 : ∀ (n k x y : Nat), y ≤ n → n < k → x ≤ 9223372036854775808 → y ≤ 9223372036854775808 → (0 < x ∨ y ≤ 9223372036854775808) →
    whole_Gcd.l0 k (x : Int) (y : Int) = some (if Nat.gcd x y = 9223372036854775808 then (0, 14) else ((Nat.gcd x y : Int), 0)) := by
  intro n
  induction n with
  | zero =>
    intro k x y hy hk hx hy1 _
    obtain ⟨k, rfl⟩ : ∃ m, k = m + 1 := ⟨k - 1, by omega⟩
    obtain rfl : y = 0 := by omega
    simp only [whole_Gcd.l0]
    rw [if_pos (by omega), Nat.gcd_zero_right]
    by_cases c : x = 9223372036854775808
    · rw [if_pos (by omega), if_pos c]
    · rw [if_neg (by omega), if_neg c, w64_id (by omega) (by omega)]
  | succ n ih =>
    intro k x y hy hk hx hy1 _
    obtain ⟨k, rfl⟩ : ∃ m, k = m + 1 := ⟨k - 1, by omega⟩
    simp only [whole_Gcd.l0]
    by_cases c0 : y = 0
    · subst c0
      rw [if_pos (by omega), Nat.gcd_zero_right]
      by_cases c : x = 9223372036854775808
      · rw [if_pos (by omega), if_pos c]
      · rw [if_neg (by omega), if_neg c, w64_id (by omega) (by omega)]
    · have hm : x % y < y := Nat.mod_lt _ (by omega)
      rw [if_neg (by omega), show Int.tmod (x : Int) (y : Int) = ((x % y : Nat) : Int) from by rw [← Int.ofNat_tmod]]
      rw [ih k y (x % y) (by omega) (by omega) hy1 (by omega) (.inl (by omega))]
      rw [show Nat.gcd y (x % y) = Nat.gcd x y from by rw [Nat.gcd_comm y, ← Nat.gcd_rec, Nat.gcd_comm]]
theorem gcd_ab (a b : Int) : Nat.gcd (ab a).toNat (ab b).toNat = Int.gcd a b := by
  have h : ∀ c : Int, (ab c).toNat = c.natAbs := fun c => by unfold ab; split <;> omega
  rw [h, h]; rfl
theorem gcd_le {a b : Int} (ha : -9223372036854775808 ≤ a) (ha1 : a ≤ 9223372036854775807) (hb : -9223372036854775808 ≤ b) (hb1 : b ≤ 9223372036854775807) : Int.gcd a b ≤ 9223372036854775808 := by
  show Nat.gcd a.natAbs b.natAbs ≤ _
  by_cases h : a.natAbs = 0
  · rw [h, Nat.gcd_zero_left]; omega
  · have := Nat.gcd_le_left b.natAbs (show 0 < a.natAbs by omega)
    omega
theorem whole_Gcd_f {a b : Int} (k : Nat) (hk : 9223372036854775810 ≤ k) (ha : -9223372036854775808 ≤ a) (ha1 : a ≤ 9223372036854775807) (hb : -9223372036854775808 ≤ b) (hb1 : b ≤ 9223372036854775807) :
    whole_Gcd.f k a b = some (if Int.gcd a b = 9223372036854775808 then (0, 14) else ((Int.gcd a b : Int), 0)) := by
  unfold whole_Gcd.f
  rw [whole_size_f ha ha1, whole_size_f hb hb1]
  simp only [Option.bind_some]
  have e1 := ab_nonneg a
  have e2 := ab_nonneg b
  have e3 := ab_le ha ha1
  have e4 := ab_le hb hb1
  have := whole_Gcd_l0 9223372036854775808 k (ab a).toNat (ab b).toNat (by omega) (by omega) (by omega) (by omega) (.inr (by omega))
  rw [gcd_ab, Int.toNat_of_nonneg e1, Int.toNat_of_nonneg e2] at this
  exact this

theorem frac_Check_f {n d : Int} (k : Nat) (hk : 9223372036854775820 ≤ k) : frac_Check.f k n d = some (if fracOK n d = true then 0 else 8) := by
  obtain ⟨k, rfl⟩ : ∃ m, k = m + 1 := ⟨k - 1, by omega⟩
  have hj : frac_Check.f (k + 1) n d = frac_Check.j0 (k + 1) (decide (¬ ((1 ≤ d ∧ d ≤ 2147483647) ∧ (-2147483647 ≤ n ∧ n ≤ 2147483647)))) n d := by
    unfold frac_Check.f
    by_cases c1 : d < 1
    · rw [if_pos c1, decide_eq_true (by omega)]
    rw [if_neg c1]
    by_cases c2 : d > 2147483647
    · rw [if_pos c2, decide_eq_true (by omega)]
    rw [if_neg c2]
    by_cases c3 : n < -2147483647
    · rw [if_pos c3, decide_eq_true (by omega)]
    rw [if_neg c3]
    by_cases c4 : n > 2147483647
    · rw [decide_eq_true c4, decide_eq_true (by omega)]
    · rw [decide_eq_false c4, decide_eq_false (by omega)]
  rw [hj]
  simp only [frac_Check.j0, decide_eq_true_eq, fracOK]
  by_cases c : (1 ≤ d ∧ d ≤ 2147483647) ∧ (-2147483647 ≤ n ∧ n ≤ 2147483647)
  · rw [if_neg (fun h => h c), whole_Gcd_f k (by omega) (by omega) (by omega) (by omega) (by omega), Option.bind_some]
    have hle := gcd_pos_le n (m := d) (by omega)
    have h9 : ¬ Int.gcd n d = 9223372036854775808 := by omega
    rw [if_neg h9]
    by_cases c2 : Int.gcd n d = 1
    · have h8 : (1 ≤ d ∧ d ≤ 2147483647) ∧ (-2147483647 ≤ n ∧ n ≤ 2147483647) ∧ Int.gcd n d = 1 := ⟨c.1, c.2, c2⟩
      rw [if_pos h8]; simp [c2]
    · have h8 : ¬ ((1 ≤ d ∧ d ≤ 2147483647) ∧ (-2147483647 ≤ n ∧ n ≤ 2147483647) ∧ Int.gcd n d = 1) := fun h => c2 h.2.2
      have h7 : ¬ (Int.gcd n d : Int) = 1 := by omega
      rw [if_neg h8]
      simp only [if_neg h7]
  · have h8 : ¬ ((1 ≤ d ∧ d ≤ 2147483647) ∧ (-2147483647 ≤ n ∧ n ≤ 2147483647) ∧ Int.gcd n d = 1) := fun h => c ⟨h.1, h.2.1⟩
    rw [if_pos c, if_neg h8]

theorem whole_Div_f {a b : Int} (k : Nat) (hk : 1 ≤ k) (ha : -9223372036854775808 ≤ a) (ha1 : a ≤ 9223372036854775807) (hb : -9223372036854775808 ≤ b) (hb1 : b ≤ 9223372036854775807) : whole_Div.f k a b = some (divs a b) := by
  obtain ⟨k, rfl⟩ : ∃ m, k = m + 1 := ⟨k - 1, by omega⟩
  unfold whole_Div.f divs
  by_cases c : b = 0
  · rw [if_pos c, if_pos c]
  rw [if_neg c, if_neg c]
  by_cases d : a = -9223372036854775808 ∧ b = -1
  · rw [if_pos d.1, if_pos d, d.2]; simp [whole_Div.j0]
  have e : (if a = (-9223372036854775808) then (whole_Div.j0 (k + 1) a b (b == (-1))) else (whole_Div.j0 (k + 1) a b false)) = whole_Div.j0 (k + 1) a b false := by
    by_cases c1 : a = -9223372036854775808
    · rw [if_pos c1, show (b == -1) = false from beq_eq_false_iff_ne.2 (fun h => d ⟨c1, h⟩)]
    · rw [if_neg c1]
  rw [e, if_neg d]
  simp only [whole_Div.j0, Bool.false_eq_true, if_false]
  rw [if_neg c]
  obtain ⟨b1, b2⟩ := tdiv_bound a b c ha ha1 d
  obtain ⟨g1, g2, g3⟩ := fd_of_t a b c
  obtain ⟨t0, t1, t2, t3, t4⟩ := tdm a b c
  rw [w64_id b1 b2]
  by_cases hz : Int.tmod a b = 0
  · rw [if_pos hz, (g1 hz).1, (g1 hz).2, hz]
  · rw [if_neg hz]
    cases hs : (decide (Int.tmod a b < 0) != decide (b < 0)) with
    | true =>
      have hq : fd a b = Int.tdiv a b - 1 := (g2 hz hs).1
      have hfs := fd_spec a b c
      have hlow : -9223372036854775808 ≤ Int.tdiv a b - 1 := by
        by_cases hm : Int.tdiv a b = -9223372036854775808
        · exfalso
          have h9 : (Int.tdiv a b).natAbs = a.natAbs / b.natAbs := Int.natAbs_tdiv a b
          rw [hm] at h9
          have h10 : a.natAbs / b.natAbs ≤ a.natAbs := Nat.div_le_self _ _
          by_cases hb2 : b.natAbs = 1
          · have : b = 1 ∨ b = -1 := by omega
            rcases this with rfl | rfl
            · exact hz (by rw [Int.tmod_one])
            · exact hz (by rw [Int.tmod_neg, Int.tmod_one])
          · have : a.natAbs / b.natAbs ≤ a.natAbs / 2 := Nat.div_le_div_left (by omega) (by omega)
            omega
        · omega
      have hss : (Int.tmod a b < 0 ∧ 0 < b) ∨ (0 < Int.tmod a b ∧ b < 0) := by
        by_cases hx : Int.tmod a b < 0 <;> by_cases hy : b < 0 <;> simp [hx, hy] at hs
        · exact .inl ⟨hx, by omega⟩
        · exact .inr ⟨by omega, hy⟩
      simp only [if_true]
      rw [(g2 hz hs).1, (g2 hz hs).2, w64_id hlow (by omega), w64_id (n := Int.tmod a b + b) (by omega) (by omega)]
    | false =>
      simp only [Bool.false_eq_true, if_false]
      rw [(g3 hz hs).1, (g3 hz hs).2]

theorem bits_Mul64_f {a b : Int} (ha : 0 ≤ a) (ha1 : a < 18446744073709551616) (hb : 0 ≤ b) (hb1 : b < 18446744073709551616) : bits_Mul64.f a b = some (a * b / 18446744073709551616, a * b % 18446744073709551616) := by
  unfold bits_Mul64.f
  rw [and_mask a ha ha1, and_mask b hb hb1, u64_def (a * b)]
  obtain ⟨h00, h10, h01, h11⟩ := halves a b ha ha1 hb hb1
  have hw := wide_high a b ha ha1 hb hb1
  have hs := halves_mul a b
  have hpl := wide_plain _ _ _ _ h00 h10 h01 h11
  rw [← hs] at hpl
  generalize a * b = p at *
  generalize a % 4294967296 * (b % 4294967296) = p00 at *
  generalize a / 4294967296 * (b % 4294967296) = p10 at *
  generalize a % 4294967296 * (b / 4294967296) = p01 at *
  generalize a / 4294967296 * (b / 4294967296) = p11 at *
  obtain ⟨hp1, hp2⟩ := hpl
  rw [u64_id (n := p00) (by omega) (by omega), u64_id (n := p10) (by omega) (by omega), u64_id (n := p01) (by omega) (by omega), u64_id (n := p11) (by omega) (by omega)]
  rw [u64_id (n := p10 + p00 / 4294967296) (by omega) (by omega)]
  rw [and_mask (p10 + p00 / 4294967296) (by omega) (by omega)]
  rw [u64_id (n := (p10 + p00 / 4294967296) % 4294967296 + p01) (by omega) (by omega)]
  rw [u64_id (n := p11 + (p10 + p00 / 4294967296) / 4294967296) (by omega) (by omega)]
  rw [Int.add_comm ((p10 + p00 / 4294967296) % 4294967296) p01]
  rw [u64_id (n := p11 + (p10 + p00 / 4294967296) / 4294967296 + (p01 + (p10 + p00 / 4294967296) % 4294967296) / 4294967296) (by omega) (by omega)]
  rw [hp1]

theorem frac_cmp2_f {a b c d : Int} (ha : 0 ≤ a ∧ a < 18446744073709551616) (hb : 0 ≤ b ∧ b < 18446744073709551616) (hc : 0 ≤ c ∧ c < 18446744073709551616) (hd : 0 ≤ d ∧ d < 18446744073709551616) :
    frac_cmp2.f a b c d = some (if a * b = c * d then 0 else if a * b < c * d then -1 else 1) := by
  unfold frac_cmp2.f
  rw [bits_Mul64_f ha.1 ha.2 hb.1 hb.2, bits_Mul64_f hc.1 hc.2 hd.1 hd.2, Option.bind_some, Option.bind_some]
  simp only
  generalize a * b = x
  generalize c * d = y
  by_cases c1 : x / 18446744073709551616 = y / 18446744073709551616
  · rw [if_pos c1]
    by_cases c2 : x % 18446744073709551616 = y % 18446744073709551616
    · rw [if_pos c2, if_pos (by omega)]
    · rw [if_neg c2, if_neg (show ¬ x = y by omega)]
      by_cases c3 : x % 18446744073709551616 < y % 18446744073709551616
      · rw [if_pos c3, if_pos (by omega)]
      · rw [if_neg c3, if_neg (by omega)]
  · rw [if_neg c1, if_neg (show ¬ x = y by omega)]
    by_cases c3 : x / 18446744073709551616 < y / 18446744073709551616
    · rw [if_pos c3, if_pos (by omega)]
    · rw [if_neg c3, if_neg (by omega)]

theorem frac_Near_l0 {N D d q r : Int} (hd0 : 1 ≤ d ∧ d ≤ 300) (hdD : d < D) (hD2 : D ≤ 2147483647) (hr : 0 < r ∧ r < D) (hq : -2147483647 ≤ q ∧ q ≤ 2147483647) (hg : Int.gcd N D = 1) : ∀ (g k : Nat) (ln ld hn hd : Int), d - (ld + hd) < g → g + 2 < k → Nb N D d q r ln ld hn hd → (0 ≤ ln ∧ ln ≤ ld) → (0 ≤ hn ∧ hn ≤ hd) →
    ∃ tn td, Tgt N D d tn td ∧ frac_Near.l0 k d q r ln ld hn hd N D = some (tn, td, 0) := by
  have bnd : ∀ x y : Int, 0 ≤ x → x ≤ 300 → 0 ≤ y → y ≤ 2147483647 → 0 ≤ x * y ∧ x * y ≤ 644245094100 := by
    intro x y a b c e
    have p1 := Int.mul_nonneg a c
    have p2 := Int.mul_le_mul b e c (by omega : (0 : Int) ≤ 300)
    omega
  have fin : ∀ (k : Nat) (ln ld hn hd : Int), d < ld + hd → 0 < k → Nb N D d q r ln ld hn hd → (0 ≤ ln ∧ ln ≤ ld) → (0 ≤ hn ∧ hn ≤ hd) → ∃ tn td, Tgt N D d tn td ∧ frac_Near.l0 k d q r ln ld hn hd N D = some (tn, td, 0) := by
    intro k ln ld hn hd c hk o hln hhn
    obtain ⟨k, rfl⟩ : ∃ m, k = m + 1 := ⟨k - 1, by omega⟩
    have hl := o.hl; have hh := o.hh; have hA := o.hA; have hB := o.hB
    have b1 := bnd ld r (by omega) (by omega) (by omega) (by omega)
    have b2 := bnd ln D (by omega) (by omega) (by omega) (by omega)
    have b3 := bnd hn D (by omega) (by omega) (by omega) (by omega)
    have b4 := bnd hd r (by omega) (by omega) (by omega) (by omega)
    rw [Int.mul_comm ld] at b1
    rw [Int.mul_comm hd] at b4
    have q1 : -644245094100 ≤ q * ld ∧ q * ld ≤ 644245094100 := by
      have x1 := Int.mul_le_mul_of_nonneg_right hq.2 (show 0 ≤ ld by omega)
      have x2 := Int.mul_le_mul_of_nonneg_right hq.1 (show 0 ≤ ld by omega)
      omega
    have q2 : -644245094100 ≤ q * hd ∧ q * hd ≤ 644245094100 := by
      have x1 := Int.mul_le_mul_of_nonneg_right hq.2 (show 0 ≤ hd by omega)
      have x2 := Int.mul_le_mul_of_nonneg_right hq.1 (show 0 ≤ hd by omega)
      omega
    have key : frac_Near.l0 (k + 1) d q r ln ld hn hd N D = (some (if (r * ld - ln * D) * hd = (hn * D - r * hd) * ld then 0 else if (r * ld - ln * D) * hd < (hn * D - r * hd) * ld then -1 else 1 : Int)).bind fun t116 => (if t116 > 0 then (some (q * hd + hn, hd, 0)) else (if t116 = 0 then (if hd < ld then (some (q * hd + hn, hd, 0)) else (some (q * ld + ln, ld, 0))) else (some (q * ld + ln, ld, 0)))) := by
      simp only [frac_Near.l0]
      rw [w64_id (n := ld + hd) (by omega) (by omega), if_neg (by omega), w64_id (n := r * ld) (by omega) (by omega), w64_id (n := ln * D) (by omega) (by omega), w64_id (n := r * ld - ln * D) (by omega) (by omega), w64_id (n := hn * D) (by omega) (by omega), w64_id (n := r * hd) (by omega) (by omega), w64_id (n := hn * D - r * hd) (by omega) (by omega),
        u64_id (n := r * ld - ln * D) (by omega) (by omega), u64_id (n := hd) (by omega) (by omega), u64_id (n := hn * D - r * hd) (by omega) (by omega), u64_id (n := ld) (by omega) (by omega), frac_cmp2_f (by omega) (by omega) (by omega) (by omega),
        w64_id (n := q * hd) (by omega) (by omega), w64_id (n := q * ld) (by omega) (by omega), w64_id (n := q * hd + hn) (by omega) (by omega), w64_id (n := q * ld + ln) (by omega) (by omega)]
    rw [key, Option.bind_some]
    generalize hx : (r * ld - ln * D) * hd = x
    generalize hy : (hn * D - r * hd) * ld = y
    have tl := tgt_low o c
    have th := tgt_high o c
    rw [hx, hy] at tl th
    by_cases c1 : x = y
    · rw [if_pos c1, if_neg (by decide), if_pos rfl]
      by_cases c2 : hd < ld
      · rw [if_pos c2]; exact ⟨_, _, th (.inr ⟨c1, c2⟩), rfl⟩
      · rw [if_neg c2]; exact ⟨_, _, tl (.inr ⟨c1, by omega⟩), rfl⟩
    · rw [if_neg c1]
      by_cases c2 : x < y
      · rw [if_pos c2, if_neg (by decide), if_neg (by decide)]; exact ⟨_, _, tl (.inl c2), rfl⟩
      · rw [if_neg c2, if_pos (by decide)]; exact ⟨_, _, th (.inl (by omega)), rfl⟩
  intro g
  induction g with
  | zero => intro k ln ld hn hd h1 h2 o a b; exact fin k ln ld hn hd (by omega) (by omega) o a b
  | succ g ih =>
    intro k ln ld hn hd h1 h2 o hln hhn
    by_cases c : ld + hd ≤ d
    rotate_left
    · exact fin k ln ld hn hd (by omega) (by omega) o hln hhn
    obtain ⟨k, rfl⟩ : ∃ m, k = m + 1 := ⟨k - 1, by omega⟩
    have hl := o.hl; have hh := o.hh; have hA := o.hA; have hB := o.hB
    have hdf := o.differ hg hdD c
    have b1 := bnd ld r (by omega) (by omega) (by omega) (by omega)
    have b2 := bnd ln D (by omega) (by omega) (by omega) (by omega)
    have b3 := bnd hn D (by omega) (by omega) (by omega) (by omega)
    have b4 := bnd hd r (by omega) (by omega) (by omega) (by omega)
    rw [Int.mul_comm ld] at b1
    rw [Int.mul_comm hd] at b4
    obtain ⟨f1, f2, f3, f4⟩ := mn_facts (a := hn * D - r * hd - 1) (b := r * ld - ln * D) (c := d - hd) (e := ld) (by omega) (by omega) (by omega) (by omega)
    have z1 := Int.ediv_le_self (a := hn * D - r * hd - 1) (r * ld - ln * D) (by omega)
    have z2 := Int.ediv_le_self (a := d - hd) ld (by omega)
    have z3 : 0 ≤ (hn * D - r * hd - 1) / (r * ld - ln * D) := Int.ediv_nonneg (by omega) (by omega)
    have z4 : 0 ≤ (d - hd) / ld := Int.ediv_nonneg (by omega) (by omega)
    have t1 : Int.tdiv (hn * D - r * hd - 1) (r * ld - ln * D) = (hn * D - r * hd - 1) / (r * ld - ln * D) := Int.tdiv_eq_ediv_of_nonneg (by omega)
    have t2 : Int.tdiv (d - hd) ld = (d - hd) / ld := Int.tdiv_eq_ediv_of_nonneg (by omega)
    simp only [frac_Near.l0]
    rw [w64_id (n := ld + hd) (by omega) (by omega), if_pos c, w64_id (n := r * ld) (by omega) (by omega), w64_id (n := ln * D) (by omega) (by omega), w64_id (n := r * ld - ln * D) (by omega) (by omega), w64_id (n := hn * D) (by omega) (by omega), w64_id (n := r * hd) (by omega) (by omega), w64_id (n := hn * D - r * hd) (by omega) (by omega), w64_id (n := hn * D - r * hd - 1) (by omega) (by omega),
      if_neg (show ¬ r * ld - ln * D = 0 by omega), if_neg (show ¬ ld = 0 by omega), t1, w64_id (n := (hn * D - r * hd - 1) / (r * ld - ln * D)) (by omega) (by omega), w64_id (n := d - hd) (by omega) (by omega), t2, w64_id (n := (d - hd) / ld) (by omega) (by omega)]
    clear t1 t2 z1 z2 z3 z4
    generalize mn ((hn * D - r * hd - 1) / (r * ld - ln * D)) ((d - hd) / ld) = k1 at *
    have m1 := Int.mul_nonneg f1 hln.1
    have m2 := Int.mul_le_mul_of_nonneg_left hln.2 f1
    rw [w64_id (n := k1 * ln) (by omega) (by omega), w64_id (n := hn + k1 * ln) (by omega) (by omega), w64_id (n := k1 * ld) (by omega) (by omega), w64_id (n := hd + k1 * ld) (by omega) (by omega)]
    have e5 : (hn + k1 * ln) * D - r * (hd + k1 * ld) = (hn * D - r * hd) - k1 * (r * ld - ln * D) := by grind
    have b5 := bnd (hn + k1 * ln) D (by omega) (by omega) (by omega) (by omega)
    have b6 := bnd (hd + k1 * ld) r (by omega) (by omega) (by omega) (by omega)
    rw [Int.mul_comm _ r] at b6
    obtain ⟨g1, g2, g3, g4⟩ := mn_facts (a := r * ld - ln * D - 1) (b := (hn + k1 * ln) * D - r * (hd + k1 * ld)) (c := d - ld) (e := hd + k1 * ld) (by omega) (by omega) (by omega) (by omega)
    have z1 := Int.ediv_le_self (a := r * ld - ln * D - 1) ((hn + k1 * ln) * D - r * (hd + k1 * ld)) (by omega)
    have z2 := Int.ediv_le_self (a := d - ld) (hd + k1 * ld) (by omega)
    have z3 : 0 ≤ (r * ld - ln * D - 1) / ((hn + k1 * ln) * D - r * (hd + k1 * ld)) := Int.ediv_nonneg (by omega) (by omega)
    have z4 : 0 ≤ (d - ld) / (hd + k1 * ld) := Int.ediv_nonneg (by omega) (by omega)
    have t1 : Int.tdiv (r * ld - ln * D - 1) ((hn + k1 * ln) * D - r * (hd + k1 * ld)) = (r * ld - ln * D - 1) / ((hn + k1 * ln) * D - r * (hd + k1 * ld)) := Int.tdiv_eq_ediv_of_nonneg (by omega)
    have t2 : Int.tdiv (d - ld) (hd + k1 * ld) = (d - ld) / (hd + k1 * ld) := Int.tdiv_eq_ediv_of_nonneg (by omega)
    rw [w64_id (n := (hn + k1 * ln) * D) (by omega) (by omega), w64_id (n := r * (hd + k1 * ld)) (by omega) (by omega), w64_id (n := (hn + k1 * ln) * D - r * (hd + k1 * ld)) (by omega) (by omega), if_neg (show ¬ (hn + k1 * ln) * D - r * (hd + k1 * ld) = 0 by omega), if_neg (show ¬ hd + k1 * ld = 0 by omega),
      w64_id (n := r * ld - ln * D - 1) (by omega) (by omega), t1, w64_id (n := (r * ld - ln * D - 1) / _) (by omega) (by omega), w64_id (n := d - ld) (by omega) (by omega), t2, w64_id (n := (d - ld) / _) (by omega) (by omega)]
    clear t1 t2 z1 z2 z3 z4
    have hprog : ¬ (k1 = 0 ∧ mn ((r * ld - ln * D - 1) / ((hn + k1 * ln) * D - r * (hd + k1 * ld))) ((d - ld) / (hd + k1 * ld)) = 0) := by
      rintro ⟨x1, x2⟩
      have y1 := f4 x1 (by omega)
      subst x1
      have y2 := g4 x2 (by simp only [Int.zero_mul]; omega)
      simp only [Int.zero_mul] at y2 e5
      simp only [Int.zero_mul, Int.add_zero] at y2
      omega
    generalize mn ((r * ld - ln * D - 1) / ((hn + k1 * ln) * D - r * (hd + k1 * ld))) ((d - ld) / (hd + k1 * ld)) = k2 at *
    have st := o.step f1 f2 f3 g1 g2 g3
    have n1 := Int.mul_nonneg g1 (show 0 ≤ hn + k1 * ln by omega)
    have n2 := Int.mul_le_mul_of_nonneg_left (show hn + k1 * ln ≤ hd + k1 * ld by omega) g1
    rw [w64_id (n := k2 * (hn + k1 * ln)) (by omega) (by omega), w64_id (n := ln + k2 * (hn + k1 * ln)) (by omega) (by omega), w64_id (n := k2 * (hd + k1 * ld)) (by omega) (by omega), w64_id (n := ld + k2 * (hd + k1 * ld)) (by omega) (by omega)]
    refine ih k _ _ _ _ ?_ (by omega) st (by omega) (by omega)
    have pr : 0 < k1 * ld ∨ 0 < k2 * (hd + k1 * ld) := by
      by_cases x : k1 = 0
      · exact .inr (Int.mul_pos (by omega) (by omega))
      · exact .inl (Int.mul_pos (by omega) (by omega))
    have := Int.mul_nonneg g1 (show 0 ≤ hd + k1 * ld by omega)
    omega
theorem frac_Near_f {N D d : Int} (k : Nat) (hk : 9223372036854776820 ≤ k) (hd : d ≤ 300 ∨ 2147483647 < d) :
    (fracOK N D = false ∧ frac_Near.f k N D d = some (0, 0, 8)) ∨ (fracOK N D = true ∧ ((¬ (1 ≤ d ∧ d ≤ 2147483647) ∧ frac_Near.f k N D d = some (0, 0, 1)) ∨ ((1 ≤ d ∧ d ≤ 2147483647) ∧ ∃ tn td, Tgt N D d tn td ∧ frac_Near.f k N D d = some (tn, td, 0)))) := by
  obtain ⟨k, rfl⟩ : ∃ m, k = m + 1 := ⟨k - 1, by omega⟩
  unfold frac_Near.f
  rw [frac_Check_f _ (by omega), Option.bind_some]
  by_cases h : fracOK N D = true
  rotate_left
  · exact .inl ⟨by simpa using h, by rw [if_neg h, if_neg (by decide)]⟩
  refine .inr ⟨h, ?_⟩
  rw [if_pos h, if_pos rfl]
  have jt : frac_Near.j0 (k + 1) d true N D = some (0, 0, 1) := by simp only [frac_Near.j0, if_true]
  by_cases c1 : d < 1
  · exact .inl ⟨by omega, by rw [if_pos c1, jt]⟩
  rw [if_neg c1]
  by_cases c2 : d > 2147483647
  · exact .inl ⟨by omega, by rw [decide_eq_true c2, jt]⟩
  refine .inr ⟨by omega, ?_⟩
  have hf := of_decide_eq_true (show decide ((1 ≤ D ∧ D ≤ 2147483647) ∧ (-2147483647 ≤ N ∧ N ≤ 2147483647) ∧ Int.gcd N D = 1) = true from h)
  obtain ⟨hD, hN, hg⟩ := hf
  rw [decide_eq_false c2]
  simp only [frac_Near.j0, Bool.false_eq_true, if_false]
  by_cases c3 : D ≤ d
  · rw [if_pos c3]; exact ⟨N, D, tgt_self hD.1 c3 hg, rfl⟩
  rw [if_neg c3, whole_Div_f k (by omega) (by omega) (by omega) (by omega) (by omega), divs_pos (by omega), Option.bind_some]
  simp only
  have hm : D * (N / D) + N % D = N := Int.mul_ediv_add_emod N D
  have m1 := Int.emod_nonneg N (show D ≠ 0 by omega)
  have m2 := Int.emod_lt_of_pos N (show 0 < D by omega)
  have hq := quo_le hD.1 hN
  have m3 : N % D ≠ 0 := by
    intro h0
    have h1 : D ∣ N := Int.dvd_of_emod_eq_zero h0
    have h2 : D ∣ N * 1 := by rw [Int.mul_one]; exact h1
    have := Int.le_of_dvd (by omega) (dvd_co hg h2)
    omega
  generalize N / D = q at *
  generalize N % D = r at *
  exact frac_Near_l0 (by omega) (by omega) hD.2 (by omega) hq hg 300 k 0 1 1 1 (by omega) (by omega) ⟨hm.symm, hD.1, by omega, by omega, by omega, by omega, by omega⟩ (by omega) (by omega)

theorem ephemerisref1_In_f (x lo hi : Int) : ephemerisref1_In.f x lo hi = some (decide (lo ≤ x ∧ x ≤ hi)) := by
  unfold ephemerisref1_In.f
  by_cases h : x ≥ lo
  · rw [if_pos h]; congr 1; simp; omega
  · rw [if_neg h]; congr 1; simp; omega

theorem ephemerisref1_Num_f (x : Int) : ephemerisref1_Num.f x = some (decide (-2147483647 ≤ x ∧ x ≤ 2147483647)) := by
  unfold ephemerisref1_Num.f
  rw [ephemerisref1_In_f]; rfl

theorem ephemerisref1_Size_f {a : Int} (h0 : -9223372036854775808 ≤ a) (h1 : a ≤ 9223372036854775807) : ephemerisref1_Size.f a = some (ab a) := by
  unfold ephemerisref1_Size.f ab
  by_cases c : a < 0
  · rw [if_pos c, if_pos c, w64_id (n := a + 1) (by omega) (by omega), w64_id (n := -(a + 1)) (by omega) (by omega), u64_id (n := -(a + 1)) (by omega) (by omega), u64_id (by omega) (by omega)]
    congr 1; omega
  · rw [if_neg c, if_neg c, u64_id (by omega) (by omega)]

theorem shl_gcd (g t : Nat) (h : g * 2 ^ t < 18446744073709551616) (ht : t ≤ 64) : shl .u64 (g : Int) (t : Int) = ((g * 2 ^ t : Nat) : Int) := by
  unfold shl
  rw [show ((t : Int).toNat) = t from by omega, Nat.min_eq_left (by simp [IntKind.bits]; omega)]
  rw [show (g : Int) * 2 ^ t = ((g * 2 ^ t : Nat) : Int) from by simp]
  exact u64_id (by omega) (by omega)
theorem gcd_half {x y : Nat} (hx : x % 2 = 0) (hy : y % 2 = 1) : Nat.gcd (x / 2) y = Nat.gcd x y := by
  have hc : Nat.Coprime 2 y := by
    unfold Nat.Coprime
    rw [Nat.gcd_rec, hy]; rfl
  have := Nat.Coprime.gcd_mul_left_cancel (k := 2) (n := y) (x / 2) hc
  rw [show 2 * (x / 2) = x from by omega] at this
  exact this.symm
theorem ephemerisref1_Gcd_l1 : ∀ (n k x y t : Nat), x + y ≤ n → n < k → 0 < x → 0 < y → x < 18446744073709551616 → y < 18446744073709551616 → (x % 2 = 1 ∨ y % 2 = 1) →
    ephemerisref1_Gcd.l1 k (x : Int) (y : Int) (t : Int) = some (shl .u64 (Nat.gcd x y : Int) (t : Int)) := by
  intro n
  induction n with
  | zero => intro k x y t h; omega
  | succ n ih =>
    intro k x y t h hk hx hy hx1 hy1 ho
    obtain ⟨k, rfl⟩ : ∃ m, k = m + 1 := ⟨k - 1, by omega⟩
    simp only [ephemerisref1_Gcd.l1]
    by_cases c : x = y
    · subst c
      rw [if_pos rfl, if_pos (by omega), Nat.gcd_self]
    rw [if_neg (by omega), and_one _ (by omega) (by omega), and_one _ (by omega) (by omega)]
    by_cases c1 : x % 2 = 0
    · rw [if_pos (by omega), show (x : Int) / 2 = ((x / 2 : Nat) : Int) from by omega, ih k (x / 2) y t (by omega) (by omega) (by omega) hy (by omega) hy1 (by omega), gcd_half c1 (by omega)]
    rw [if_neg (by omega)]
    by_cases c2 : y % 2 = 0
    · rw [if_pos (by omega), show (y : Int) / 2 = ((y / 2 : Nat) : Int) from by omega, ih k x (y / 2) t (by omega) (by omega) hx (by omega) hx1 (by omega) (by omega), Nat.gcd_comm x, gcd_half c2 (by omega), Nat.gcd_comm y]
    rw [if_neg (by omega)]
    by_cases c3 : x > y
    · rw [if_pos (by omega), u64_id (by omega) (by omega), show (x : Int) - y = ((x - y : Nat) : Int) from by omega, ih k (x - y) y t (by omega) (by omega) (by omega) hy (by omega) hy1 (by omega)]
      have := Nat.gcd_add_self_left (m := y) (n := x - y)
      rw [show x - y + y = x from by omega] at this
      rw [this]
    · rw [if_neg (by omega), u64_id (by omega) (by omega), show (y : Int) - x = ((y - x : Nat) : Int) from by omega, ih k x (y - x) t (by omega) (by omega) hx (by omega) hx1 (by omega) (by omega)]
      have := Nat.gcd_add_self_left (m := x) (n := y - x)
      rw [show y - x + x = y from by omega] at this
      rw [Nat.gcd_comm x, ← this, Nat.gcd_comm y]
theorem ephemerisref1_Gcd_l0 : ∀ (n k x y t : Nat), x + y ≤ n → n + 36893488147419103240 < k → 0 < x → 0 < y → x < 18446744073709551616 → y < 18446744073709551616 → t ≤ 64 → Nat.gcd x y * 2 ^ t < 18446744073709551616 →
    ephemerisref1_Gcd.l0 k (x : Int) (y : Int) (t : Int) = some ((Nat.gcd x y * 2 ^ t : Nat) : Int) := by
  intro n
  induction n with
  | zero => intro k x y t h; omega
  | succ n ih =>
    intro k x y t h hk hx hy hx1 hy1 ht hg
    obtain ⟨k, rfl⟩ : ∃ m, k = m + 1 := ⟨k - 1, by omega⟩
    simp only [ephemerisref1_Gcd.l0]
    rw [and_one _ (by omega) (by omega), and_one _ (by omega) (by omega)]
    have last : (x % 2 = 1 ∨ y % 2 = 1) → ephemerisref1_Gcd.j2 k (x : Int) (y : Int) (t : Int) = some ((Nat.gcd x y * 2 ^ t : Nat) : Int) := fun ho => by
      obtain ⟨k, rfl⟩ : ∃ m, k = m + 1 := ⟨k - 1, by omega⟩
      simp only [ephemerisref1_Gcd.j2]
      rw [ephemerisref1_Gcd_l1 36893488147419103232 k x y t (by omega) (by omega) hx hy hx1 hy1 ho, shl_gcd _ _ hg ht]
    by_cases c1 : x % 2 = 0
    · rw [if_pos (by omega)]
      by_cases c2 : y % 2 = 0
      · have e : Nat.gcd x y = 2 * Nat.gcd (x / 2) (y / 2) := by
          rw [← Nat.gcd_mul_left, show 2 * (x / 2) = x from by omega, show 2 * (y / 2) = y from by omega]
        have e2 : Nat.gcd x y * 2 ^ t = Nat.gcd (x / 2) (y / 2) * 2 ^ (t + 1) := by
          rw [e, Nat.pow_succ, Nat.mul_comm 2, Nat.mul_assoc, Nat.mul_comm 2]
        have hp : 0 < Nat.gcd (x / 2) (y / 2) := Nat.gcd_pos_of_pos_left _ (by omega)
        have ht1 : t + 1 ≤ 64 := by
          rcases Nat.lt_or_ge (t + 1) 65 with h | h
          · omega
          · exfalso
            have h1 : 2 ^ 65 ≤ 2 ^ (t + 1) := Nat.pow_le_pow_right (by decide) h
            have h2 : 1 * 2 ^ (t + 1) ≤ Nat.gcd (x / 2) (y / 2) * 2 ^ (t + 1) := Nat.mul_le_mul_right _ hp
            have h3 : (2 : Nat) ^ 65 = 36893488147419103232 := by decide
            omega
        rw [if_pos (by omega), w64_id (by omega) (by omega), show (x : Int) / 2 = ((x / 2 : Nat) : Int) from by omega, show (y : Int) / 2 = ((y / 2 : Nat) : Int) from by omega, show (t : Int) + 1 = ((t + 1 : Nat) : Int) from by omega]
        rw [ih k (x / 2) (y / 2) (t + 1) (by omega) (by omega) (by omega) (by omega) (by omega) (by omega) ht1 (by omega), e2]
      · rw [if_neg (by omega)]; exact last (by omega)
    · rw [if_neg (by omega)]; exact last (by omega)
theorem gcdr_ab (a b : Int) : Nat.gcd (ab a).toNat (ab b).toNat = Int.gcd a b := by
  have h : ∀ c : Int, (ab c).toNat = c.natAbs := fun c => by unfold ab; split <;> omega
  rw [h, h]; rfl
theorem ephemerisref1_Gcd_f {a b : Int} (k : Nat) (hk : 100000000000000000000 ≤ k) (ha : -9223372036854775808 ≤ a) (ha1 : a ≤ 9223372036854775807) (hb : -9223372036854775808 ≤ b) (hb1 : b ≤ 9223372036854775807) :
    ephemerisref1_Gcd.f k a b = some (Int.gcd a b : Int) := by
  obtain ⟨k, rfl⟩ : ∃ m, k = m + 1 := ⟨k - 1, by omega⟩
  unfold ephemerisref1_Gcd.f
  rw [ephemerisref1_Size_f ha ha1, ephemerisref1_Size_f hb hb1]
  simp only [Option.bind_some]
  have e1 := ab_nonneg a
  have e2 := ab_nonneg b
  have e3 := ab_le ha ha1
  have e4 := ab_le hb hb1
  have hg := gcdr_ab a b
  by_cases c : ab a = 0
  · rw [if_pos c]
    simp only [ephemerisref1_Gcd.j0, if_true]
    rw [u64_id (by omega) (by omega)]
    rw [c] at hg
    simp only [Int.toNat_zero, Nat.gcd_zero_left] at hg
    congr 1; omega
  rw [if_neg c]
  simp only [ephemerisref1_Gcd.j0, beq_iff_eq]
  by_cases c2 : ab b = 0
  · rw [if_pos c2, u64_id (by omega) (by omega)]
    rw [c2] at hg
    simp only [Int.toNat_zero, Nat.gcd_zero_right] at hg
    congr 1; omega
  rw [if_neg c2]
  have hle := Nat.gcd_le_left (ab b).toNat (show 0 < (ab a).toNat by omega)
  have := ephemerisref1_Gcd_l0 36893488147419103232 k (ab a).toNat (ab b).toNat 0 (by omega) (by omega) (by omega) (by omega) (by omega) (by omega) (by omega) (by omega)
  rw [hg, Int.toNat_of_nonneg e1, Int.toNat_of_nonneg e2, Nat.pow_zero, Nat.mul_one] at this
  exact this

theorem ephemerisref1_FracOK_f {n d : Int} (k : Nat) (hk : 100000000000000000000 ≤ k) : ephemerisref1_FracOK.f k n d = some (fracOK n d) := by
  unfold ephemerisref1_FracOK.f fracOK
  rw [ephemerisref1_In_f, ephemerisref1_Num_f, Option.bind_some, Option.bind_some]
  simp only [decide_eq_true_eq]
  by_cases c : 1 ≤ d ∧ d ≤ 2147483647
  · rw [if_pos c]
    by_cases c2 : -2147483647 ≤ n ∧ n ≤ 2147483647
    · rw [if_pos c2, ephemerisref1_Gcd_f k hk (by omega) (by omega) (by omega) (by omega), Option.bind_some]
      congr 1
      by_cases c3 : Int.gcd n d = 1
      · rw [c3, decide_eq_true ⟨c, c2, rfl⟩]; rfl
      · rw [decide_eq_false (fun h => c3 h.2.2)]
        exact beq_eq_false_iff_ne.2 (by omega)
    · rw [if_neg c2, decide_eq_false (fun h => c2 h.2.1)]
  · rw [if_neg c, decide_eq_false (fun h => c h.1)]

theorem ephemerisref1_Div_l0 (X Y : Int) (hX : 0 ≤ X) (hX1 : X < 18446744073709551616) (hY : 0 < Y) (hY1 : Y ≤ 9223372036854775808) :
    ∀ (n k : Nat), n ≤ 64 → n < k → ephemerisref1_Div.l0 k X Y (X / 2 ^ n / Y * 2 ^ n) (X / 2 ^ n % Y) ((n : Int) - 1) = some (X / Y, X % Y) := by
  intro n
  induction n with
  | zero =>
    intro k _ hk
    obtain ⟨k, rfl⟩ : ∃ m, k = m + 1 := ⟨k - 1, by omega⟩
    simp only [ephemerisref1_Div.l0]
    rw [if_neg (by omega)]
    simp
  | succ n ih =>
    intro k hn hk
    obtain ⟨k, rfl⟩ : ∃ m, k = m + 1 := ⟨k - 1, by omega⟩
    have ih := ih k (by omega) (by omega)
    have hhp := half_pow X n
    have hpow : (2 : Int) ^ (n + 1) = 2 * 2 ^ n := by rw [Int.pow_succ, Int.mul_comm]
    have hpp := pow_pos' n
    have hp63 := pow_le_63 n (by omega)
    have hd1 := div_pow_le X Y (n + 1) hX hY
    have hd0 := div_pow_le X Y n hX hY
    have hz : 0 ≤ X / 2 ^ n := Int.ediv_nonneg hX (by omega)
    obtain ⟨s1, s2⟩ := long_step (X / 2 ^ n) Y hz hY
    rw [← hhp] at s1 s2
    have r0 := Int.emod_nonneg (X / 2 ^ (n + 1)) (b := Y) (by omega)
    have r1 := Int.emod_lt_of_pos (X / 2 ^ (n + 1)) hY
    have hshr : shr .u64 X ((n : Int) + 1 - 1) = X / 2 ^ n := by
      rw [show (n : Int) + 1 - 1 = n from by omega]; exact shr_pow X n (by omega)
    have hshl : shl .u64 1 ((n : Int) + 1 - 1) = 2 ^ n := by
      rw [show (n : Int) + 1 - 1 = n from by omega]; exact shl_one n (by omega)
    have hzx : X / 2 ^ n ≤ X := Int.ediv_le_self _ hX
    have hmod : (X / 2 ^ (n + 1) / Y * 2 ^ (n + 1)) % 2 ^ (n + 1) = 0 := Int.mul_emod_left _ _
    have hor : Go.bits .or .u64 (X / 2 ^ (n + 1) / Y * 2 ^ (n + 1)) (2 ^ n) = X / 2 ^ (n + 1) / Y * 2 ^ (n + 1) + 2 ^ n :=
      or_join (n + 1) _ _ hd1.1 (by omega) hmod (by omega) (by omega) (by omega)
    have q2 : X / 2 ^ (n + 1) / Y * 2 ^ (n + 1) = 2 * (X / 2 ^ (n + 1) / Y) * 2 ^ n := by
      rw [hpow, Int.mul_comm 2 (X / (2 * 2 ^ n) / Y), Int.mul_assoc]
    generalize hR : X / 2 ^ (n + 1) % Y = R at *
    generalize hQ : X / 2 ^ (n + 1) / Y * 2 ^ (n + 1) = Q at *
    simp only [ephemerisref1_Div.l0]
    rw [show (((n + 1 : Nat) : Int) - 1) = (n : Int) + 1 - 1 from by omega]
    rw [if_pos (by omega), hshr, hshl, hor, w64_id (n := (n : Int) + 1 - 1 - 1) (by omega) (by omega), show (n : Int) + 1 - 1 - 1 = (n : Int) - 1 from by omega]
    rw [and_one _ hz (by omega), u64_id (n := R * 2) (by omega) (by omega)]
    have hbit := Int.emod_nonneg (X / 2 ^ n) (b := 2) (by omega)
    have hbit1 := Int.emod_lt_of_pos (X / 2 ^ n) (b := 2) (by omega)
    rw [or_join 1 (R * 2) _ (by omega) (by omega) (by simp only [Int.reducePow]; omega) hbit (by simp only [Int.reducePow]; omega) (by omega)]
    rw [if_neg (by omega)]
    rw [show R * 2 + X / 2 ^ n % 2 = 2 * R + X / 2 ^ n % 2 from by omega]
    by_cases c : Y ≤ 2 * R + X / 2 ^ n % 2
    · rw [if_pos c, u64_id (by omega) (by omega)]
      have e := s1 c
      rw [e.1, e.2, Int.add_mul, Int.one_mul, ← q2] at ih
      exact ih
    · rw [if_neg c]
      have e := s2 c
      rw [e.1, e.2, ← q2] at ih
      exact ih
theorem ephemerisref1_Div_f {a b : Int} (k : Nat) (hk : 65 ≤ k) (ha : -9223372036854775808 ≤ a) (ha1 : a ≤ 9223372036854775807) (hb : -9223372036854775808 ≤ b) (hb1 : b ≤ 9223372036854775807) : ephemerisref1_Div.f k a b = some (divs a b) := by
  unfold ephemerisref1_Div.f
  by_cases c : b = 0
  · rw [if_pos c]; unfold divs; rw [if_pos c]
  rw [if_neg c, ephemerisref1_Size_f ha ha1, ephemerisref1_Size_f hb hb1]
  simp only [Option.bind_some]
  have hX := ab_nonneg a
  have hX1 := ab_le ha ha1
  have hY1 := ab_le hb hb1
  have hY : 0 < ab b := by unfold ab; split <;> omega
  have h64 := ephemerisref1_Div_l0 (ab a) (ab b) hX (by omega) hY hY1 64 k (by omega) (by omega)
  have hz : ab a / 2 ^ 64 = 0 := Int.ediv_eq_zero_of_lt hX (by simp only [Int.reducePow]; omega)
  rw [hz] at h64
  simp only [Int.zero_ediv, Int.zero_mul, Int.zero_emod] at h64
  rw [show (((64 : Nat) : Int) - 1) = 63 from by omega] at h64
  rw [h64]
  simp only [Option.bind_some, Option.some.injEq]
  have h1 := Int.mul_ediv_add_emod (ab a) (ab b)
  have h2 := Int.emod_nonneg (ab a) (b := ab b) (by omega)
  have h3 := Int.emod_lt_of_pos (ab a) hY
  have h4 : ab a / ab b ≤ ab a := Int.ediv_le_self _ hX
  have h5 : 0 ≤ ab a / ab b := Int.ediv_nonneg hX (by omega)
  have h6 : 2 ≤ ab b → ab a / ab b ≤ 4611686018427387904 := fun h => by
    have : ab a / ab b ≤ ab a / 2 := by
      have := Int.ediv_le_ediv (c := 2) (by omega) (a := ab a / ab b * 2) (b := ab a) (by
        have : ab a / ab b * 2 ≤ ab a / ab b * ab b := Int.mul_le_mul_of_nonneg_left h h5
        rw [Int.mul_comm (ab b)] at h1
        omega)
      omega
    omega
  have h7 : ab b = 1 → ab a / ab b = ab a ∧ ab a % ab b = 0 := fun h => by rw [h]; omega
  have uniq : ∀ {q r : Int}, a = b * q + r → (0 < b → 0 ≤ r ∧ r < b) → (b < 0 → b < r ∧ r ≤ 0) → ¬ (a = -9223372036854775808 ∧ b = -1) → divs a b = (q, r, 0) := by
    intro q r e1 e2 e3 e4
    have := fd_uniq e1 e2 e3 c
    unfold divs
    rw [if_neg c, if_neg e4, this.1, this.2]
  generalize hq : ab a / ab b = q at *
  generalize hr : ab a % ab b = r at *
  clear h64 hz
  have eY : ∀ s : Int, (-(ab b)) * s = -(ab b * s) := fun s => by rw [Int.neg_mul]
  by_cases sa : a < 0 <;> by_cases sb : b < 0
  · have xa : a = -(ab a) := by unfold ab; rw [if_pos sa]; omega
    have xb : b = -(ab b) := by unfold ab; rw [if_pos sb]; omega
    simp only [ephemerisref1_Div.e0, ephemerisref1_Div.e1, sa, sb, decide_true, bne_self_eq_false, Bool.false_eq_true, false_and, if_false, true_and, if_true]
    by_cases c2 : q > 9223372036854775807
    · rw [if_pos c2]
      unfold divs
      have : ab b = 1 := by
        by_cases h : 2 ≤ ab b
        · have := h6 h; omega
        · omega
      rw [if_neg c, if_pos (by omega)]
    · rw [if_neg c2, w64_id (by omega) (by omega), u64_def, w64_def]
      rw [uniq (q := q) (r := -r) (by rw [xb, eY]; omega) (by omega) (by omega) (fun h => by have := h7 (by omega); omega)]
      congr 2; omega
  · have xa : a = -(ab a) := by unfold ab; rw [if_pos sa]; omega
    have xb : b = ab b := by unfold ab; rw [if_neg sb]
    simp only [ephemerisref1_Div.e0, ephemerisref1_Div.e1, sa, sb, decide_true, decide_false, Bool.bne_false, Bool.false_eq_true, true_and, if_true, Bool.true_eq_false, false_and, if_false]
    by_cases c2 : r = 0
    · rw [if_neg (fun h => h c2), u64_def, w64_def, w64_id (by omega) (by omega)]
      rw [uniq (q := -q) (r := 0) (by rw [xb, Int.mul_neg]; omega) (by omega) (by omega) (by omega)]
      rw [c2]
      congr 1; omega
    · rw [if_pos c2, u64_id (n := q + 1) (by omega) (by omega), u64_id (n := ab b - r) (by omega) (by omega), u64_def, w64_def, w64_id (by omega) (by omega)]
      have : q ≤ 9223372036854775807 := by
        by_cases h : 2 ≤ ab b
        · have := h6 h; omega
        · have := h7 (by omega); omega
      have eb : b * q = ab b * q := by rw [← xb]
      rw [uniq (q := -(q + 1)) (r := ab b - r) (by rw [Int.mul_neg, Int.mul_add, Int.mul_one, eb]; omega) (by omega) (by omega) (by omega)]
      congr 1; omega
  · have xa : a = ab a := by unfold ab; rw [if_neg sa]
    have xb : b = -(ab b) := by unfold ab; rw [if_pos sb]; omega
    simp only [ephemerisref1_Div.e0, ephemerisref1_Div.e1, sa, sb, decide_true, decide_false, Bool.bne_true, Bool.not_false, Bool.false_eq_true, true_and, if_true, Bool.true_eq_false, false_and, if_false]
    by_cases c2 : r = 0
    · rw [if_neg (fun h => h c2), u64_def, w64_def, u64_def, w64_def]
      rw [uniq (q := -q) (r := 0) (by rw [xb, eY, Int.mul_neg]; omega) (by omega) (by omega) (by omega)]
      rw [c2]
      congr 1
      omega
    · rw [if_pos c2, u64_id (n := q + 1) (by omega) (by omega), u64_id (n := ab b - r) (by omega) (by omega), u64_def, w64_def, u64_def, w64_def]
      have eb := eY q
      rw [← xb] at eb
      rw [uniq (q := -(q + 1)) (r := -(ab b - r)) (by rw [Int.mul_neg, Int.mul_add, Int.mul_one, eb]; omega) (by omega) (by omega) (by omega)]
      congr 1
      · omega
      · congr 1; omega
  · have xa : a = ab a := by unfold ab; rw [if_neg sa]
    have xb : b = ab b := by unfold ab; rw [if_neg sb]
    simp only [ephemerisref1_Div.e0, ephemerisref1_Div.e1, sa, sb, decide_false, bne_self_eq_false, Bool.false_eq_true, false_and, if_false, true_and]
    rw [if_neg (by omega), w64_id (by omega) (by omega), w64_id (by omega) (by omega)]
    rw [uniq (q := q) (r := r) (by rw [xb]; omega) (by omega) (by omega) (by omega)]

theorem ephemerisref1_Floor_f {a b : Int} (k : Nat) (hk : 65 ≤ k) (ha : -9223372036854775808 ≤ a) (ha1 : a ≤ 9223372036854775807) (hb : 0 < b) (hb1 : b ≤ 9223372036854775807) : ephemerisref1_Floor.f k a b = some (a / b) := by
  unfold ephemerisref1_Floor.f
  rw [ephemerisref1_Div_f k hk ha ha1 (by omega) hb1, divs_pos hb]
  rfl

theorem FracNear_l0 {N D d tn td : Int} (hd0 : 1 ≤ d ∧ d ≤ 300) (hD : 1 ≤ D ∧ D ≤ 2147483647) (hN : -2147483647 ≤ N ∧ N ≤ 2147483647) (T : Tgt N D d tn td) : ∀ (g k : Nat) (x b c : Int), x + g = d + 1 → 1 ≤ x → 4 * g + 70 < k →
    ((b = tn ∧ c = td) ∨ (x ≤ td ∧ ab (tn * D - N * td) * c < ab (b * D - N * c) * td)) → (1 ≤ c ∧ c ≤ 300) → (-2147483647 ≤ b * D - N * c ∧ b * D - N * c ≤ 2147483647) →
    ephemerisref1_FracNear.l0 k d x N D b c = some (tn, td) := by
  obtain ⟨T1, T2, T3⟩ := T
  have fl : ∀ y : Int, 1 ≤ y → y ≤ 300 → (-644245094100 ≤ N * y ∧ N * y ≤ 644245094100) ∧ (-644245094100 ≤ N * y / D ∧ N * y / D ≤ 644245094100) ∧ (-2147483647 ≤ N * y / D * D - N * y ∧ N * y / D * D - N * y ≤ 2147483647) ∧ (-2147483647 ≤ (N * y / D + 1) * D - N * y ∧ (N * y / D + 1) * D - N * y ≤ 2147483647) := by
    intro y a e
    have x1 := Int.mul_le_mul_of_nonneg_right hN.2 (show 0 ≤ y by omega)
    have x2 := Int.mul_le_mul_of_nonneg_right hN.1 (show 0 ≤ y by omega)
    have h0 : -644245094100 ≤ N * y ∧ N * y ≤ 644245094100 := by omega
    have hm : D * (N * y / D) + N * y % D = N * y := Int.mul_ediv_add_emod _ _
    have m1 := Int.emod_nonneg (N * y) (show D ≠ 0 by omega)
    have m2 := Int.emod_lt_of_pos (N * y) (show 0 < D by omega)
    rw [Int.mul_comm D] at hm
    refine ⟨h0, quo_le hD.1 h0, by omega, ?_⟩
    rw [Int.add_mul, Int.one_mul]; omega
  have abb : ∀ z : Int, -2147483647 ≤ z → z ≤ 2147483647 → 0 ≤ ab z ∧ ab z ≤ 2147483647 := by intro z a e; unfold ab; split <;> omega
  have pb : ∀ z y : Int, 0 ≤ z → z ≤ 2147483647 → 1 ≤ y → y ≤ 300 → 0 ≤ z * y ∧ z * y ≤ 644245094100 := by
    intro z y a e f h
    have p1 := Int.mul_nonneg a (show 0 ≤ y by omega)
    have p2 := Int.mul_le_mul e h (by omega) (by omega : (0 : Int) ≤ 2147483647)
    omega
  -- one comparison
  have cmpr : ∀ n x b c : Int, 1 ≤ x → x ≤ d → (n = N * x / D ∨ n = N * x / D + 1) → (1 ≤ c ∧ c ≤ 300) → (-2147483647 ≤ b * D - N * c ∧ b * D - N * c ≤ 2147483647) →
      (-2147483647 ≤ n * D - N * x ∧ n * D - N * x ≤ 2147483647) ∧ (-9223372036854775808 ≤ n * D ∧ n * D ≤ 9223372036854775807) ∧ (-9223372036854775808 ≤ b * D ∧ b * D ≤ 9223372036854775807) ∧
      (0 ≤ ab (n * D - N * x) * c ∧ ab (n * D - N * x) * c ≤ 644245094100) ∧ (0 ≤ ab (b * D - N * c) * x ∧ ab (b * D - N * c) * x ≤ 644245094100) ∧ (-644245094100 ≤ N * x ∧ N * x ≤ 644245094100) ∧ (-644245094100 ≤ N * c ∧ N * c ≤ 644245094100) := by
    intro n x b c h1 h2 hn hc hb
    obtain ⟨a1, a2, a3, a4⟩ := fl x h1 (by omega)
    obtain ⟨c1, _, _, _⟩ := fl c hc.1 hc.2
    have hn' : -2147483647 ≤ n * D - N * x ∧ n * D - N * x ≤ 2147483647 := by rcases hn with rfl | rfl <;> assumption
    obtain ⟨q1, q2⟩ := abb _ hn'.1 hn'.2
    obtain ⟨q3, q4⟩ := abb _ hb.1 hb.2
    exact ⟨hn', by omega, by omega, pb _ _ q1 q2 hc.1 hc.2, pb _ _ q3 q4 h1 (by omega), a1, c1⟩
  intro g
  induction g with
  | zero =>
    intro k x b c h1 h2 h3 inv hc hb
    obtain ⟨k, rfl⟩ : ∃ m, k = m + 1 := ⟨k - 1, by omega⟩
    simp only [ephemerisref1_FracNear.l0]
    rw [if_neg (by omega)]
    rcases inv with ⟨rfl, rfl⟩ | ⟨h, _⟩
    · rfl
    · omega
  | succ g ih =>
    intro k x b c h1 h2 h3 inv hc hb
    obtain ⟨k, rfl⟩ : ∃ m, k = m + 4 := ⟨k - 4, by omega⟩
    obtain ⟨a1, a2, a3, a4⟩ := fl x h2 (by omega)
    have hx : x ≤ d := by omega
    simp only [ephemerisref1_FracNear.l0]
    rw [if_pos hx, w64_id (n := N * x) (by omega) (by omega), ephemerisref1_Floor_f _ (by omega) (by omega) (by omega) (by omega) (by omega), Option.bind_some, w64_id (n := N * x / D + 1) (by omega) (by omega)]
    -- the second candidate
    have s2 : ∀ b c : Int, ((b = tn ∧ c = td) ∨ ((x < td ∨ (x = td ∧ tn = N * x / D + 1)) ∧ ab (tn * D - N * td) * c < ab (b * D - N * c) * td)) → (1 ≤ c ∧ c ≤ 300) → (-2147483647 ≤ b * D - N * c ∧ b * D - N * c ≤ 2147483647) →
        ephemerisref1_FracNear.l1 (k + 2) d x (N * x / D) (N * x / D + 1) 1 N D b c = some (tn, td) := by
      intro b c inv hc hb
      obtain ⟨z1, z2, z3, z4, z5, z6, z7⟩ := cmpr (N * x / D + 1) x b c h2 hx (.inr rfl) hc hb
      have hs : ephemerisref1_FracNear.l1 (k + 2) d x (N * x / D) (N * x / D + 1) 1 N D b c = ephemerisref1_FracNear.l1 (k + 1 + 1) d x (N * x / D) (N * x / D + 1) 1 N D b c := rfl
      rw [hs, ephemerisref1_FracNear.l1]
      rw [if_pos (by decide), if_neg (by decide), if_pos rfl, w64_id (n := (N * x / D + 1) * D) (by omega) (by omega), w64_id (n := N * x) (by omega) (by omega), w64_id (n := (N * x / D + 1) * D - N * x) (by omega) (by omega), w64_id (n := b * D) (by omega) (by omega), w64_id (n := N * c) (by omega) (by omega), w64_id (n := b * D - N * c) (by omega) (by omega),
        ephemerisref1_Size_f (by omega) (by omega), ephemerisref1_Size_f (by omega) (by omega), Option.bind_some, Option.bind_some]
      obtain ⟨y1, y2⟩ := abb _ z1.1 z1.2
      obtain ⟨y3, y4⟩ := abb _ hb.1 hb.2
      rw [w64_id (n := ab ((N * x / D + 1) * D - N * x)) (by omega) (by omega), w64_id (n := ab (b * D - N * c)) (by omega) (by omega), w64_id (n := ab ((N * x / D + 1) * D - N * x) * c) (by omega) (by omega), w64_id (n := ab (b * D - N * c) * x) (by omega) (by omega), show (1 : Int) + 1 = 2 from rfl]
      obtain ⟨i1, i2⟩ := T3 x (N * x / D + 1) h2 hx (.inr rfl)
      have hlast : ∀ b c : Int, ((b = tn ∧ c = td) ∨ (x + 1 ≤ td ∧ ab (tn * D - N * td) * c < ab (b * D - N * c) * td)) → (1 ≤ c ∧ c ≤ 300) → (-2147483647 ≤ b * D - N * c ∧ b * D - N * c ≤ 2147483647) → ephemerisref1_FracNear.l1 (k + 1) d x (N * x / D) (N * x / D + 1) 2 N D b c = some (tn, td) := by
        intro b c v1 v2 v3; rw [ephemerisref1_FracNear.l1, if_neg (by decide), w64_id (n := x + 1) (by omega) (by omega)]; exact ih k (x + 1) b c (by omega) (by omega) (by omega) v1 v2 v3
      by_cases cc : ab ((N * x / D + 1) * D - N * x) * c < ab (b * D - N * c) * x
      · rw [if_pos cc]
        refine hlast _ _ ?_ (by omega) z1
        rcases inv with ⟨rfl, rfl⟩ | ⟨v, w⟩
        · omega
        · rcases v with v | ⟨v, v'⟩
          · exact .inr ⟨by omega, i2 (.inl v)⟩
          · exact .inl ⟨v'.symm, v⟩
      · rw [if_neg cc]
        refine hlast _ _ ?_ hc hb
        rcases inv with ⟨v, w⟩ | ⟨v, w⟩
        · exact .inl ⟨v, w⟩
        · rcases v with v | ⟨v, v'⟩
          · exact .inr ⟨by omega, w⟩
          · exfalso; rw [← v', v] at cc; exact cc w
    obtain ⟨z1, z2, z3, z4, z5, z6, z7⟩ := cmpr (N * x / D) x b c h2 hx (.inl rfl) hc hb
    have hs : ∀ b c, ephemerisref1_FracNear.l1 (k + 3) d x (N * x / D) (N * x / D + 1) 0 N D b c = ephemerisref1_FracNear.l1 (k + 2 + 1) d x (N * x / D) (N * x / D + 1) 0 N D b c := fun _ _ => rfl
    rw [hs]
    rw [ephemerisref1_FracNear.l1]
    rw [if_pos (by decide), if_pos rfl, w64_id (n := N * x / D * D) (by omega) (by omega), w64_id (n := N * x) (by omega) (by omega), w64_id (n := N * x / D * D - N * x) (by omega) (by omega), w64_id (n := b * D) (by omega) (by omega), w64_id (n := N * c) (by omega) (by omega), w64_id (n := b * D - N * c) (by omega) (by omega),
      ephemerisref1_Size_f (by omega) (by omega), ephemerisref1_Size_f (by omega) (by omega), Option.bind_some, Option.bind_some]
    obtain ⟨y1, y2⟩ := abb _ z1.1 z1.2
    obtain ⟨y3, y4⟩ := abb _ hb.1 hb.2
    rw [w64_id (n := ab (N * x / D * D - N * x)) (by omega) (by omega), w64_id (n := ab (b * D - N * c)) (by omega) (by omega), w64_id (n := ab (N * x / D * D - N * x) * c) (by omega) (by omega), w64_id (n := ab (b * D - N * c) * x) (by omega) (by omega), show (0 : Int) + 1 = 1 from rfl]
    obtain ⟨i1, i2⟩ := T3 x (N * x / D) h2 hx (.inl rfl)
    by_cases cc : ab (N * x / D * D - N * x) * c < ab (b * D - N * c) * x
    · rw [if_pos cc]
      refine s2 _ _ ?_ (by omega) z1
      rcases inv with ⟨rfl, rfl⟩ | ⟨v, w⟩
      · omega
      · by_cases hxt : x = td
        · rcases T2 with t | t
          · exact .inl ⟨by rw [hxt]; exact t.symm, hxt⟩
          · exact .inr ⟨.inr ⟨hxt, by rw [hxt]; exact t⟩, i2 (.inr ⟨hxt, by rw [t, hxt]; omega⟩)⟩
        · exact .inr ⟨.inl (by omega), i2 (.inl (by omega))⟩
    · rw [if_neg cc]
      refine s2 _ _ ?_ hc hb
      rcases inv with ⟨v, w⟩ | ⟨v, w⟩
      · exact .inl ⟨v, w⟩
      · by_cases hxt : x = td
        · rcases T2 with t | t
          · exfalso; rw [hxt, ← t] at cc; exact cc w
          · exact .inr ⟨.inr ⟨hxt, by rw [hxt]; exact t⟩, w⟩
        · exact .inr ⟨.inl (by omega), w⟩
theorem ephemerisref1_FracNear_f {N D d tn td : Int} (hd0 : 1 ≤ d ∧ d ≤ 300) (hD : 1 ≤ D ∧ D ≤ 2147483647) (hN : -2147483647 ≤ N ∧ N ≤ 2147483647) (T : Tgt N D d tn td) (k : Nat) (hk : 2000 ≤ k) : ephemerisref1_FracNear.f k N D d = some (tn, td) := by
  unfold ephemerisref1_FracNear.f
  rw [ephemerisref1_Floor_f _ (by omega) (by omega) (by omega) (by omega) (by omega), Option.bind_some]
  have h1 : D * (N / D) + N % D = N := Int.mul_ediv_add_emod N D
  have m1 := Int.emod_nonneg N (show D ≠ 0 by omega)
  have m2 := Int.emod_lt_of_pos N (show 0 < D by omega)
  rw [Int.mul_comm D] at h1
  refine FracNear_l0 hd0 hD hN T d.toNat k 1 (N / D) 1 (by omega) (by omega) (by omega) ?_ (by omega) (by rw [Int.mul_one]; omega)
  obtain ⟨T1, T2, T3⟩ := T
  obtain ⟨i1, i2⟩ := T3 1 (N * 1 / D) (by omega) (by omega) (.inl rfl)
  rw [Int.mul_one N] at i1 i2
  by_cases h : N / D = tn ∧ 1 = td
  · exact .inl ⟨h.1, h.2⟩
  · have pos : 1 < td ∨ (1 = td ∧ N / D < tn) := by
      by_cases h2 : 1 = td
      · refine .inr ⟨h2, ?_⟩
        subst h2
        rw [Int.mul_one] at T2
        rcases T2 with t | t <;> omega
      · exact .inl (by omega)
    have i3 := i2 pos
    exact .inr ⟨by omega, by rw [Int.mul_one N]; exact i3⟩

theorem tgt_uniq {N D d a b a' b' : Int} (h : Tgt N D d a b) (h' : Tgt N D d a' b') : a = a' ∧ b = b' := by
  obtain ⟨h1, h2, h3⟩ := h
  obtain ⟨g1, g2, g3⟩ := h'
  obtain ⟨x1, x2⟩ := h3 b' a' g1.1 g1.2 g2
  obtain ⟨y1, y2⟩ := g3 b a h1.1 h1.2 h2
  by_cases hb : b = b'
  · refine ⟨?_, hb⟩
    rcases Int.lt_trichotomy a a' with h | h | h
    · have := y2 (.inr ⟨hb, h⟩); omega
    · exact h
    · have := x2 (.inr ⟨hb.symm, h⟩); omega
  · exfalso
    rcases Int.lt_or_gt_of_ne hb with h | h
    · have := y2 (.inl h); omega
    · have := x2 (.inl h); omega
theorem FracNears : ephemerislaw1_FracNears.Pure := by
  intro N D d _ _ hd
  have hd := wf_i64 hd
  obtain ⟨K, hK⟩ : ∃ K : Nat, 100000000000000000010 ≤ K := ⟨_, Nat.le_refl _⟩
  refine ⟨K + 3, ?_⟩
  unfold ephemerislaw1_FracNears.f
  have e0 : frac_Near.f (K + 3) 355 113 10 = some (22, 7, 0) := by
    have t : Tgt 355 113 10 22 7 := by
      refine ⟨by decide, .inr (by decide), ?_⟩
      intro k n hk hk2 hn
      have : k = 1 ∨ k = 2 ∨ k = 3 ∨ k = 4 ∨ k = 5 ∨ k = 6 ∨ k = 7 ∨ k = 8 ∨ k = 9 ∨ k = 10 := by omega
      rcases this with rfl | rfl | rfl | rfl | rfl | rfl | rfl | rfl | rfl | rfl <;> rcases hn with rfl | rfl <;> decide
    rcases frac_Near_f (N := 355) (D := 113) (d := 10) (K + 3) (by omega) (.inl (by decide)) with ⟨h, _⟩ | ⟨_, ⟨h, _⟩ | ⟨_, tn, td, h, e⟩⟩
    · exact absurd h (by decide)
    · exact absurd (by decide) h
    · obtain ⟨rfl, rfl⟩ := tgt_uniq h t
      exact e
  have hj2 : ∀ x : Int, x ≤ 300 ∨ 2147483647 < x → ∀ k : Nat, 100000000000000000005 ≤ k → ephemerislaw1_FracNears.j2 k x N D = some true := by
    intro x hx k hk
    obtain ⟨k, rfl⟩ : ∃ m, k = m + 1 := ⟨k - 1, by omega⟩
    simp only [ephemerislaw1_FracNears.j2]
    rw [ephemerisref1_FracOK_f k (by omega)]
    rcases frac_Near_f (N := N) (D := D) (d := x) k (by omega) hx with ⟨h, e⟩ | ⟨h, hr⟩
    · rw [e, h, Option.bind_some, Option.bind_some]; simp
    · rcases hr with ⟨h1, e⟩ | ⟨h1, tn, td, t, e⟩
      · rw [e, h, Option.bind_some, Option.bind_some, if_pos rfl, ephemerisref1_In_f, Option.bind_some, if_neg (by simpa using h1)]; simp
      · have hf := of_decide_eq_true (show decide ((1 ≤ D ∧ D ≤ 2147483647) ∧ (-2147483647 ≤ N ∧ N ≤ 2147483647) ∧ Int.gcd N D = 1) = true from h)
        rw [e, h, Option.bind_some, Option.bind_some, if_pos rfl, ephemerisref1_In_f, Option.bind_some, if_pos (decide_eq_true h1), if_pos rfl, ephemerisref1_FracNear_f (by omega) hf.1 hf.2.1 t k (by omega), Option.bind_some]; simp
  rw [e0, Option.bind_some]
  simp only [beq_self_eq_true, Bool.not_true, Bool.or_self, Bool.false_eq_true, if_false, bne_self_eq_false, ephemerislaw1_FracNears.j0]
  by_cases c : d > 300
  · rw [if_pos c]
    simp only [ephemerislaw1_FracNears.j1]
    by_cases c2 : d ≤ 2147483647
    · have ht : Int.tmod d 300 = d % 300 := Int.tmod_eq_emod_of_nonneg (by omega)
      rw [if_pos (decide_eq_true c2), ht, w64_id (n := d % 300 + 1) (by omega) (by omega)]
      exact hj2 _ (by omega) _ (by omega)
    · rw [if_neg (by simpa using c2)]
      exact hj2 _ (by omega) _ (by omega)
  · rw [if_neg c]
    simp only [ephemerislaw1_FracNears.j1, Bool.false_eq_true, if_false]
    exact hj2 _ (by omega) _ (by omega)
end Go.Proofs.Yteogcbhlilechaa.Pure
