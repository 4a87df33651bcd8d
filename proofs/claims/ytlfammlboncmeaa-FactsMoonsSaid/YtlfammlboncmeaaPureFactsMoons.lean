/- The law FactsMoons over numbers and lists: what the law's functions tell, and that the law holds. -/
import Derived.Test.YtlfammlboncmeaaPFactsMoonsx8
import Derived.Test.YtlfammlboncmeaaM
namespace Go.Proofs.Ytlfammlboncmeaa.Pure
open Go.RowKit Go.Proofs.Ytlfammlboncmeaa.PFactsMoons Go.Proofs.YtlfammlboncmeaaW.PrintWords Go.Proofs.YtlfammlboncmeaaW.PrintLast Go.Proofs.Ytlfammlboncmeaa.M
set_option linter.unusedVariables false
set_option linter.unusedSimpArgs false
theorem ephemerisref1_In_f (x lo hi : Int) : ephemerisref1_In.f x lo hi = some (decide (lo ≤ x ∧ x ≤ hi)) := by
  unfold ephemerisref1_In.f
  by_cases h : x ≥ lo
  · rw [if_pos h]; congr 1; simp; omega
  · rw [if_neg h]; congr 1; simp; omega

theorem whole_Div_f {a b : Int} (k : Nat) (hk : 1 ≤ k) (ha : -9223372036854775808 ≤ a) (ha1 : a ≤ 9223372036854775807) (hb : -9223372036854775808 ≤ b) (hb1 : b ≤ 9223372036854775807) : whole_Div.f k a b = some (divs a b) := by
  obtain ⟨k, rfl⟩ : ∃ m, k = m + 1 := ⟨k - 1, by omega⟩
  unfold whole_Div.f divs
  by_cases c : b = 0
  · rw [if_pos c, if_pos c]
  rw [if_neg c, if_neg c]
  by_cases d : a = -9223372036854775808 ∧ b = -1
  · rw [if_pos d.1, if_pos d, d.2]; simp [whole_Div.j0]
  have e : (if a = (-9223372036854775808) then (whole_Div.j0 (k + 1) a b (b == (-1))) else (whole_Div.j0 (k + 1) a b false)) = whole_Div.j0 (k + 1) a b false := by
    by_cases c1 : a = -9223372036854775808
    · rw [if_pos c1, show (b == -1) = false from beq_eq_false_iff_ne.2 (fun h => d ⟨c1, h⟩)]
    · rw [if_neg c1]
  rw [e, if_neg d]
  simp only [whole_Div.j0, Bool.false_eq_true, if_false]
  rw [if_neg c]
  obtain ⟨b1, b2⟩ := tdiv_bound a b c ha ha1 d
  obtain ⟨g1, g2, g3⟩ := fd_of_t a b c
  obtain ⟨t0, t1, t2, t3, t4⟩ := tdm a b c
  rw [w64_id b1 b2]
  by_cases hz : Int.tmod a b = 0
  · rw [if_pos hz, (g1 hz).1, (g1 hz).2, hz]
  · rw [if_neg hz]
    cases hs : (decide (Int.tmod a b < 0) != decide (b < 0)) with
    | true =>
      have hq : fd a b = Int.tdiv a b - 1 := (g2 hz hs).1
      have hfs := fd_spec a b c
      have hlow : -9223372036854775808 ≤ Int.tdiv a b - 1 := by
        by_cases hm : Int.tdiv a b = -9223372036854775808
        · exfalso
          have h9 : (Int.tdiv a b).natAbs = a.natAbs / b.natAbs := Int.natAbs_tdiv a b
          rw [hm] at h9
          have h10 : a.natAbs / b.natAbs ≤ a.natAbs := Nat.div_le_self _ _
          by_cases hb2 : b.natAbs = 1
          · have : b = 1 ∨ b = -1 := by omega
            rcases this with rfl | rfl
            · exact hz (by rw [Int.tmod_one])
            · exact hz (by rw [Int.tmod_neg, Int.tmod_one])
          · have : a.natAbs / b.natAbs ≤ a.natAbs / 2 := Nat.div_le_div_left (by omega) (by omega)
            omega
        · omega
      have hss : (Int.tmod a b < 0 ∧ 0 < b) ∨ (0 < Int.tmod a b ∧ b < 0) := by
        by_cases hx : Int.tmod a b < 0 <;> by_cases hy : b < 0 <;> simp [hx, hy] at hs
        · exact .inl ⟨hx, by omega⟩
        · exact .inr ⟨by omega, hy⟩
      simp only [if_true]
      rw [(g2 hz hs).1, (g2 hz hs).2, w64_id hlow (by omega), w64_id (n := Int.tmod a b + b) (by omega) (by omega)]
    | false =>
      simp only [Bool.false_eq_true, if_false]
      rw [(g3 hz hs).1, (g3 hz hs).2]

theorem interval_Floor_f (a : Int) {b : Int} (h : b ≠ 0) : ∃ r, interval_Floor.f a b = some r := by
  unfold interval_Floor.f
  rw [if_neg h]
  repeat' split
  all_goals exact ⟨_, rfl⟩

theorem series_Reduced_f (a b : Int) : ∃ r, series_Reduced.f a b = some r := by
  obtain ⟨t, ht⟩ := interval_Floor_f a (b := 1000000000) (by decide)
  unfold series_Reduced.f
  rw [ht]
  exact ⟨_, rfl⟩

theorem ephemerisref1_Size_f {a : Int} (h0 : -9223372036854775808 ≤ a) (h1 : a ≤ 9223372036854775807) : ephemerisref1_Size.f a = some (ab a) := by
  unfold ephemerisref1_Size.f ab
  by_cases c : a < 0
  · rw [if_pos c, if_pos c, w64_id (n := a + 1) (by omega) (by omega), w64_id (n := -(a + 1)) (by omega) (by omega), u64_id (n := -(a + 1)) (by omega) (by omega), u64_id (by omega) (by omega)]
    congr 1; omega
  · rw [if_neg c, if_neg c, u64_id (by omega) (by omega)]

theorem ephemerisref1_Div_l0 (X Y : Int) (hX : 0 ≤ X) (hX1 : X < 18446744073709551616) (hY : 0 < Y) (hY1 : Y ≤ 9223372036854775808) :
    ∀ (n k : Nat), n ≤ 64 → n < k → ephemerisref1_Div.l0 k X Y (X / 2 ^ n / Y * 2 ^ n) (X / 2 ^ n % Y) ((n : Int) - 1) = some (X / Y, X % Y) := by
  intro n
  induction n with
  | zero =>
    intro k _ hk
    obtain ⟨k, rfl⟩ : ∃ m, k = m + 1 := ⟨k - 1, by omega⟩
    simp only [ephemerisref1_Div.l0]
    rw [if_neg (by omega)]
    simp
  | succ n ih =>
    intro k hn hk
    obtain ⟨k, rfl⟩ : ∃ m, k = m + 1 := ⟨k - 1, by omega⟩
    have ih := ih k (by omega) (by omega)
    have hhp := half_pow X n
    have hpow : (2 : Int) ^ (n + 1) = 2 * 2 ^ n := by rw [Int.pow_succ, Int.mul_comm]
    have hpp := pow_pos' n
    have hp63 := pow_le_63 n (by omega)
    have hd1 := div_pow_le X Y (n + 1) hX hY
    have hd0 := div_pow_le X Y n hX hY
    have hz : 0 ≤ X / 2 ^ n := Int.ediv_nonneg hX (by omega)
    obtain ⟨s1, s2⟩ := long_step (X / 2 ^ n) Y hz hY
    rw [← hhp] at s1 s2
    have r0 := Int.emod_nonneg (X / 2 ^ (n + 1)) (b := Y) (by omega)
    have r1 := Int.emod_lt_of_pos (X / 2 ^ (n + 1)) hY
    have hshr : shr .u64 X ((n : Int) + 1 - 1) = X / 2 ^ n := by
      rw [show (n : Int) + 1 - 1 = n from by omega]; exact shr_pow X n (by omega)
    have hshl : shl .u64 1 ((n : Int) + 1 - 1) = 2 ^ n := by
      rw [show (n : Int) + 1 - 1 = n from by omega]; exact shl_one n (by omega)
    have hzx : X / 2 ^ n ≤ X := Int.ediv_le_self _ hX
    have hmod : (X / 2 ^ (n + 1) / Y * 2 ^ (n + 1)) % 2 ^ (n + 1) = 0 := Int.mul_emod_left _ _
    have hor : Go.bits .or .u64 (X / 2 ^ (n + 1) / Y * 2 ^ (n + 1)) (2 ^ n) = X / 2 ^ (n + 1) / Y * 2 ^ (n + 1) + 2 ^ n :=
      or_join (n + 1) _ _ hd1.1 (by omega) hmod (by omega) (by omega) (by omega)
    have q2 : X / 2 ^ (n + 1) / Y * 2 ^ (n + 1) = 2 * (X / 2 ^ (n + 1) / Y) * 2 ^ n := by
      rw [hpow, Int.mul_comm 2 (X / (2 * 2 ^ n) / Y), Int.mul_assoc]
    generalize hR : X / 2 ^ (n + 1) % Y = R at *
    generalize hQ : X / 2 ^ (n + 1) / Y * 2 ^ (n + 1) = Q at *
    simp only [ephemerisref1_Div.l0]
    rw [show (((n + 1 : Nat) : Int) - 1) = (n : Int) + 1 - 1 from by omega]
    rw [if_pos (by omega), hshr, hshl, hor, w64_id (n := (n : Int) + 1 - 1 - 1) (by omega) (by omega), show (n : Int) + 1 - 1 - 1 = (n : Int) - 1 from by omega]
    rw [and_one _ hz (by omega), u64_id (n := R * 2) (by omega) (by omega)]
    have hbit := Int.emod_nonneg (X / 2 ^ n) (b := 2) (by omega)
    have hbit1 := Int.emod_lt_of_pos (X / 2 ^ n) (b := 2) (by omega)
    rw [or_join 1 (R * 2) _ (by omega) (by omega) (by simp only [Int.reducePow]; omega) hbit (by simp only [Int.reducePow]; omega) (by omega)]
    rw [if_neg (by omega)]
    rw [show R * 2 + X / 2 ^ n % 2 = 2 * R + X / 2 ^ n % 2 from by omega]
    by_cases c : Y ≤ 2 * R + X / 2 ^ n % 2
    · rw [if_pos c, u64_id (by omega) (by omega)]
      have e := s1 c
      rw [e.1, e.2, Int.add_mul, Int.one_mul, ← q2] at ih
      exact ih
    · rw [if_neg c]
      have e := s2 c
      rw [e.1, e.2, ← q2] at ih
      exact ih
theorem ephemerisref1_Div_f {a b : Int} (k : Nat) (hk : 65 ≤ k) (ha : -9223372036854775808 ≤ a) (ha1 : a ≤ 9223372036854775807) (hb : -9223372036854775808 ≤ b) (hb1 : b ≤ 9223372036854775807) : ephemerisref1_Div.f k a b = some (divs a b) := by
  unfold ephemerisref1_Div.f
  by_cases c : b = 0
  · rw [if_pos c]; unfold divs; rw [if_pos c]
  rw [if_neg c, ephemerisref1_Size_f ha ha1, ephemerisref1_Size_f hb hb1]
  simp only [Option.bind_some]
  have hX := ab_nonneg a
  have hX1 := ab_le ha ha1
  have hY1 := ab_le hb hb1
  have hY : 0 < ab b := by unfold ab; split <;> omega
  have h64 := ephemerisref1_Div_l0 (ab a) (ab b) hX (by omega) hY hY1 64 k (by omega) (by omega)
  have hz : ab a / 2 ^ 64 = 0 := Int.ediv_eq_zero_of_lt hX (by simp only [Int.reducePow]; omega)
  rw [hz] at h64
  simp only [Int.zero_ediv, Int.zero_mul, Int.zero_emod] at h64
  rw [show (((64 : Nat) : Int) - 1) = 63 from by omega] at h64
  rw [h64]
  simp only [Option.bind_some, Option.some.injEq]
  have h1 := Int.mul_ediv_add_emod (ab a) (ab b)
  have h2 := Int.emod_nonneg (ab a) (b := ab b) (by omega)
  have h3 := Int.emod_lt_of_pos (ab a) hY
  have h4 : ab a / ab b ≤ ab a := Int.ediv_le_self _ hX
  have h5 : 0 ≤ ab a / ab b := Int.ediv_nonneg hX (by omega)
  have h6 : 2 ≤ ab b → ab a / ab b ≤ 4611686018427387904 := fun h => by
    have : ab a / ab b ≤ ab a / 2 := by
      have := Int.ediv_le_ediv (c := 2) (by omega) (a := ab a / ab b * 2) (b := ab a) (by
        have : ab a / ab b * 2 ≤ ab a / ab b * ab b := Int.mul_le_mul_of_nonneg_left h h5
        rw [Int.mul_comm (ab b)] at h1
        omega)
      omega
    omega
  have h7 : ab b = 1 → ab a / ab b = ab a ∧ ab a % ab b = 0 := fun h => by rw [h]; omega
  have uniq : ∀ {q r : Int}, a = b * q + r → (0 < b → 0 ≤ r ∧ r < b) → (b < 0 → b < r ∧ r ≤ 0) → ¬ (a = -9223372036854775808 ∧ b = -1) → divs a b = (q, r, 0) := by
    intro q r e1 e2 e3 e4
    have := fd_uniq e1 e2 e3 c
    unfold divs
    rw [if_neg c, if_neg e4, this.1, this.2]
  generalize hq : ab a / ab b = q at *
  generalize hr : ab a % ab b = r at *
  clear h64 hz
  have eY : ∀ s : Int, (-(ab b)) * s = -(ab b * s) := fun s => by rw [Int.neg_mul]
  by_cases sa : a < 0 <;> by_cases sb : b < 0
  · have xa : a = -(ab a) := by unfold ab; rw [if_pos sa]; omega
    have xb : b = -(ab b) := by unfold ab; rw [if_pos sb]; omega
    simp only [ephemerisref1_Div.e0, ephemerisref1_Div.e1, sa, sb, decide_true, bne_self_eq_false, Bool.false_eq_true, false_and, if_false, true_and, if_true]
    by_cases c2 : q > 9223372036854775807
    · rw [if_pos c2]
      unfold divs
      have : ab b = 1 := by
        by_cases h : 2 ≤ ab b
        · have := h6 h; omega
        · omega
      rw [if_neg c, if_pos (by omega)]
    · rw [if_neg c2, w64_id (by omega) (by omega), u64_def, w64_def]
      rw [uniq (q := q) (r := -r) (by rw [xb, eY]; omega) (by omega) (by omega) (fun h => by have := h7 (by omega); omega)]
      congr 2; omega
  · have xa : a = -(ab a) := by unfold ab; rw [if_pos sa]; omega
    have xb : b = ab b := by unfold ab; rw [if_neg sb]
    simp only [ephemerisref1_Div.e0, ephemerisref1_Div.e1, sa, sb, decide_true, decide_false, Bool.bne_false, Bool.false_eq_true, true_and, if_true, Bool.true_eq_false, false_and, if_false]
    by_cases c2 : r = 0
    · rw [if_neg (fun h => h c2), u64_def, w64_def, w64_id (by omega) (by omega)]
      rw [uniq (q := -q) (r := 0) (by rw [xb, Int.mul_neg]; omega) (by omega) (by omega) (by omega)]
      rw [c2]
      congr 1; omega
    · rw [if_pos c2, u64_id (n := q + 1) (by omega) (by omega), u64_id (n := ab b - r) (by omega) (by omega), u64_def, w64_def, w64_id (by omega) (by omega)]
      have : q ≤ 9223372036854775807 := by
        by_cases h : 2 ≤ ab b
        · have := h6 h; omega
        · have := h7 (by omega); omega
      have eb : b * q = ab b * q := by rw [← xb]
      rw [uniq (q := -(q + 1)) (r := ab b - r) (by rw [Int.mul_neg, Int.mul_add, Int.mul_one, eb]; omega) (by omega) (by omega) (by omega)]
      congr 1; omega
  · have xa : a = ab a := by unfold ab; rw [if_neg sa]
    have xb : b = -(ab b) := by unfold ab; rw [if_pos sb]; omega
    simp only [ephemerisref1_Div.e0, ephemerisref1_Div.e1, sa, sb, decide_true, decide_false, Bool.bne_true, Bool.not_false, Bool.false_eq_true, true_and, if_true, Bool.true_eq_false, false_and, if_false]
    by_cases c2 : r = 0
    · rw [if_neg (fun h => h c2), u64_def, w64_def, u64_def, w64_def]
      rw [uniq (q := -q) (r := 0) (by rw [xb, eY, Int.mul_neg]; omega) (by omega) (by omega) (by omega)]
      rw [c2]
      congr 1
      omega
    · rw [if_pos c2, u64_id (n := q + 1) (by omega) (by omega), u64_id (n := ab b - r) (by omega) (by omega), u64_def, w64_def, u64_def, w64_def]
      have eb := eY q
      rw [← xb] at eb
      rw [uniq (q := -(q + 1)) (r := -(ab b - r)) (by rw [Int.mul_neg, Int.mul_add, Int.mul_one, eb]; omega) (by omega) (by omega) (by omega)]
      congr 1
      · omega
      · congr 1; omega
  · have xa : a = ab a := by unfold ab; rw [if_neg sa]
    have xb : b = ab b := by unfold ab; rw [if_neg sb]
    simp only [ephemerisref1_Div.e0, ephemerisref1_Div.e1, sa, sb, decide_false, bne_self_eq_false, Bool.false_eq_true, false_and, if_false, true_and]
    rw [if_neg (by omega), w64_id (by omega) (by omega), w64_id (by omega) (by omega)]
    rw [uniq (q := q) (r := r) (by rw [xb]; omega) (by omega) (by omega) (by omega)]

theorem ephemerisref1_Floor_f {a b : Int} (k : Nat) (hk : 65 ≤ k) (ha : -9223372036854775808 ≤ a) (ha1 : a ≤ 9223372036854775807) (hb : 0 < b) (hb1 : b ≤ 9223372036854775807) : ephemerisref1_Floor.f k a b = some (a / b) := by
  unfold ephemerisref1_Floor.f
  rw [ephemerisref1_Div_f k hk ha ha1 (by omega) hb1, divs_pos hb]
  rfl

/-- A function answers. -/
def Tot {α : Type} (o : Option α) : Prop := ∃ r, o = some r
theorem Tot.some {α : Type} (a : α) : Tot (some a) := ⟨a, rfl⟩
theorem Tot.ite {α : Type} {c : Prop} [Decidable c] {a b : Option α} (ha : Tot a) (hb : Tot b) : Tot (if c then a else b) := by split <;> assumption
theorem Tot.bind {α β : Type} {o : Option α} {f : α → Option β} (ho : Tot o) (hf : ∀ x, Tot (f x)) : Tot (o.bind f) := by obtain ⟨r, rfl⟩ := ho; exact hf r
theorem fl_t (a b : Int) (h : b ≠ 0) : Tot (interval_Floor.f a b) := by
  unfold interval_Floor.f
  rw [if_neg h]
  repeat' first | exact Tot.some _ | refine Tot.ite ?_ ?_
theorem red_t (a b : Int) : Tot (series_Reduced.f a b) := Tot.bind (fl_t _ _ (by decide)) fun _ => Tot.some _
theorem turned_t (k : Nat) (a b : Int) (hk : 1 ≤ k) : Tot (series_Turned.f k a b) := by
  obtain ⟨k, rfl⟩ : ∃ q, k = q + 1 := ⟨k - 1, by omega⟩
  unfold series_Turned.f
  refine Tot.bind (fl_t _ _ (by decide)) fun _ => Tot.bind (fl_t _ _ (by decide)) fun _ => Tot.ite ?_ ?_
  all_goals
    simp only [series_Turned.j0]
    repeat' first | exact Tot.some _ | refine Tot.ite ?_ ?_ | refine Tot.bind (fl_t _ _ (by decide)) (fun _ => ?_)
theorem mul_t (a b : Int) : Tot (trig_mul.f a b) := Tot.some _
theorem oct_t : ∀ (m : Nat) (k : Nat) (x5 x6 x7 x8 x9 : Int), m ≤ 9 → m + 1 ≤ k → Tot (trig_octant.l0 k x5 x6 x7 x8 x9 (10 - (m : Int))) := by
  intro m
  induction m with
  | zero =>
    intro k x5 x6 x7 x8 x9 _ hk
    obtain ⟨k, rfl⟩ : ∃ q, k = q + 1 := ⟨k - 1, by omega⟩
    simp only [trig_octant.l0]
    rw [if_neg (by decide)]
    exact Tot.some _
  | succ m ih =>
    intro k x5 x6 x7 x8 x9 hm hk
    obtain ⟨k, rfl⟩ : ∃ q, k = q + 1 := ⟨k - 1, by omega⟩
    have hs : wrap64 (10 - ((m + 1 : Nat) : Int) + 1) = 10 - (m : Int) := by
      rcases (by omega : m = 0 ∨ m = 1 ∨ m = 2 ∨ m = 3 ∨ m = 4 ∨ m = 5 ∨ m = 6 ∨ m = 7 ∨ m = 8) with rfl | rfl | rfl | rfl | rfl | rfl | rfl | rfl | rfl <;> decide +kernel
    have h1 : ¬ wrap64 ((wrap64 ((wrap64 ((wrap64 (2 * (10 - ((m + 1 : Nat) : Int)))) - 1)) * 2)) * (10 - ((m + 1 : Nat) : Int))) = 0 := by
      rcases (by omega : m = 0 ∨ m = 1 ∨ m = 2 ∨ m = 3 ∨ m = 4 ∨ m = 5 ∨ m = 6 ∨ m = 7 ∨ m = 8) with rfl | rfl | rfl | rfl | rfl | rfl | rfl | rfl | rfl <;> decide +kernel
    have h2 : ¬ wrap64 ((wrap64 (2 * (10 - ((m + 1 : Nat) : Int)))) * (wrap64 ((wrap64 (2 * (10 - ((m + 1 : Nat) : Int)))) + 1))) = 0 := by
      rcases (by omega : m = 0 ∨ m = 1 ∨ m = 2 ∨ m = 3 ∨ m = 4 ∨ m = 5 ∨ m = 6 ∨ m = 7 ∨ m = 8) with rfl | rfl | rfl | rfl | rfl | rfl | rfl | rfl | rfl <;> decide +kernel
    simp only [trig_octant.l0]
    rw [if_pos (by omega)]
    refine Tot.bind (mul_t _ _) fun _ => ?_
    rw [if_neg h1]
    refine Tot.bind (mul_t _ _) fun _ => ?_
    rw [if_neg h2, hs]
    exact Tot.ite (ih _ _ _ _ _ _ (by omega) (by omega)) (ih _ _ _ _ _ _ (by omega) (by omega))
theorem octant_t (k : Nat) (a : Int) (hk : 10 ≤ k) : Tot (trig_octant.f k a) := Tot.bind (mul_t _ _) fun _ => oct_t 9 k _ _ _ _ _ (by omega) (by omega)
theorem sin_t (k : Nat) (a : Int) (hk : 10 ≤ k) : Tot (trig_Sin.f k a) := by
  have hj : ∀ x y z : Int, Tot (trig_Sin.j0 k x y z) := by
    intro x y z
    obtain ⟨k, rfl⟩ : ∃ q, k = q + 1 := ⟨k - 1, by omega⟩
    simp only [trig_Sin.j0]
    repeat' first | exact Tot.some _ | refine Tot.ite ?_ ?_ | refine Tot.bind (Tot.some _) (fun _ => ?_)
  unfold trig_Sin.f
  refine Tot.bind (by unfold trig_out.f; exact Tot.ite (Tot.some _) (Tot.some _)) fun _ => Tot.ite (Tot.some _) (Tot.bind (Tot.bind (fl_t _ _ (by decide)) fun _ => Tot.some _) fun _ => Tot.ite (Tot.bind (octant_t k _ hk) fun _ => hj _ _ _) (Tot.bind (octant_t k _ hk) fun _ => hj _ _ _))
theorem passes_t (a b c : Int) : Tot (trig_passes.f a b c) := Tot.bind (fl_t _ _ (by decide)) fun _ => Tot.some _
theorem check_t (k : Nat) (a b : Int) (hk : 1 ≤ k) : Tot (interval_Check.f k a b) := by
  obtain ⟨k, rfl⟩ : ∃ q, k = q + 1 := ⟨k - 1, by omega⟩
  have ho : ∀ x, Tot (interval_out.f x) := fun x => by unfold interval_out.f; exact Tot.ite (Tot.some _) (Tot.some _)
  have hj : ∀ b x y, Tot (interval_Check.j0 (k + 1) b x y) := fun b x y => by
    simp only [interval_Check.j0]
    repeat' first | exact Tot.some _ | refine Tot.ite ?_ ?_
  unfold interval_Check.f
  exact Tot.bind (ho _) fun _ => Tot.ite (hj _ _ _) (Tot.bind (ho _) fun _ => hj _ _ _)
theorem sinOver_t (k : Nat) (a b : Int) (hk : 10 ≤ k) : Tot (trig_SinOver.f k a b) := by
  unfold trig_SinOver.f
  refine Tot.bind (check_t k _ _ (by omega)) fun _ => Tot.ite (Tot.bind (sin_t k _ hk) fun _ => Tot.bind (sin_t k _ hk) fun _ => Tot.bind (passes_t _ _ _) fun _ => Tot.ite (Tot.bind (passes_t _ _ _) fun _ => ?_) (Tot.bind (passes_t _ _ _) fun _ => ?_)) (Tot.some _)
  all_goals exact Tot.ite (Tot.some _) (Tot.some _)
theorem part_t (k : Nat) (a b c : Int) (hc : c ≠ 0) (hk : 1 ≤ k) : Tot (interval_part.f k a b c) := by
  obtain ⟨k, rfl⟩ : ∃ q, k = q + 1 := ⟨k - 1, by omega⟩
  have ho : ∀ x, Tot (interval_out.f x) := fun x => by unfold interval_out.f; exact Tot.ite (Tot.some _) (Tot.some _)
  have hj : ∀ x b, Tot (interval_part.j0 (k + 1) a x c b true) ∧ Tot (interval_part.j0 (k + 1) a x c b false) := fun x b => by
    simp only [interval_part.j0]
    exact ⟨Tot.ite (Tot.some _) (Tot.bind (fl_t _ _ hc) fun _ => Tot.bind (ho _) fun _ => Tot.some _), Tot.ite (Tot.some _) (Tot.bind (fl_t _ _ hc) fun _ => Tot.bind (ho _) fun _ => Tot.some _)⟩
  have hj' : ∀ x b (t : Bool), Tot (interval_part.j0 (k + 1) a x c b t) := fun x b t => by cases t; exact (hj x b).2; exact (hj x b).1
  unfold interval_part.f
  refine Tot.bind (fl_t _ _ hc) fun _ => Tot.ite (hj' _ _ _) (Tot.bind ?_ fun _ => hj' _ _ _)
  unfold interval_abs.f
  exact Tot.ite (Tot.some _) (Tot.some _)
theorem scale_t (k : Nat) (a b c : Int) (hk : 4 ≤ k) : Tot (interval_Scale.f k a b c 1000000000) := by
  obtain ⟨k, rfl⟩ : ∃ q, k = q + 2 := ⟨k - 2, by omega⟩
  have h1 : ∀ x y z, Tot (interval_Scale.j1 (k + 1) x 1000000000 y z) := fun x y z => by
    simp only [interval_Scale.j1]
    exact Tot.bind (part_t k _ _ _ (by decide) (by omega)) fun _ => Tot.bind (part_t k _ _ _ (by decide) (by omega)) fun _ => Tot.ite (Tot.ite (Tot.some _) (Tot.some _)) (Tot.some _)
  have h0 : ∀ x b y z, Tot (interval_Scale.j0 (k + 2) x 1000000000 b y z) := fun x b y z => by
    simp only [interval_Scale.j0]
    exact Tot.ite (Tot.some _) (Tot.ite (h1 _ _ _) (h1 _ _ _))
  unfold interval_Scale.f
  exact Tot.bind (check_t _ _ _ (by omega)) fun _ => Tot.ite (Tot.ite (h0 _ _ _ _) (Tot.ite (h0 _ _ _ _) (Tot.ite (h0 _ _ _ _) (h0 _ _ _ _)))) (Tot.some _)
theorem sumL_t (inst : Int) (l : List S189) (hl : l.length ≤ 40) : ∀ (n k : Nat) (i lo hi : Int), 0 ≤ i → i + n = l.length → n + 12 ≤ k → Tot (series_sum.l0 k inst l l.length i lo hi) := by
  intro n
  induction n with
  | zero =>
    intro k i lo hi h0 h1 hk
    obtain ⟨k, rfl⟩ : ∃ q, k = q + 1 := ⟨k - 1, by omega⟩
    simp only [series_sum.l0]
    rw [if_neg (by omega)]
    exact Tot.some _
  | succ n ih =>
    intro k i lo hi h0 h1 hk
    obtain ⟨k, rfl⟩ : ∃ q, k = q + 1 := ⟨k - 1, by omega⟩
    simp only [series_sum.l0]
    rw [if_pos (by omega), if_pos h0, if_pos (by omega)]
    refine Tot.bind (turned_t k _ _ (by omega)) fun _ => Tot.bind (sinOver_t k _ _ (by omega)) fun _ => Tot.bind (scale_t k _ _ _ (by omega)) fun _ => ?_
    have e : wrap64 (i + 1) = i + 1 := w64_id (by omega) (by omega)
    rw [e]
    exact ih k (i + 1) _ _ (by omega) (by omega) (by omega)
theorem angle_t (k : Nat) (m r : Int) (l : List S189) (e inst : Int) (hl : l.length ≤ 40) (hc : Tot (series_Check.f k m r l e)) (hk : 60 ≤ k) : Tot (series_Angle.f k m r l e inst) := by
  have hv : Tot (series_Valid.f inst) := by unfold series_Valid.f; exact Tot.ite (Tot.some _) (Tot.some _)
  unfold series_Angle.f
  refine Tot.bind ?_ fun _ => Tot.ite (Tot.bind (sumL_t inst l hl l.length k 0 _ _ (by omega) (by omega) (by omega)) fun _ => Tot.bind (turned_t k _ _ (by omega)) fun _ => Tot.bind (red_t _ _) fun _ => Tot.some _) (Tot.some _)
  unfold series_check.f
  exact Tot.bind hc fun _ => Tot.ite (Tot.bind hv fun _ => Tot.ite (Tot.some _) (Tot.some _)) (Tot.some _)
theorem mono_up {α : Type} {f : Nat → Option α} (h : ∀ k, LeO (f k) (f (k + 1))) {k k' : Nat} (hk : k ≤ k') {r : α} (e : f k = some r) : f k' = some r := by
  induction hk with
  | refl => exact e
  | step _ ih => exact h _ _ ih
theorem sign_t (k : Nat) (q a : Int) (hk : 60 ≤ k) : Tot (phase_Sign.f k q a) := by
  have hm : Tot (moon_Longitude.f k a) := by
    unfold moon_Longitude.f moon_Series.f
    rw [Option.bind_some]
    exact Tot.bind (angle_t k _ _ _ _ _ (by decide) ⟨0, mono_up (series_Check.mono _ _ _ _) (k := 20) (by omega) (by kernel_rfl)⟩ hk) fun _ => Tot.some _
  have hs : Tot (sun_Longitude.f k a) := by
    unfold sun_Longitude.f sun_Series.f
    rw [Option.bind_some]
    exact Tot.bind (angle_t k _ _ _ _ _ (by decide) ⟨0, mono_up (series_Check.mono _ _ _ _) (k := 20) (by omega) (by kernel_rfl)⟩ hk) fun _ => Tot.some _
  have ha : ∀ x y z, Tot (series_After.f k x y z) := fun x y z => by
    obtain ⟨k, rfl⟩ : ∃ q, k = q + 1 := ⟨k - 1, by omega⟩
    have hj : ∀ x y b, Tot (series_After.j0 (k + 1) x y b) := fun x y b => by
      simp only [series_After.j0]
      repeat' first | exact Tot.some _ | refine Tot.ite ?_ ?_
    unfold series_After.f
    exact Tot.bind (fl_t _ _ (by decide)) fun _ => Tot.ite (hj _ _ _) (hj _ _ _)
  unfold phase_Sign.f moon_Elongation.f
  exact Tot.bind (Tot.bind hm fun _ => Tot.ite (Tot.bind hs fun _ => Tot.bind (red_t _ _) fun _ => Tot.some _) (Tot.some _)) fun _ => Tot.ite (Tot.bind (ha _ _ _) fun _ => Tot.some _) (Tot.some _)
/-- What Narrow answers lies within. -/
def Within (o : Option (Int × Int × Int)) (lo hi : Int) : Prop := ∃ r, o = some r ∧ (r.2.2 = 0 → lo ≤ r.1 ∧ r.1 ≤ r.2.1 ∧ r.2.1 ≤ hi)
theorem Within.wide {o : Option (Int × Int × Int)} {lo hi lo' hi' : Int} (h : Within o lo' hi') (h1 : lo ≤ lo') (h2 : hi' ≤ hi) : Within o lo hi := by
  obtain ⟨r, e, hr⟩ := h
  exact ⟨r, e, fun h0 => ⟨by have := hr h0; omega, by have := hr h0; omega, by have := hr h0; omega⟩⟩
theorem half {a : Int} (h : 1 < a) : 1 ≤ Int.tdiv a 2 ∧ Int.tdiv a 2 < a ∧ 2 * Int.tdiv a 2 ≤ a := by
  rw [Int.tdiv_eq_ediv_of_nonneg (by omega)]; omega
theorem nar2_t (w q : Int) : ∀ (n k : Nat) (lo hi op : Int), hi - op ≤ n → op ≤ hi → lo ≤ op → n + 70 ≤ k → (-1000000000000000 ≤ lo ∧ lo ≤ 1000000000000000) → (-1000000000000000 ≤ op ∧ hi ≤ 1000000000000000) → Within (series_Narrow.l2 k lo hi w q op) lo hi := by
  intro n
  induction n with
  | zero =>
    intro k lo hi op h1 h2 h2' hk hl ho
    obtain ⟨k, rfl⟩ : ∃ q, k = q + 1 := ⟨k - 1, by omega⟩
    simp only [series_Narrow.l2]
    rw [w64_id (n := hi - op) (by omega) (by omega), if_neg (by omega)]
    split
    · exact ⟨_, rfl, fun h => absurd h (by decide)⟩
    · exact ⟨_, rfl, fun _ => ⟨Int.le_refl _, (by show lo ≤ hi; omega), Int.le_refl _⟩⟩
  | succ n ih =>
    intro k lo hi op h1 h2 h2' hk hl ho
    obtain ⟨k, rfl⟩ : ∃ q, k = q + 1 := ⟨k - 1, by omega⟩
    simp only [series_Narrow.l2]
    rw [w64_id (n := hi - op) (by omega) (by omega)]
    by_cases c : hi - op > 1
    · obtain ⟨d1, d2, d3⟩ := half c
      rw [if_pos c, w64_id (n := Int.tdiv (hi - op) 2) (by omega) (by omega), w64_id (n := op + Int.tdiv (hi - op) 2) (by omega) (by omega)]
      obtain ⟨s, hs⟩ := sign_t k q (op + Int.tdiv (hi - op) 2) (by omega)
      rw [hs, Option.bind_some]
      split
      · exact (ih k lo _ op (by omega) (by omega) h2' (by omega) hl (by omega)).wide (Int.le_refl _) (by omega)
      · exact ih k lo hi _ (by omega) (by omega) (by omega) (by omega) hl (by omega)
    · rw [if_neg c]
      split
      · exact ⟨_, rfl, fun h => absurd h (by decide)⟩
      · exact ⟨_, rfl, fun _ => ⟨Int.le_refl _, (by show lo ≤ hi; omega), Int.le_refl _⟩⟩
theorem nar1_t (w q : Int) : ∀ (n k : Nat) (lo hi mid op : Int), op - lo ≤ n → lo ≤ op → op ≤ mid → mid ≤ hi → n + (hi - mid).toNat + 80 ≤ k → (-1000000000000000 ≤ lo ∧ hi ≤ 1000000000000000) → Within (series_Narrow.l1 k lo hi w q mid op) lo hi := by
  intro n
  induction n with
  | zero =>
    intro k lo hi mid op h1 h2 h3 h4 hk hl
    obtain ⟨k, rfl⟩ : ∃ q, k = q + 1 := ⟨k - 1, by omega⟩
    simp only [series_Narrow.l1]
    rw [w64_id (n := op - lo) (by omega) (by omega), if_neg (by omega)]
    exact nar2_t w q (hi - mid).toNat k lo hi mid (by omega) h4 (by omega) (by omega) (by omega) (by omega)
  | succ n ih =>
    intro k lo hi mid op h1 h2 h3 h4 hk hl
    obtain ⟨k, rfl⟩ : ∃ q, k = q + 1 := ⟨k - 1, by omega⟩
    simp only [series_Narrow.l1]
    rw [w64_id (n := op - lo) (by omega) (by omega)]
    by_cases c : op - lo > 1
    · obtain ⟨d1, d2, d3⟩ := half c
      rw [if_pos c, w64_id (n := Int.tdiv (op - lo) 2) (by omega) (by omega), w64_id (n := lo + Int.tdiv (op - lo) 2) (by omega) (by omega)]
      obtain ⟨s, hs⟩ := sign_t k q (lo + Int.tdiv (op - lo) 2) (by omega)
      rw [hs, Option.bind_some]
      split
      · exact (ih k _ hi mid op (by omega) (by omega) h3 h4 (by omega) (by omega)).wide (by omega) (Int.le_refl _)
      · exact ih k lo hi mid _ (by omega) (by omega) (by omega) h4 (by omega) hl
    · rw [if_neg c]
      exact nar2_t w q (hi - mid).toNat k lo hi mid (by omega) h4 (by omega) (by omega) (by omega) (by omega)
theorem nar0_t (q : Int) : ∀ (n k : Nat) (lo hi : Int), hi - lo ≤ n → lo ≤ hi → 3 * n + 100 ≤ k → (-1000000000000000 ≤ lo ∧ hi ≤ 1000000000000000) → Within (series_Narrow.l0 k lo hi 600000 q) lo hi := by
  intro n
  induction n with
  | zero =>
    intro k lo hi h1 h2 hk hl
    obtain ⟨k, rfl⟩ : ∃ q, k = q + 1 := ⟨k - 1, by omega⟩
    simp only [series_Narrow.l0]
    rw [w64_id (n := hi - lo) (by omega) (by omega), if_neg (by omega)]
    exact ⟨_, rfl, fun _ => ⟨Int.le_refl _, (by show lo ≤ hi; omega), Int.le_refl _⟩⟩
  | succ n ih =>
    intro k lo hi h1 h2 hk hl
    obtain ⟨k, rfl⟩ : ∃ q, k = q + 1 := ⟨k - 1, by omega⟩
    simp only [series_Narrow.l0]
    rw [w64_id (n := hi - lo) (by omega) (by omega)]
    by_cases c : hi - lo > 600000
    · obtain ⟨d1, d2, d3⟩ := half (show 1 < hi - lo by omega)
      rw [if_pos c, w64_id (n := Int.tdiv (hi - lo) 2) (by omega) (by omega), w64_id (n := lo + Int.tdiv (hi - lo) 2) (by omega) (by omega)]
      obtain ⟨s, hs⟩ := sign_t k q (lo + Int.tdiv (hi - lo) 2) (by omega)
      rw [hs, Option.bind_some]
      split
      · exact (ih k _ hi (by omega) (by omega) (by omega) (by omega)).wide (by omega) (Int.le_refl _)
      · split
        · exact (ih k lo _ (by omega) (by omega) (by omega) (by omega)).wide (Int.le_refl _) (by omega)
        · exact nar1_t 600000 q (n + 1) k lo hi _ _ (by omega) (by omega) (Int.le_refl _) (by omega) (by omega) hl
    · rw [if_neg c]
      exact ⟨_, rfl, fun _ => ⟨Int.le_refl _, (by show lo ≤ hi; omega), Int.le_refl _⟩⟩
/-- The mean moment of a phase. -/
def meanOf (n q : Int) : Int := 977949455 + 2551442878 * n + 637860719 * q
theorem find_t (k : Nat) (n q : Int) (hn : -200000 ≤ n ∧ n ≤ 200000) (hq : 0 ≤ q ∧ q ≤ 3) (hk : 2000000000 ≤ k) : Within (phase_Find.f k n q) (meanOf n q - 172800000) (meanOf n q + 172800000) := by
  obtain ⟨k, rfl⟩ : ∃ q, k = q + 2 := ⟨k - 2, by omega⟩
  unfold phase_Find.f
  rw [if_neg (by omega), decide_eq_false (show ¬ q > 3 by omega)]
  simp only [phase_Find.j0]
  rw [if_neg (by decide)]
  have hj : ∀ b, Within (phase_Find.j1 (k + 1) n q b) (meanOf n q - 172800000) (meanOf n q + 172800000) := by
    intro b
    simp only [phase_Find.j1]
    have em : wrap64 ((wrap64 (977949455 + (wrap64 (n * 2551442878)))) + (wrap64 (q * 637860719))) = meanOf n q := by
      unfold meanOf
      rw [w64_id (n := n * 2551442878) (by omega) (by omega), w64_id (n := q * 637860719) (by omega) (by omega), w64_id (n := 977949455 + n * 2551442878) (by omega) (by omega), w64_id (by omega) (by omega)]
      omega
    have hb : -600000000000000 ≤ meanOf n q ∧ meanOf n q ≤ 600000000000000 := by unfold meanOf; omega
    have no : ∀ e : Int, e ≠ 0 → Within (some (0, 0, e)) (meanOf n q - 172800000) (meanOf n q + 172800000) := fun e he => ⟨_, rfl, fun h => absurd h he⟩
    rw [em, w64_id (n := meanOf n q - 172800000) (by omega) (by omega), w64_id (n := meanOf n q + 172800000) (by omega) (by omega)]
    split
    · exact no 3 (by decide)
    · obtain ⟨s, hs⟩ := sign_t k q (meanOf n q - 172800000) (by omega)
      obtain ⟨s', hs'⟩ := sign_t k q (meanOf n q + 172800000) (by omega)
      rw [hs, Option.bind_some]
      split
      · exact no 11 (by decide)
      · rw [hs', Option.bind_some]
        split
        · exact no 11 (by decide)
        · obtain ⟨r, hr, h⟩ := nar0_t q 345600000 k (meanOf n q - 172800000) (meanOf n q + 172800000) (by omega) (by omega) (by omega) (by omega)
          unfold series_Narrow.f
          rw [hr, Option.bind_some]
          exact ⟨_, rfl, h⟩
  split
  · exact hj _
  · exact hj _
/-- What Find tells, at any number of rounds that is large enough. -/
@[irreducible] def fv (n q : Int) : Int × Int × Int := (phase_Find.f 2000000000 n q).getD (0, 0, 1)
theorem fv_eq (k : Nat) (n q : Int) (hn : -200000 ≤ n ∧ n ≤ 200000) (hq : 0 ≤ q ∧ q ≤ 3) (hk : 2000000000 ≤ k) : phase_Find.f k n q = some (fv n q) := by
  obtain ⟨r, hr, _⟩ := find_t 2000000000 n q hn hq (Nat.le_refl _)
  have e : fv n q = r := by unfold fv; rw [hr]; rfl
  rw [e]
  exact mono_up (phase_Find.mono n q) hk hr
theorem fv_in (n q : Int) (hn : -200000 ≤ n ∧ n ≤ 200000) (hq : 0 ≤ q ∧ q ≤ 3) : (fv n q).2.2 = 0 → meanOf n q - 172800000 ≤ (fv n q).1 ∧ (fv n q).1 ≤ (fv n q).2.1 ∧ (fv n q).2.1 ≤ meanOf n q + 172800000 := by
  obtain ⟨r, hr, h⟩ := find_t 2000000000 n q hn hq (Nat.le_refl _)
  have e : fv n q = r := by unfold fv; rw [hr]; rfl
  rw [e]; exact h
def hit (fr n q : Int) : Bool := decide ((fv n q).2.2 = 0) && decide ((fv n q).1 ≥ fr) && decide ((fv n q).2.1 < fr + 86400000)
/-- The quarters of a lunation from 4 - j on. -/
def sq (fr n : Int) : Nat → Option Int
  | 0 => none
  | j + 1 => if hit fr n (3 - (j : Int)) = true then some (4 - (j : Int)) else sq fr n j
/-- The lunations from n on. -/
def sn (fr : Int) : Nat → Int → Int
  | 0, _ => 0
  | j + 1, n => match sq fr n 4 with | some r => r | none => sn fr j (n + 1)
theorem hit_ite {α : Type} (fr n q : Int) (a b : α) (x y : Int) (hx : x = fr) (hy : y = fr + 86400000) : (if (fv n q).2.2 = 0 then (if (fv n q).1 ≥ x then (if (fv n q).2.1 < y then a else b) else b) else b) = if hit fr n q = true then a else b := by
  subst hx hy
  unfold hit
  by_cases h1 : (fv n q).2.2 = 0
  · by_cases h2 : (fv n q).1 ≥ x
    · by_cases h3 : (fv n q).2.1 < x + 86400000 <;> simp [h1, h2, h3]
    · simp [h1, h2]
  · simp [h1]
/-- A phase that is far away is no hit. -/
theorem far_hit (fr n q : Int) (hn : -200000 ≤ n ∧ n ≤ 200000) (hq : 0 ≤ q ∧ q ≤ 3) (h : meanOf n q + 172800000 < fr ∨ fr + 86400000 ≤ meanOf n q - 172800000) : hit fr n q = false := by
  cases e : hit fr n q with
  | false => rfl
  | true =>
    exfalso
    unfold hit at e
    simp only [Bool.and_eq_true, decide_eq_true_eq] at e
    obtain ⟨⟨h1, h2⟩, h3⟩ := e
    have h4 := fv_in n q hn hq h1
    omega
theorem sq_none (fr n : Int) (hn : -200000 ≤ n ∧ n ≤ 200000) : ∀ j : Nat, j ≤ 4 → (∀ q : Int, 0 ≤ q → q ≤ 3 → hit fr n q = false) → sq fr n j = none := by
  intro j
  induction j with
  | zero => intro _ _; rfl
  | succ j ih =>
    intro hj h
    unfold sq
    rw [h _ (by omega) (by omega), if_neg (by decide)]
    exact ih (by omega) h
/-- The reference's loops. -/
theorem ref_l1 (fr t n : Int) (hn : -200000 ≤ n ∧ n ≤ 200000) (hf : -1000000000000000 ≤ fr ∧ fr ≤ 1000000000000000) : ∀ (j k : Nat), j ≤ 4 → 2000000010 ≤ k → ephemerislaw1_moonOf.l1 (k + j + 1) fr t n (4 - (j : Int)) = match sq fr n j with | some r => some r | none => ephemerislaw1_moonOf.l0 k fr t (n + 1) := by
  intro j
  induction j with
  | zero =>
    intro k _ hk
    simp only [ephemerislaw1_moonOf.l1, sq]
    rw [if_neg (by decide), w64_id (n := n + 1) (by omega) (by omega)]
  | succ j ih =>
    intro k hj hk
    have e : wrap64 (4 - ((j + 1 : Nat) : Int) + 1) = 4 - (j : Int) := by rw [w64_id (by omega) (by omega)]; omega
    have e' : 4 - ((j + 1 : Nat) : Int) = 3 - (j : Int) := by omega
    simp only [ephemerislaw1_moonOf.l1]
    rw [if_pos (by omega), fv_eq _ n _ hn (by omega) (by omega), Option.bind_some, e, e', hit_ite fr n _ _ _ _ _ rfl (w64_id (by omega) (by omega))]
    unfold sq
    by_cases h : hit fr n (3 - (j : Int)) = true
    · rw [if_pos h, if_pos h]
    · rw [if_neg h, if_neg h]
      exact ih k (by omega) hk
/-- The code's loops. -/
theorem moon_l1 (fr t n : Int) (hn : -200000 ≤ n ∧ n ≤ 200000) (hf : -1000000000000000 ≤ fr ∧ fr ≤ 1000000000000000) : ∀ (j k : Nat), j ≤ 4 → 2000000010 ≤ k → facts_Moon.l1 (k + 2 * j + 1) fr (fr + 86400000) t n (4 - (j : Int)) = match sq fr n j with | some r => some (r, 0) | none => facts_Moon.l0 k fr (fr + 86400000) t (n + 1) := by
  intro j
  induction j with
  | zero =>
    intro k _ hk
    simp only [facts_Moon.l1, sq]
    rw [if_neg (by decide), w64_id (n := n + 1) (by omega) (by omega)]
  | succ j ih =>
    intro k hj hk
    have e : wrap64 (4 - ((j + 1 : Nat) : Int) + 1) = 4 - (j : Int) := by rw [w64_id (by omega) (by omega)]; omega
    have e' : 4 - ((j + 1 : Nat) : Int) = 3 - (j : Int) := by omega
    have em : wrap64 ((wrap64 (977949455 + (wrap64 (2551442878 * n)))) + (wrap64 (637860719 * (4 - ((j + 1 : Nat) : Int))))) = meanOf n (3 - (j : Int)) := by
      unfold meanOf
      rw [w64_id (n := 2551442878 * n) (by omega) (by omega), e', w64_id (n := 637860719 * (3 - (j : Int))) (by omega) (by omega), w64_id (n := 977949455 + 2551442878 * n) (by omega) (by omega), w64_id (by omega) (by omega)]
    have hj3 : ∀ b : Bool, (b = true → hit fr n (3 - (j : Int)) = false) → facts_Moon.j3 (k + 2 * j + 1 + 1) fr (fr + 86400000) t n (4 - ((j + 1 : Nat) : Int)) (4 - ((j + 1 : Nat) : Int)) b = match sq fr n (j + 1) with | some r => some (r, 0) | none => facts_Moon.l0 k fr (fr + 86400000) t (n + 1) := by
      intro b hb
      simp only [facts_Moon.j3]
      unfold sq
      by_cases c : b = true
      · rw [if_pos c, hb c, if_neg (by decide), e]
        exact ih k (by omega) hk
      · rw [if_neg c, fv_eq _ n _ hn (by omega) (by omega), Option.bind_some, e, e', hit_ite fr n _ _ _ _ _ rfl rfl]
        by_cases h : hit fr n (3 - (j : Int)) = true
        · rw [if_pos h, if_pos h]
        · rw [if_neg h, if_neg h]
          exact ih k (by omega) hk
    rw [show k + 2 * (j + 1) + 1 = (k + 2 * j + 1 + 1) + 1 from by omega]
    conv => lhs; unfold facts_Moon.l1
    rw [if_pos (by omega), em, w64_id (n := fr - 259200000) (by omega) (by omega), w64_id (n := fr + 86400000 + 259200000) (by omega) (by omega)]
    split
    · exact hj3 true fun _ => far_hit fr n _ hn (by omega) (.inl (by omega))
    · refine hj3 _ fun h => far_hit fr n _ hn (by omega) (.inr ?_)
      have := of_decide_eq_true h
      omega
theorem ref_l0 (fr t : Int) (ht : -100000 ≤ t ∧ t ≤ 100000) (hf : -1000000000000000 ≤ fr ∧ fr ≤ 1000000000000000) : ∀ (j k : Nat) (n : Int), t + 3 - n = j → j ≤ 5 → 2000000100 + 10 * j ≤ k → ephemerislaw1_moonOf.l0 k fr t n = some (sn fr j n) := by
  intro j
  induction j with
  | zero =>
    intro k n h _ hk
    obtain ⟨k, rfl⟩ : ∃ q, k = q + 1 := ⟨k - 1, by omega⟩
    simp only [ephemerislaw1_moonOf.l0]
    rw [w64_id (n := t + 2) (by omega) (by omega), if_neg (by omega)]
    rfl
  | succ j ih =>
    intro k n h hj hk
    obtain ⟨k, rfl⟩ : ∃ q, k = (q + 4 + 1) + 1 := ⟨k - 6, by omega⟩
    simp only [ephemerislaw1_moonOf.l0]
    rw [w64_id (n := t + 2) (by omega) (by omega), if_pos (by omega)]
    have e := ref_l1 fr t n (by omega) hf 4 k (Nat.le_refl _) (by omega)
    rw [show (4 : Int) - ((4 : Nat) : Int) = 0 from rfl] at e
    rw [e]
    unfold sn
    cases sq fr n 4 with
    | some r => rfl
    | none => exact ih k (n + 1) (by omega) (by omega) (by omega)
theorem moon_l0 (fr t : Int) (ht : -100000 ≤ t ∧ t ≤ 100000) (hf : -1000000000000000 ≤ fr ∧ fr ≤ 1000000000000000) : ∀ (j k : Nat) (n : Int), t + 2 - n = j → j ≤ 3 → 2000000100 + 20 * j ≤ k → facts_Moon.l0 k fr (fr + 86400000) t n = some (sn fr j n, 0) := by
  intro j
  induction j with
  | zero =>
    intro k n h _ hk
    obtain ⟨k, rfl⟩ : ∃ q, k = q + 1 := ⟨k - 1, by omega⟩
    simp only [facts_Moon.l0]
    rw [w64_id (n := t + 1) (by omega) (by omega), if_neg (by omega)]
    rfl
  | succ j ih =>
    intro k n h hj hk
    obtain ⟨k, rfl⟩ : ∃ q, k = (q + 2 * 4 + 1) + 1 := ⟨k - 10, by omega⟩
    simp only [facts_Moon.l0]
    rw [w64_id (n := t + 1) (by omega) (by omega), if_pos (by omega)]
    have e := moon_l1 fr t n (by omega) hf 4 k (Nat.le_refl _) (by omega)
    rw [show (4 : Int) - ((4 : Nat) : Int) = 0 from rfl] at e
    rw [e]
    unfold sn
    cases sq fr n 4 with
    | some r => rfl
    | none => exact ih k (n + 1) (by omega) (by omega) (by omega)
/-- The reference's two outer lunations hold no phase of the day. -/
theorem sn_same (fr t : Int) (ht : -100000 ≤ t ∧ t ≤ 100000) (h1 : 2551442878 * t ≤ fr - 977949455) (h2 : fr - 977949455 < 2551442878 * (t + 1)) : sn fr 5 (t - 2) = sn fr 3 (t - 1) := by
  have a : sq fr (t - 2) 4 = none := sq_none fr _ (by omega) 4 (Nat.le_refl _) fun q q0 q3 => far_hit fr _ q (by omega) ⟨q0, q3⟩ (.inl (by unfold meanOf; omega))
  have b : sq fr (t + 2) 4 = none := sq_none fr _ (by omega) 4 (Nat.le_refl _) fun q q0 q3 => far_hit fr _ q (by omega) ⟨q0, q3⟩ (.inr (by unfold meanOf; omega))
  have e1 : sn fr 5 (t - 2) = sn fr 4 (t - 1) := by
    conv => lhs; unfold sn
    rw [a, show t - 2 + 1 = t - 1 from by omega]
  have e2 : ∀ n, n = t + 2 → sn fr 1 n = sn fr 0 n := fun n hn => by
    subst hn
    conv => lhs; unfold sn
    rw [b]; rfl
  rw [e1]
  unfold sn
  cases sq fr (t - 1) 4 with
  | some r => rfl
  | none =>
    show sn fr 3 (t - 1 + 1) = sn fr 2 (t - 1 + 1)
    unfold sn
    cases sq fr (t - 1 + 1) 4 with
    | some r => rfl
    | none =>
      show sn fr 2 (t - 1 + 1 + 1) = sn fr 1 (t - 1 + 1 + 1)
      unfold sn
      cases sq fr (t - 1 + 1 + 1) 4 with
      | some r => rfl
      | none => exact e2 _ (by omega)

theorem moon_in (k : Nat) (x : Int) (hx : -2900000 ≤ x ∧ x ≤ 2900000) (hk : 2000000200 ≤ k) : facts_Moon.f (k + 1) x = some (sn (x * 86400000) 3 ((x * 86400000 - 977949455) / 2551442878 - 1), 0) := by
  unfold facts_Moon.f
  rw [if_neg (by omega), decide_eq_false (show ¬ x > 2900000 by omega)]
  simp only [facts_Moon.j0]
  rw [if_neg (by decide), w64_id (n := x * 86400000) (by omega) (by omega), w64_id (n := x + 1) (by omega) (by omega), w64_id (n := (x + 1) * 86400000) (by omega) (by omega), w64_id (n := x * 86400000 - 977949455) (by omega) (by omega),
    whole_Div_f k (by omega) (by omega) (by omega) (by omega) (by omega), Option.bind_some, divs_pos (by omega)]
  obtain ⟨t, ht⟩ : ∃ t, t = (x * 86400000 - 977949455) / 2551442878 := ⟨_, rfl⟩
  have h1 : 2551442878 * t ≤ x * 86400000 - 977949455 := by omega
  have h2 : x * 86400000 - 977949455 < 2551442878 * (t + 1) := by omega
  simp only
  rw [← ht, w64_id (n := t - 1) (by omega) (by omega), show (x + 1) * 86400000 = x * 86400000 + 86400000 from by omega]
  exact moon_l0 (x * 86400000) t (by omega) (by omega) 3 k (t - 1) (by omega) (by omega) (by omega)
theorem ref_in (k : Nat) (x : Int) (hx : -2900000 ≤ x ∧ x ≤ 2900000) (hk : 2000000200 ≤ k) : ephemerislaw1_moonOf.f k x = some (sn (x * 86400000) 3 ((x * 86400000 - 977949455) / 2551442878 - 1)) := by
  unfold ephemerislaw1_moonOf.f
  rw [w64_id (n := x * 86400000) (by omega) (by omega), w64_id (n := x * 86400000 - 977949455) (by omega) (by omega), ephemerisref1_Floor_f k (by omega) (by omega) (by omega) (by omega) (by omega), Option.bind_some]
  obtain ⟨t, ht⟩ : ∃ t, t = (x * 86400000 - 977949455) / 2551442878 := ⟨_, rfl⟩
  have h1 : 2551442878 * t ≤ x * 86400000 - 977949455 := by omega
  have h2 : x * 86400000 - 977949455 < 2551442878 * (t + 1) := by omega
  rw [← ht, w64_id (n := t - 2) (by omega) (by omega), ref_l0 (x * 86400000) t (by omega) (by omega) 5 k (t - 2) (by omega) (by omega) (by omega), sn_same _ t (by omega) h1 h2]
theorem moon_11 : facts_Moon.f 60 11 = some (1, 0) := by kernel_rfl
theorem FactsMoons : ephemerislaw1_FactsMoons.Pure := by
  intro x hx
  obtain ⟨K, hK⟩ : ∃ K : Nat, 2000000200 ≤ K := ⟨_, Nat.le_refl _⟩
  refine ⟨K + 2, ?_⟩
  unfold ephemerislaw1_FactsMoons.f
  rw [mono_up (facts_Moon.mono 11) (show 60 ≤ K + 2 by omega) moon_11, Option.bind_some]
  simp only
  rw [if_pos trivial]
  simp only [ephemerislaw1_FactsMoons.j0]
  rw [if_neg (by decide)]
  by_cases h : -2900000 ≤ x ∧ x ≤ 2900000
  · rw [moon_in K x h hK, Option.bind_some, ephemerisref1_In_f, Option.bind_some]
    simp only
    rw [if_pos (by simpa using h), if_pos trivial, ref_in (K + 1) x h (by omega), Option.bind_some]
    simp
  · have e : facts_Moon.f (K + 1) x = some (0, 3) := by
      unfold facts_Moon.f
      by_cases c : x < -2900000
      · rw [if_pos c]; simp [facts_Moon.j0]
      · rw [if_neg c, decide_eq_true (show x > 2900000 by omega)]; simp [facts_Moon.j0]
    rw [e, Option.bind_some, ephemerisref1_In_f, Option.bind_some]
    simp only
    rw [if_neg (by simpa using h), if_pos trivial]
    simp
end Go.Proofs.Ytlfammlboncmeaa.Pure
