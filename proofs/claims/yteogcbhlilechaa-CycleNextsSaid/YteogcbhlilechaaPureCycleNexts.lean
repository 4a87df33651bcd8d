/- The law CycleNexts over numbers and lists: what the law's functions tell, and that the law holds. -/
import Derived.Test.YteogcbhlilechaaPCycleNextsx4
import Derived.Test.YteogcbhlilechaaM
import Derived.Test.YteogcbhlilechaaC
import Derived.Test.YteogcbhlilechaaL
import Derived.Test.YteogcbhlilechaaK
import Derived.Test.YteogcbhlilechaaO
namespace Go.Proofs.Yteogcbhlilechaa.Pure
open Go.RowKit Go.Proofs.Yteogcbhlilechaa.PCycleNexts Go.Proofs.YteogcbhlilechaaW.PrintWords Go.Proofs.YteogcbhlilechaaW.PrintLast Go.Proofs.Yteogcbhlilechaa.M Go.Proofs.Yteogcbhlilechaa.C Go.Proofs.Yteogcbhlilechaa.L Go.Proofs.Yteogcbhlilechaa.K Go.Proofs.Yteogcbhlilechaa.O
set_option linter.unusedVariables false
set_option linter.unusedSimpArgs false
/-- The law over numbers and lists. -/
def ephemerislaw1_CycleNexts.Pure : Prop := ∀ (l0_0 : List (Int)) (l0_1 : List (Int)) (a1 : Int) (l2 : List (Int)), (l0_0.length * 8 ≤ 140737488351232 ∧ l0_0.length ≤ 9223372036854775807 ∧ ∀ v ∈ l0_0, (Lit.int .i64 v).wf = true) → (l0_1.length * 8 ≤ 140737488351232 ∧ l0_1.length ≤ 9223372036854775807 ∧ ∀ v ∈ l0_1, (Lit.int .i64 v).wf = true) → (Lit.int .i64 a1).wf = true → (l2.length * 8 ≤ 140737488351232 ∧ l2.length ≤ 9223372036854775807 ∧ ∀ v ∈ l2, (Lit.int .i64 v).wf = true) → ∃ k, ephemerislaw1_CycleNexts.f k l0_0 l0_1 a1 l2 = some true

theorem line_Check_f (x : Int) : line_Check.f x = some (if -4000000 ≤ x ∧ x ≤ 4000000 then 0 else 3) := by
  unfold line_Check.f
  by_cases h : x < -4000000
  · rw [if_pos h, if_neg (by omega)]
  · rw [if_neg h]
    by_cases h2 : x > 4000000
    · rw [if_pos h2, if_neg (by omega)]
    · rw [if_neg h2, if_pos (by omega)]

/-- From place i on: the first fault. -/
def cyFrom : List (Int × Int) → Int
  | [] => 0
  | (a, b) :: r => if (1 ≤ a ∧ a ≤ 1000) ∧ (0 ≤ b ∧ b ≤ a - 1) then cyFrom r else 3
def cyErr (l o : List Int) : Int := if 1 ≤ l.length ∧ l.length ≤ 8 then (if l.length = o.length then cyFrom (l.zip o) else 8) else 2
theorem cy_rd_at (l : List Int) (i : Nat) (h : i < l.length) : rd l (i : Int) = l[i] := by
  unfold rd
  rw [show ((i : Int).toNat) = i from by omega, List.getD_eq_getElem?_getD, List.getElem?_eq_getElem h]; rfl
theorem cy_zip_drop (l o : List Int) (i : Nat) (h : i < l.length) (h2 : i < o.length) : (l.zip o).drop i = (l[i], o[i]) :: (l.zip o).drop (i + 1) := by
  have hz : i < (l.zip o).length := by rw [List.length_zip]; omega
  rw [List.drop_eq_getElem_cons hz, List.getElem_zip]
theorem cycle_Check_l0 (l o : List Int) (hl : l.length ≤ 8) (ho : l.length = o.length) : ∀ (d i k : Nat), i + d = l.length → d < k →
    cycle_Check.l0 k l (l.length : Int) (i : Int) l o = some (cyFrom ((l.zip o).drop i)) := by
  intro d
  induction d with
  | zero =>
    intro i k hi hk
    obtain ⟨k, rfl⟩ : ∃ m, k = m + 1 := ⟨k - 1, by omega⟩
    simp only [cycle_Check.l0]
    rw [if_neg (by omega), List.drop_of_length_le (by rw [List.length_zip]; omega)]; rfl
  | succ d ih =>
    intro i k hi hk
    obtain ⟨k, rfl⟩ : ∃ m, k = m + 1 := ⟨k - 1, by omega⟩
    simp only [cycle_Check.l0]
    rw [cy_zip_drop l o i (by omega) (by omega), cy_rd_at l i (by omega), cy_rd_at o i (by omega), if_pos (by omega), if_pos (by omega), if_pos (by omega)]
    simp only [cyFrom]
    by_cases c : (1 ≤ l[i] ∧ l[i] ≤ 1000) ∧ (0 ≤ o[i] ∧ o[i] ≤ l[i] - 1)
    · rw [if_pos c, if_neg (by omega), if_neg (by omega), if_pos (by omega), if_neg (by omega), if_neg (by omega), w64_id (by omega) (by omega)]
      exact ih (i + 1) k (by omega) (by omega)
    · rw [if_neg c]
      by_cases c1 : l[i] < 1
      · rw [if_pos c1]
      rw [if_neg c1]
      by_cases c2 : l[i] > 1000
      · rw [if_pos c2]
      rw [if_neg c2, if_pos (by omega)]
      by_cases c3 : o[i] < 0
      · rw [if_pos c3]
      rw [if_neg c3, if_pos (by omega)]
theorem cycle_Check_f (l o : List Int) (k : Nat) (hk : 20 ≤ k) : cycle_Check.f k l o = some (cyErr l o) := by
  obtain ⟨k, rfl⟩ : ∃ m, k = m + 1 := ⟨k - 1, by omega⟩
  have e : cycle_Check.f (k + 1) l o = cycle_Check.j0 (k + 1) (decide (¬ (1 ≤ l.length ∧ l.length ≤ 8))) l o := by
    unfold cycle_Check.f
    by_cases c : (l.length : Int) < 1
    · rw [if_pos c, decide_eq_true (by omega)]
    · rw [if_neg c]
      by_cases c2 : (l.length : Int) > 8
      · rw [decide_eq_true c2, decide_eq_true (by omega)]
      · rw [decide_eq_false c2, decide_eq_false (by omega)]
  rw [e]
  simp only [cycle_Check.j0, decide_eq_true_eq]
  unfold cyErr
  by_cases c : 1 ≤ l.length ∧ l.length ≤ 8
  · rw [if_neg (fun h => h c), if_pos c]
    by_cases c2 : l.length = o.length
    · rw [if_pos (by omega), if_pos c2]
      exact cycle_Check_l0 l o c.2 c2 l.length 0 k (by omega) (by omega)
    · rw [if_neg (by omega), if_neg c2]
  · rw [if_pos c, if_neg c]
theorem cyFrom_ok : ∀ (l o : List Int), l.length = o.length → (cyFrom (l.zip o) = 0 ↔ ∀ (i : Nat) (h : i < l.length) (h' : i < o.length), (1 ≤ l[i] ∧ l[i] ≤ 1000) ∧ (0 ≤ o[i] ∧ o[i] ≤ l[i] - 1))
  | [], [], _ => ⟨fun _ i h => by simp at h, fun _ => rfl⟩
  | a :: l, b :: o, hl => by
    have ih := cyFrom_ok l o (by simpa using hl)
    rw [List.zip_cons_cons]
    unfold cyFrom
    by_cases c : (1 ≤ a ∧ a ≤ 1000) ∧ (0 ≤ b ∧ b ≤ a - 1)
    · rw [if_pos c, ih]
      constructor
      · intro h i hi hi'
        cases i with
        | zero => exact c
        | succ i => exact h i (by simpa using hi) (by simpa using hi')
      · intro h i hi hi'
        exact h (i + 1) (by simpa using hi) (by simpa using hi')
    · rw [if_neg c]
      exact ⟨fun h => by omega, fun h => absurd (h 0 (by simp) (by simp)) c⟩
theorem cyErr_zero (l o : List Int) : cyErr l o = 0 ↔ Go.Proofs.Yteogcbhlilechaa.C.okSet l o := by
  unfold cyErr Go.Proofs.Yteogcbhlilechaa.C.okSet
  by_cases c : 1 ≤ l.length ∧ l.length ≤ 8
  · rw [if_pos c]
    by_cases c2 : l.length = o.length
    · rw [if_pos c2, cyFrom_ok l o c2]
      exact ⟨fun h => ⟨c, c2, h⟩, fun h => h.2.2⟩
    · rw [if_neg c2]
      exact ⟨fun h => absurd h (by decide), fun h => absurd h.2.1 c2⟩
  · rw [if_neg c]
    exact ⟨fun h => absurd h (by decide), fun h => absurd h.1 c⟩

/-- The places fit the lengths: the first fault. -/
def plErr : List (Int × Int) → Int
  | [] => 0
  | (a, b) :: r => if 0 ≤ b ∧ b < a then plErr r else 1
/-- The first fault of the arguments. -/
def begErr (l o : List Int) (day : Int) (p : List Int) : Int :=
  if cyErr l o = 0 then (if -4000000 ≤ day ∧ day ≤ 4000000 then (if p.length = l.length then plErr (l.zip p) else 8) else 3) else cyErr l o
theorem cycle_begin_l0 (l o p : List Int) (hl : l.length ≤ 8) (hp : p.length = l.length) : ∀ (d i k : Nat), i + d = l.length → d < k →
    cycle_begin.l0 k p (p.length : Int) (i : Int) l o = some (plErr ((l.zip p).drop i)) := by
  intro d
  induction d with
  | zero =>
    intro i k hi hk
    obtain ⟨k, rfl⟩ : ∃ m, k = m + 1 := ⟨k - 1, by omega⟩
    simp only [cycle_begin.l0]
    rw [if_neg (by omega), List.drop_of_length_le (by rw [List.length_zip]; omega)]; rfl
  | succ d ih =>
    intro i k hi hk
    obtain ⟨k, rfl⟩ : ∃ m, k = m + 1 := ⟨k - 1, by omega⟩
    have ih := ih (i + 1) k (by omega) (by omega)
    rw [show ((i + 1 : Nat) : Int) = (i : Int) + 1 from by omega] at ih
    simp only [cycle_begin.l0]
    rw [cy_zip_drop l p i (by omega) (by omega), cy_rd_at l i (by omega), cy_rd_at p i (by omega), w64_id (by omega) (by omega), ih]
    simp only [plErr]
    clear ih
    grind
theorem cycle_begin_f (l o : List Int) (day : Int) (p : List Int) (k : Nat) (hk : 30 ≤ k) : cycle_begin.f k l o day p = some (begErr l o day p) := by
  unfold cycle_begin.f begErr
  rw [cycle_Check_f l o k (by omega), line_Check_f, Option.bind_some, Option.bind_some]
  by_cases c : cyErr l o = 0
  · rw [if_pos c, if_pos c]
    have hs := (cyErr_zero l o).1 c
    by_cases c2 : -4000000 ≤ day ∧ day ≤ 4000000
    · rw [if_pos c2, if_pos rfl, if_pos c2]
      by_cases c3 : p.length = l.length
      · rw [if_pos (by omega), if_pos c3]
        exact cycle_begin_l0 l o p hs.1.2 c3 l.length 0 k (by omega) (by have := hs.1.2; omega)
      · rw [if_neg (by omega), if_neg c3]
    · rw [if_neg c2, if_neg (by decide), if_neg c2]
  · rw [if_neg c, if_neg c]
theorem begErr_zero {l o : List Int} {day : Int} {p : List Int} (h : begErr l o day p = 0) : okSet l o ∧ (-4000000 ≤ day ∧ day ≤ 4000000) ∧ p.length = l.length := by
  unfold begErr at h
  by_cases c : cyErr l o = 0
  · rw [if_pos c] at h
    by_cases c2 : -4000000 ≤ day ∧ day ≤ 4000000
    · rw [if_pos c2] at h
      by_cases c3 : p.length = l.length
      · exact ⟨(cyErr_zero l o).1 c, c2, c3⟩
      · rw [if_neg c3] at h; cases h
    · rw [if_neg c2] at h; cases h
  · rw [if_neg c] at h; exact absurd h c

theorem whole_Mod_f {a m : Int} (hm : 0 < m) (hm1 : m ≤ 9223372036854775807) : whole_Mod.f a m = some (a % m) := by
  unfold whole_Mod.f
  rw [if_neg (by omega)]
  obtain ⟨h1, h2⟩ := tmod_emod a m hm
  have h3 := Int.emod_nonneg a (b := m) (by omega)
  have h4 := Int.emod_lt_of_pos a hm
  by_cases c : Int.tmod a m < 0
  · rw [if_pos c, h1 c, w64_id (by omega) (by omega)]
  · rw [if_neg c, h2 c]

theorem whole_size_f {a : Int} (h0 : -9223372036854775808 ≤ a) (h1 : a ≤ 9223372036854775807) : whole_size.f a = some (ab a) := by
  unfold whole_size.f ab
  by_cases c : a < 0
  · rw [if_pos c, if_pos c, u64_def a, u64_def]
    congr 1; omega
  · rw [if_neg c, if_neg c, u64_id (by omega) (by omega)]

theorem whole_Gcd_l0 : ∀ (n k x y : Nat), y ≤ n → n < k → x ≤ 9223372036854775808 → y ≤ 9223372036854775808 → (0 < x ∨ y ≤ 9223372036854775808) →
    whole_Gcd.l0 k (x : Int) (y : Int) = some (if Nat.gcd x y = 9223372036854775808 then (0, 14) else ((Nat.gcd x y : Int), 0)) := by
  intro n
  induction n with
  | zero =>
    intro k x y hy hk hx hy1 _
    obtain ⟨k, rfl⟩ : ∃ m, k = m + 1 := ⟨k - 1, by omega⟩
    obtain rfl : y = 0 := by omega
    simp only [whole_Gcd.l0]
    rw [if_pos (by omega), Nat.gcd_zero_right]
    by_cases c : x = 9223372036854775808
    · rw [if_pos (by omega), if_pos c]
    · rw [if_neg (by omega), if_neg c, w64_id (by omega) (by omega)]
  | succ n ih =>
    intro k x y hy hk hx hy1 _
    obtain ⟨k, rfl⟩ : ∃ m, k = m + 1 := ⟨k - 1, by omega⟩
    simp only [whole_Gcd.l0]
    by_cases c0 : y = 0
    · subst c0
      rw [if_pos (by omega), Nat.gcd_zero_right]
      by_cases c : x = 9223372036854775808
      · rw [if_pos (by omega), if_pos c]
      · rw [if_neg (by omega), if_neg c, w64_id (by omega) (by omega)]
    · have hm : x % y < y := Nat.mod_lt _ (by omega)
      rw [if_neg (by omega), show Int.tmod (x : Int) (y : Int) = ((x % y : Nat) : Int) from by rw [← Int.ofNat_tmod]]
      rw [ih k y (x % y) (by omega) (by omega) hy1 (by omega) (.inl (by omega))]
      rw [show Nat.gcd y (x % y) = Nat.gcd x y from by rw [Nat.gcd_comm y, ← Nat.gcd_rec, Nat.gcd_comm]]
theorem gcd_ab (a b : Int) : Nat.gcd (ab a).toNat (ab b).toNat = Int.gcd a b := by
  have h : ∀ c : Int, (ab c).toNat = c.natAbs := fun c => by unfold ab; split <;> omega
  rw [h, h]; rfl
theorem gcd_le {a b : Int} (ha : -9223372036854775808 ≤ a) (ha1 : a ≤ 9223372036854775807) (hb : -9223372036854775808 ≤ b) (hb1 : b ≤ 9223372036854775807) : Int.gcd a b ≤ 9223372036854775808 := by
  show Nat.gcd a.natAbs b.natAbs ≤ _
  by_cases h : a.natAbs = 0
  · rw [h, Nat.gcd_zero_left]; omega
  · have := Nat.gcd_le_left b.natAbs (show 0 < a.natAbs by omega)
    omega
theorem whole_Gcd_f {a b : Int} (k : Nat) (hk : 9223372036854775810 ≤ k) (ha : -9223372036854775808 ≤ a) (ha1 : a ≤ 9223372036854775807) (hb : -9223372036854775808 ≤ b) (hb1 : b ≤ 9223372036854775807) :
    whole_Gcd.f k a b = some (if Int.gcd a b = 9223372036854775808 then (0, 14) else ((Int.gcd a b : Int), 0)) := by
  unfold whole_Gcd.f
  rw [whole_size_f ha ha1, whole_size_f hb hb1]
  simp only [Option.bind_some]
  have e1 := ab_nonneg a
  have e2 := ab_nonneg b
  have e3 := ab_le ha ha1
  have e4 := ab_le hb hb1
  have := whole_Gcd_l0 9223372036854775808 k (ab a).toNat (ab b).toNat (by omega) (by omega) (by omega) (by omega) (.inr (by omega))
  rw [gcd_ab, Int.toNat_of_nonneg e1, Int.toNat_of_nonneg e2] at this
  exact this

theorem cycle_meet_l0 (l o p : List Int) (day : Int) (hd : -4000000 ≤ day) (hl : l.length ≤ 8) (ho : l.length = o.length) (hp : p.length = l.length)
    (hb : ∀ (i : Nat) (h : i < l.length) (h' : i < o.length), (1 ≤ l[i] ∧ l[i] ≤ 1000) ∧ (0 ≤ o[i] ∧ o[i] ≤ l[i] - 1)) : ∀ (d i k : Nat) (x step : Int), i + d = l.length → 9223372036854775810 + 3000 * d < k → 1 ≤ step → step ≤ 1099511627776 → day ≤ x → x ≤ 4000000 →
    (∀ t, day ≤ t → t ≤ 4000000 → (pre l o p i t ↔ x ≤ t ∧ step ∣ t - x)) →
    ∃ x' s', cycle_meet.l0 k p x step l (l.length : Int) (i : Int) l o = some (x', s') ∧ meetSpec (pre l o p l.length) day x' s' := by
  intro d
  induction d with
  | zero =>
    intro i k x step hi hk h1 h2 h3 h4 inv
    obtain ⟨k, rfl⟩ : ∃ m, k = m + 1 := ⟨k - 1, by omega⟩
    obtain rfl : i = l.length := by omega
    refine ⟨x, step, ?_, .inr ⟨h1, h2, h3, h4, inv⟩⟩
    conv => lhs; unfold cycle_meet.l0
    rw [if_neg (by omega)]
  | succ d ih =>
    intro i k x step hi hk h1 h2 h3 h4 inv
    obtain ⟨k, rfl⟩ : ∃ m, k = m + 1 := ⟨k - 1, by omega⟩
    have hli : i < l.length := by omega
    have hoi : i < o.length := by omega
    have hpi : i < p.length := by omega
    obtain ⟨⟨b1, b2⟩, b3, b4⟩ := hb i hli hoi
    conv => enter [1, x', 1, s', 1, 1]; unfold cycle_meet.l0
    simp only [if_pos (show (i : Int) < (l.length : Int) by omega), if_pos (show (0 : Int) ≤ (i : Int) by omega), rd_get l i hli]
    have stop : (∀ t, day ≤ t → t ≤ 4000000 → ¬ (pre l o p i t ∧ (t + o[i]) % l[i] = p[i])) → meetSpec (pre l o p l.length) day 0 (-1) := by
      intro hn
      refine .inl ⟨rfl, rfl, fun t a b hpre => hn t a b ?_⟩
      exact ⟨fun j q1 q2 q3 q4 => hpre j q1 q2 q3 (by omega), hpre i hli hoi hpi hli⟩
    -- the steps: c of them are done
    have inner : ∀ (e : Nat) (c : Int) (k : Nat), 0 ≤ c → c + e = l[i] → 9223372036854775810 + 3000 * d + 2 * e + 3 < k → x + c * step ≤ 4000000 → (∀ j, 0 ≤ j → j < c → (x + j * step + o[i]) % l[i] ≠ p[i]) →
        ∃ x' s', cycle_meet.l1 k p (x + c * step) step (i : Int) l[i] c l (l.length : Int) (i : Int) l o = some (x', s') ∧ meetSpec (pre l o p l.length) day x' s' := by
      intro e
      induction e with
      | zero =>
        intro c k hc0 hce hk hm miss
        obtain ⟨k, rfl⟩ : ∃ m, k = m + 2 := ⟨k - 2, by omega⟩
        refine ⟨0, -1, ?_, stop (meet_none _ day x step l[i] o[i] p[i] c h1 b1 h3 hc0 inv miss (.inl (by omega)))⟩
        simp only [cycle_meet.l1, cycle_meet.j2]
        rw [if_neg (by omega), if_neg (by decide), if_pos (by omega)]
      | succ e ihe =>
        intro c k hc0 hce hk hm miss
        obtain ⟨k, rfl⟩ : ∃ m, k = m + 2 := ⟨k - 2, by omega⟩
        have hcs : 0 ≤ c * step := Int.mul_nonneg hc0 (by omega)
        have e1 : cycle_meet.l1 (k + 2) p (x + c * step) step (i : Int) l[i] c l (l.length : Int) (i : Int) l o = cycle_meet.j2 (k + 1) p (x + c * step) step (i : Int) l[i] c l (l.length : Int) (i : Int) (decide ((x + c * step + o[i]) % l[i] ≠ p[i])) l o := by
          rw [show k + 2 = (k + 1) + 1 from rfl]
          conv => lhs; unfold cycle_meet.l1
          rw [if_pos (by omega), if_pos (by omega), if_pos (by omega), rd_get o i hoi, w64_id (n := x + c * step + o[i]) (by omega) (by omega), whole_Mod_f (by omega) (by omega), Option.bind_some, if_pos (by omega), rd_get p i hpi, bne_dec]
        rw [e1]
        conv => enter [1, x', 1, s', 1, 1]; unfold cycle_meet.j2
        by_cases hit : (x + c * step + o[i]) % l[i] = p[i]
        · obtain ⟨hg0, hg1⟩ := gcd_pos_le step (m := l[i]) (by omega)
          obtain ⟨q, hq⟩ := Int.gcd_dvd_left step l[i]
          have hqp := mul_pos_of hg0 hq (by omega)
          have eq : step / (Int.gcd step l[i] : Int) = q := by
            have := Int.mul_ediv_cancel_left q (show (Int.gcd step l[i] : Int) ≠ 0 by omega)
            rw [← hq] at this; exact this
          have hpr := mul_lt (n := 1099511627776) (m := 1000) (show 0 ≤ q by omega) (by omega) (show 0 ≤ l[i] by omega) b2
          have hpr1 : 1 * 1 ≤ q * l[i] := Int.mul_le_mul (by omega) b1 (by omega) (by omega)
          have hne : ¬ Int.gcd step l[i] = 9223372036854775808 := by omega
          have e2 : (whole_Gcd.f k step l[i]) = some ((Int.gcd step l[i] : Int), 0) := by
            rw [whole_Gcd_f k (by omega) (by omega) (by omega) (by omega) (by omega), if_neg hne]
          have e3 : mn (wrap64 (wrap64 (Int.tdiv step (Int.gcd step l[i] : Int)) * l[i])) 1099511627776 = mn (q * l[i]) 1099511627776 := by
            rw [Int.tdiv_eq_ediv_of_nonneg (by omega), eq, w64_id (n := q) (by omega) (by omega), w64_id (n := q * l[i]) (by omega) (by omega)]
          have hmn : (mn (q * l[i]) 1099511627776 = q * l[i] ∧ q * l[i] ≤ 1099511627776) ∨ (1099511627776 ≤ q * l[i] ∧ mn (q * l[i]) 1099511627776 = 1099511627776) := by unfold mn; split <;> omega
          simp only [decide_eq_true_eq, if_neg (show ¬ (x + c * step + o[i]) % l[i] ≠ p[i] from fun h => h hit), if_neg (show ¬ c = l[i] by omega), e2, Option.bind_some, if_neg (show ¬ (Int.gcd step l[i] : Int) = 0 by omega), e3, w64_id (n := (i : Int) + 1) (by omega) (by omega)]
          have hf := meet_found (pre l o p i) day x step l[i] o[i] p[i] c h1 b1 hd h3 hc0 hm inv hit miss (mn (q * l[i]) 1099511627776) (by rw [eq]; exact hmn.imp And.left id)
          have := ih (i + 1) k (x + c * step) (mn (q * l[i]) 1099511627776) (by omega) (by omega) (by omega) (by omega) (by omega) hm (fun t a b => by rw [pre_succ l o p i t hli hoi hpi]; exact hf t a b)
          rw [show ((i + 1 : Nat) : Int) = (i : Int) + 1 from by omega] at this
          exact this
        · have hst : x + c * step + step = x + (c + 1) * step := by rw [Int.add_mul, Int.one_mul]; omega
          simp only [decide_eq_true_eq, if_pos (show (x + c * step + o[i]) % l[i] ≠ p[i] from hit), hst, w64_id (n := x + (c + 1) * step) (by omega) (by omega), w64_id (n := c + 1) (by omega) (by omega)]
          have miss' : ∀ j, 0 ≤ j → j < c + 1 → (x + j * step + o[i]) % l[i] ≠ p[i] := by
            intro j j0 j1
            by_cases hj : j = c
            · subst hj; exact hit
            · exact miss j j0 (by omega)
          by_cases hbig : x + (c + 1) * step > 4000000
          · rw [if_pos hbig]
            exact ⟨0, -1, rfl, stop (meet_none _ day x step l[i] o[i] p[i] (c + 1) h1 b1 h3 (by omega) inv miss' (.inr hbig))⟩
          · rw [if_neg hbig]
            exact ihe (c + 1) k (by omega) (by omega) (by omega) (by omega) miss'
    have := inner l[i].toNat 0 k (by omega) (by omega) (by omega) (by omega) (fun j a b => by omega)
    rw [Int.zero_mul, Int.add_zero] at this
    exact this
theorem cycle_meet_f (l o p : List Int) (day : Int) (hd : -4000000 ≤ day ∧ day ≤ 4000000) (hs : okSet l o) (hp : p.length = l.length) (k : Nat) (hk : 9223372036854800000 ≤ k) :
    ∃ x s, cycle_meet.f k l o day p = some (x, s) ∧ meetSpec (pre l o p l.length) day x s := by
  unfold cycle_meet.f
  exact cycle_meet_l0 l o p day hd.1 hs.1.2 hs.2.1 hp hs.2.2 l.length 0 k day 1 (by omega) (by have := hs.1.2; omega) (by omega) (by omega) (by omega) hd.2
    (fun t a b => ⟨fun _ => ⟨a, Int.one_dvd _⟩, fun _ j q1 q2 q3 q4 => by omega⟩)

/-- The answer of Next: a fault, or the first day. -/
theorem cycle_Next_f (l o : List Int) (day : Int) (p : List Int) (k : Nat) (hk : 9223372036854800000 ≤ k) :
    (begErr l o day p ≠ 0 ∧ cycle_Next.f k l o day p = some (0, begErr l o day p)) ∨
    (begErr l o day p = 0 ∧ (cycle_Next.f k l o day p = some (0, 6) ∧ (∀ t, day ≤ t → t ≤ 4000000 → p ≠ places l o t) ∨
      ∃ x, cycle_Next.f k l o day p = some (x, 0) ∧ day ≤ x ∧ x ≤ 4000000 ∧ p = places l o x ∧ ∀ t, day ≤ t → t < x → p ≠ places l o t)) := by
  unfold cycle_Next.f
  rw [cycle_begin_f l o day p k (by omega), Option.bind_some]
  by_cases c : begErr l o day p = 0
  · right
    refine ⟨c, ?_⟩
    obtain ⟨hs, hd, hp⟩ := begErr_zero c
    obtain ⟨x, s, hm, hspec⟩ := cycle_meet_f l o p day hd hs hp k hk
    rw [if_pos c, hm, Option.bind_some]
    rcases hspec with ⟨rfl, rfl, hn⟩ | ⟨h1, h2, h3, h4, hiff⟩
    · left
      exact ⟨rfl, fun t a b he => hn t a b ((pre_all l o p t hs.2.1 hp).2 he)⟩
    · right
      refine ⟨x, by rw [if_neg (show ¬ (x, s).2 < 0 from by simp only; omega)], h3, h4, ?_, fun t a b he => ?_⟩
      · exact (pre_all l o p x hs.2.1 hp).1 ((hiff x h3 h4).2 ⟨Int.le_refl _, by rw [Int.sub_self]; exact Int.dvd_zero _⟩)
      · have := ((hiff t a (by omega)).1 ((pre_all l o p t hs.2.1 hp).2 he)).1
        omega
  · left
    exact ⟨c, by rw [if_neg c]⟩

theorem ephemerisref1_In_f (x lo hi : Int) : ephemerisref1_In.f x lo hi = some (decide (lo ≤ x ∧ x ≤ hi)) := by
  unfold ephemerisref1_In.f
  by_cases h : x ≥ lo
  · rw [if_pos h]; congr 1; simp; omega
  · rw [if_neg h]; congr 1; simp; omega

theorem ephemerisref1_Day_f (x : Int) : ephemerisref1_Day.f x = some (decide (-4000000 ≤ x ∧ x ≤ 4000000)) := by
  unfold ephemerisref1_Day.f
  rw [ephemerisref1_In_f]; rfl

/-- From place i on: the first fault. -/
def setFrom : List (Int × Int) → Int
  | [] => 0
  | (a, b) :: r => if (1 ≤ a ∧ a ≤ 1000) ∧ (0 ≤ b ∧ b ≤ a - 1) then setFrom r else 3
def setErr (l o : List Int) : Int := if 1 ≤ l.length ∧ l.length ≤ 8 then (if l.length = o.length then setFrom (l.zip o) else 8) else 2
theorem rd_at (l : List Int) (i : Nat) (h : i < l.length) : rd l (i : Int) = l[i] := by
  unfold rd
  rw [show ((i : Int).toNat) = i from by omega, List.getD_eq_getElem?_getD, List.getElem?_eq_getElem h]; rfl
theorem zip_drop_cons (l o : List Int) (i : Nat) (h : i < l.length) (h2 : i < o.length) : (l.zip o).drop i = (l[i], o[i]) :: (l.zip o).drop (i + 1) := by
  have hz : i < (l.zip o).length := by rw [List.length_zip]; omega
  rw [List.drop_eq_getElem_cons hz, List.getElem_zip]
theorem ephemerisref1_SetError_l0 (l o : List Int) (hl : l.length ≤ 8) (ho : l.length = o.length) : ∀ (d i k : Nat), i + d = l.length → d < k →
    ephemerisref1_SetError.l0 k (l.length : Int) (i : Int) l o = some (setFrom ((l.zip o).drop i)) := by
  intro d
  induction d with
  | zero =>
    intro i k hi hk
    obtain ⟨k, rfl⟩ : ∃ m, k = m + 1 := ⟨k - 1, by omega⟩
    simp only [ephemerisref1_SetError.l0]
    rw [if_neg (by omega), List.drop_of_length_le (by rw [List.length_zip]; omega)]; rfl
  | succ d ih =>
    intro i k hi hk
    obtain ⟨k, rfl⟩ : ∃ m, k = m + 1 := ⟨k - 1, by omega⟩
    simp only [ephemerisref1_SetError.l0]
    rw [zip_drop_cons l o i (by omega) (by omega), rd_at l i (by omega), rd_at o i (by omega), if_pos (by omega), if_pos (by omega), if_pos (by omega), ephemerisref1_In_f]
    simp only [Option.bind_some, setFrom, decide_eq_true_eq]
    by_cases c : 1 ≤ l[i] ∧ l[i] ≤ 1000
    · rw [if_pos c, if_pos (by omega), w64_id (by omega) (by omega), ephemerisref1_In_f]
      simp only [Option.bind_some, decide_eq_true_eq]
      by_cases c2 : 0 ≤ o[i] ∧ o[i] ≤ l[i] - 1
      · rw [if_pos c2, if_pos ⟨c, c2⟩, w64_id (by omega) (by omega)]
        exact ih (i + 1) k (by omega) (by omega)
      · rw [if_neg c2, if_neg (fun h => c2 h.2)]
    · rw [if_neg c, if_neg (fun h => c h.1)]
theorem ephemerisref1_SetError_f (l o : List Int) (hl : l.length ≤ 9223372036854775807) (k : Nat) (hk : 20 ≤ k) : ephemerisref1_SetError.f k l o = some (setErr l o) := by
  unfold ephemerisref1_SetError.f setErr
  rw [ephemerisref1_In_f]
  simp only [Option.bind_some, decide_eq_true_eq]
  by_cases c : 1 ≤ l.length ∧ l.length ≤ 8
  · rw [if_pos (by omega), if_pos c]
    by_cases c2 : l.length = o.length
    · rw [if_pos (by omega), if_pos c2]
      have := ephemerisref1_SetError_l0 l o c.2 c2 l.length 0 k (by omega) (by omega)
      exact this
    · rw [if_neg (by omega), if_neg c2]
  · rw [if_neg (by omega), if_neg c]

theorem cyFrom_eq' : ∀ l : List (Int × Int), cyFrom l = setFrom l
  | [] => rfl
  | (a, b) :: r => by unfold cyFrom setFrom; rw [cyFrom_eq' r]
theorem cyErr_eq' (l o : List Int) : setErr l o = cyErr l o := by unfold cyErr setErr; rw [cyFrom_eq']
theorem ephemerislaw1_cycleError_l0 (l o p : List Int) (hl : l.length ≤ 8) (hb : ∀ (i : Nat) (h : i < l.length), 1 ≤ l[i] ∧ l[i] ≤ 1000) (hp : p.length = l.length) : ∀ (d i k : Nat), i + d = l.length → d < k →
    ephemerislaw1_cycleError.l0 k p (p.length : Int) (i : Int) l o = some (plErr ((l.zip p).drop i)) := by
  intro d
  induction d with
  | zero =>
    intro i k hi hk
    obtain ⟨k, rfl⟩ : ∃ m, k = m + 1 := ⟨k - 1, by omega⟩
    simp only [ephemerislaw1_cycleError.l0]
    rw [if_neg (by omega), List.drop_of_length_le (by rw [List.length_zip]; omega)]; rfl
  | succ d ih =>
    intro i k hi hk
    obtain ⟨k, rfl⟩ : ∃ m, k = m + 1 := ⟨k - 1, by omega⟩
    have hb := hb i (by omega)
    have ih := ih (i + 1) k (by omega) (by omega)
    rw [show ((i + 1 : Nat) : Int) = (i : Int) + 1 from by omega] at ih
    simp only [ephemerislaw1_cycleError.l0, ephemerisref1_In_f, Option.bind_some]
    rw [cy_zip_drop l p i (by omega) (by omega), cy_rd_at l i (by omega), cy_rd_at p i (by omega), w64_id (n := (i : Int) + 1) (by omega) (by omega), w64_id (n := l[i] - 1) (by omega) (by omega), ih]
    simp only [plErr]
    clear ih
    grind
theorem ephemerislaw1_cycleError_f (l o : List Int) (day : Int) (p : List Int) (hl : l.length ≤ 9223372036854775807) (k : Nat) (hk : 30 ≤ k) : ephemerislaw1_cycleError.f k l o day p = some (begErr l o day p) := by
  unfold ephemerislaw1_cycleError.f begErr
  rw [ephemerisref1_SetError_f l o hl k (by omega), cyErr_eq', ephemerisref1_Day_f, Option.bind_some, Option.bind_some]
  by_cases c : cyErr l o = 0
  · rw [if_pos c, if_pos c]
    have hs := (cyErr_zero l o).1 c
    by_cases c2 : -4000000 ≤ day ∧ day ≤ 4000000
    · rw [if_pos (decide_eq_true c2), if_pos c2]
      by_cases c3 : p.length = l.length
      · rw [if_pos (by omega), if_pos c3]
        exact ephemerislaw1_cycleError_l0 l o p hs.1.2 (fun i h => (hs.2.2 i h (by have := hs.2.1; omega)).1) c3 l.length 0 k (by omega) (by have := hs.1.2; omega)
      · rw [if_neg (by omega), if_neg c3]
    · rw [if_neg (by simpa using c2), if_neg c2]
  · rw [if_neg c, if_neg c]

theorem ephemerisref1_Size_f {a : Int} (h0 : -9223372036854775808 ≤ a) (h1 : a ≤ 9223372036854775807) : ephemerisref1_Size.f a = some (ab a) := by
  unfold ephemerisref1_Size.f ab
  by_cases c : a < 0
  · rw [if_pos c, if_pos c, w64_id (n := a + 1) (by omega) (by omega), w64_id (n := -(a + 1)) (by omega) (by omega), u64_id (n := -(a + 1)) (by omega) (by omega), u64_id (by omega) (by omega)]
    congr 1; omega
  · rw [if_neg c, if_neg c, u64_id (by omega) (by omega)]

theorem ephemerisref1_Div_l0 (X Y : Int) (hX : 0 ≤ X) (hX1 : X < 18446744073709551616) (hY : 0 < Y) (hY1 : Y ≤ 9223372036854775808) :
    ∀ (n k : Nat), n ≤ 64 → n < k → ephemerisref1_Div.l0 k X Y (X / 2 ^ n / Y * 2 ^ n) (X / 2 ^ n % Y) ((n : Int) - 1) = some (X / Y, X % Y) := by
  intro n
  induction n with
  | zero =>
    intro k _ hk
    obtain ⟨k, rfl⟩ : ∃ m, k = m + 1 := ⟨k - 1, by omega⟩
    simp only [ephemerisref1_Div.l0]
    rw [if_neg (by omega)]
    simp
  | succ n ih =>
    intro k hn hk
    obtain ⟨k, rfl⟩ : ∃ m, k = m + 1 := ⟨k - 1, by omega⟩
    have ih := ih k (by omega) (by omega)
    have hhp := half_pow X n
    have hpow : (2 : Int) ^ (n + 1) = 2 * 2 ^ n := by rw [Int.pow_succ, Int.mul_comm]
    have hpp := pow_pos' n
    have hp63 := pow_le_63 n (by omega)
    have hd1 := div_pow_le X Y (n + 1) hX hY
    have hd0 := div_pow_le X Y n hX hY
    have hz : 0 ≤ X / 2 ^ n := Int.ediv_nonneg hX (by omega)
    obtain ⟨s1, s2⟩ := long_step (X / 2 ^ n) Y hz hY
    rw [← hhp] at s1 s2
    have r0 := Int.emod_nonneg (X / 2 ^ (n + 1)) (b := Y) (by omega)
    have r1 := Int.emod_lt_of_pos (X / 2 ^ (n + 1)) hY
    have hshr : shr .u64 X ((n : Int) + 1 - 1) = X / 2 ^ n := by
      rw [show (n : Int) + 1 - 1 = n from by omega]; exact shr_pow X n (by omega)
    have hshl : shl .u64 1 ((n : Int) + 1 - 1) = 2 ^ n := by
      rw [show (n : Int) + 1 - 1 = n from by omega]; exact shl_one n (by omega)
    have hzx : X / 2 ^ n ≤ X := Int.ediv_le_self _ hX
    have hmod : (X / 2 ^ (n + 1) / Y * 2 ^ (n + 1)) % 2 ^ (n + 1) = 0 := Int.mul_emod_left _ _
    have hor : Go.bits .or .u64 (X / 2 ^ (n + 1) / Y * 2 ^ (n + 1)) (2 ^ n) = X / 2 ^ (n + 1) / Y * 2 ^ (n + 1) + 2 ^ n :=
      or_join (n + 1) _ _ hd1.1 (by omega) hmod (by omega) (by omega) (by omega)
    have q2 : X / 2 ^ (n + 1) / Y * 2 ^ (n + 1) = 2 * (X / 2 ^ (n + 1) / Y) * 2 ^ n := by
      rw [hpow, Int.mul_comm 2 (X / (2 * 2 ^ n) / Y), Int.mul_assoc]
    generalize hR : X / 2 ^ (n + 1) % Y = R at *
    generalize hQ : X / 2 ^ (n + 1) / Y * 2 ^ (n + 1) = Q at *
    simp only [ephemerisref1_Div.l0]
    rw [show (((n + 1 : Nat) : Int) - 1) = (n : Int) + 1 - 1 from by omega]
    rw [if_pos (by omega), hshr, hshl, hor, w64_id (n := (n : Int) + 1 - 1 - 1) (by omega) (by omega), show (n : Int) + 1 - 1 - 1 = (n : Int) - 1 from by omega]
    rw [and_one _ hz (by omega), u64_id (n := R * 2) (by omega) (by omega)]
    have hbit := Int.emod_nonneg (X / 2 ^ n) (b := 2) (by omega)
    have hbit1 := Int.emod_lt_of_pos (X / 2 ^ n) (b := 2) (by omega)
    rw [or_join 1 (R * 2) _ (by omega) (by omega) (by simp only [Int.reducePow]; omega) hbit (by simp only [Int.reducePow]; omega) (by omega)]
    rw [if_neg (by omega)]
    rw [show R * 2 + X / 2 ^ n % 2 = 2 * R + X / 2 ^ n % 2 from by omega]
    by_cases c : Y ≤ 2 * R + X / 2 ^ n % 2
    · rw [if_pos c, u64_id (by omega) (by omega)]
      have e := s1 c
      rw [e.1, e.2, Int.add_mul, Int.one_mul, ← q2] at ih
      exact ih
    · rw [if_neg c]
      have e := s2 c
      rw [e.1, e.2, ← q2] at ih
      exact ih
theorem ephemerisref1_Div_f {a b : Int} (k : Nat) (hk : 65 ≤ k) (ha : -9223372036854775808 ≤ a) (ha1 : a ≤ 9223372036854775807) (hb : -9223372036854775808 ≤ b) (hb1 : b ≤ 9223372036854775807) : ephemerisref1_Div.f k a b = some (divs a b) := by
  unfold ephemerisref1_Div.f
  by_cases c : b = 0
  · rw [if_pos c]; unfold divs; rw [if_pos c]
  rw [if_neg c, ephemerisref1_Size_f ha ha1, ephemerisref1_Size_f hb hb1]
  simp only [Option.bind_some]
  have hX := ab_nonneg a
  have hX1 := ab_le ha ha1
  have hY1 := ab_le hb hb1
  have hY : 0 < ab b := by unfold ab; split <;> omega
  have h64 := ephemerisref1_Div_l0 (ab a) (ab b) hX (by omega) hY hY1 64 k (by omega) (by omega)
  have hz : ab a / 2 ^ 64 = 0 := Int.ediv_eq_zero_of_lt hX (by simp only [Int.reducePow]; omega)
  rw [hz] at h64
  simp only [Int.zero_ediv, Int.zero_mul, Int.zero_emod] at h64
  rw [show (((64 : Nat) : Int) - 1) = 63 from by omega] at h64
  rw [h64]
  simp only [Option.bind_some, Option.some.injEq]
  have h1 := Int.mul_ediv_add_emod (ab a) (ab b)
  have h2 := Int.emod_nonneg (ab a) (b := ab b) (by omega)
  have h3 := Int.emod_lt_of_pos (ab a) hY
  have h4 : ab a / ab b ≤ ab a := Int.ediv_le_self _ hX
  have h5 : 0 ≤ ab a / ab b := Int.ediv_nonneg hX (by omega)
  have h6 : 2 ≤ ab b → ab a / ab b ≤ 4611686018427387904 := fun h => by
    have : ab a / ab b ≤ ab a / 2 := by
      have := Int.ediv_le_ediv (c := 2) (by omega) (a := ab a / ab b * 2) (b := ab a) (by
        have : ab a / ab b * 2 ≤ ab a / ab b * ab b := Int.mul_le_mul_of_nonneg_left h h5
        rw [Int.mul_comm (ab b)] at h1
        omega)
      omega
    omega
  have h7 : ab b = 1 → ab a / ab b = ab a ∧ ab a % ab b = 0 := fun h => by rw [h]; omega
  have uniq : ∀ {q r : Int}, a = b * q + r → (0 < b → 0 ≤ r ∧ r < b) → (b < 0 → b < r ∧ r ≤ 0) → ¬ (a = -9223372036854775808 ∧ b = -1) → divs a b = (q, r, 0) := by
    intro q r e1 e2 e3 e4
    have := fd_uniq e1 e2 e3 c
    unfold divs
    rw [if_neg c, if_neg e4, this.1, this.2]
  generalize hq : ab a / ab b = q at *
  generalize hr : ab a % ab b = r at *
  clear h64 hz
  have eY : ∀ s : Int, (-(ab b)) * s = -(ab b * s) := fun s => by rw [Int.neg_mul]
  by_cases sa : a < 0 <;> by_cases sb : b < 0
  · have xa : a = -(ab a) := by unfold ab; rw [if_pos sa]; omega
    have xb : b = -(ab b) := by unfold ab; rw [if_pos sb]; omega
    simp only [ephemerisref1_Div.e0, ephemerisref1_Div.e1, sa, sb, decide_true, bne_self_eq_false, Bool.false_eq_true, false_and, if_false, true_and, if_true]
    by_cases c2 : q > 9223372036854775807
    · rw [if_pos c2]
      unfold divs
      have : ab b = 1 := by
        by_cases h : 2 ≤ ab b
        · have := h6 h; omega
        · omega
      rw [if_neg c, if_pos (by omega)]
    · rw [if_neg c2, w64_id (by omega) (by omega), u64_def, w64_def]
      rw [uniq (q := q) (r := -r) (by rw [xb, eY]; omega) (by omega) (by omega) (fun h => by have := h7 (by omega); omega)]
      congr 2; omega
  · have xa : a = -(ab a) := by unfold ab; rw [if_pos sa]; omega
    have xb : b = ab b := by unfold ab; rw [if_neg sb]
    simp only [ephemerisref1_Div.e0, ephemerisref1_Div.e1, sa, sb, decide_true, decide_false, Bool.bne_false, Bool.false_eq_true, true_and, if_true, Bool.true_eq_false, false_and, if_false]
    by_cases c2 : r = 0
    · rw [if_neg (fun h => h c2), u64_def, w64_def, w64_id (by omega) (by omega)]
      rw [uniq (q := -q) (r := 0) (by rw [xb, Int.mul_neg]; omega) (by omega) (by omega) (by omega)]
      rw [c2]
      congr 1; omega
    · rw [if_pos c2, u64_id (n := q + 1) (by omega) (by omega), u64_id (n := ab b - r) (by omega) (by omega), u64_def, w64_def, w64_id (by omega) (by omega)]
      have : q ≤ 9223372036854775807 := by
        by_cases h : 2 ≤ ab b
        · have := h6 h; omega
        · have := h7 (by omega); omega
      have eb : b * q = ab b * q := by rw [← xb]
      rw [uniq (q := -(q + 1)) (r := ab b - r) (by rw [Int.mul_neg, Int.mul_add, Int.mul_one, eb]; omega) (by omega) (by omega) (by omega)]
      congr 1; omega
  · have xa : a = ab a := by unfold ab; rw [if_neg sa]
    have xb : b = -(ab b) := by unfold ab; rw [if_pos sb]; omega
    simp only [ephemerisref1_Div.e0, ephemerisref1_Div.e1, sa, sb, decide_true, decide_false, Bool.bne_true, Bool.not_false, Bool.false_eq_true, true_and, if_true, Bool.true_eq_false, false_and, if_false]
    by_cases c2 : r = 0
    · rw [if_neg (fun h => h c2), u64_def, w64_def, u64_def, w64_def]
      rw [uniq (q := -q) (r := 0) (by rw [xb, eY, Int.mul_neg]; omega) (by omega) (by omega) (by omega)]
      rw [c2]
      congr 1
      omega
    · rw [if_pos c2, u64_id (n := q + 1) (by omega) (by omega), u64_id (n := ab b - r) (by omega) (by omega), u64_def, w64_def, u64_def, w64_def]
      have eb := eY q
      rw [← xb] at eb
      rw [uniq (q := -(q + 1)) (r := -(ab b - r)) (by rw [Int.mul_neg, Int.mul_add, Int.mul_one, eb]; omega) (by omega) (by omega) (by omega)]
      congr 1
      · omega
      · congr 1; omega
  · have xa : a = ab a := by unfold ab; rw [if_neg sa]
    have xb : b = ab b := by unfold ab; rw [if_neg sb]
    simp only [ephemerisref1_Div.e0, ephemerisref1_Div.e1, sa, sb, decide_false, bne_self_eq_false, Bool.false_eq_true, false_and, if_false, true_and]
    rw [if_neg (by omega), w64_id (by omega) (by omega), w64_id (by omega) (by omega)]
    rw [uniq (q := q) (r := r) (by rw [xb]; omega) (by omega) (by omega) (by omega)]

theorem ephemerisref1_Mod_f {a b : Int} (k : Nat) (hk : 65 ≤ k) (ha : -9223372036854775808 ≤ a) (ha1 : a ≤ 9223372036854775807) (hb : 0 < b) (hb1 : b ≤ 9223372036854775807) : ephemerisref1_Mod.f k a b = some (a % b) := by
  unfold ephemerisref1_Mod.f
  rw [ephemerisref1_Div_f k hk ha ha1 (by omega) hb1, divs_pos hb]
  rfl

theorem ephemerisref1_SetAt_l0 (day : Int) (l o p : List Int) (hd : -4000000 ≤ day ∧ day ≤ 4000000) (ho : okSet l o) (hp : p.length = l.length) : ∀ (d i k : Nat), i + d = l.length → 70 + d < k →
    ephemerisref1_SetAt.l0 k day p l (l.length : Int) (i : Int) l o = some (decide (p.drop i = (places l o day).drop i)) := by
  obtain ⟨⟨hl0, hl1⟩, hlo, hb⟩ := ho
  have hpl := places_length l o day hlo
  intro d
  induction d with
  | zero =>
    intro i k hi hk
    obtain ⟨k, rfl⟩ : ∃ m, k = m + 1 := ⟨k - 1, by omega⟩
    conv => lhs; unfold ephemerisref1_SetAt.l0
    rw [if_neg (by omega), List.drop_of_length_le (by omega), List.drop_of_length_le (by omega)]; rfl
  | succ d ih =>
    intro i k hi hk
    obtain ⟨k, rfl⟩ : ∃ m, k = m + 1 := ⟨k - 1, by omega⟩
    have hlt : i < l.length := by omega
    have hlt' : i < o.length := by omega
    have hltp : i < p.length := by omega
    obtain ⟨b1, b2⟩ := hb i hlt hlt'
    conv => lhs; unfold ephemerisref1_SetAt.l0
    rw [if_pos (by omega), if_pos (by omega), if_pos (by omega), if_pos (by omega), rd_get l i hlt, rd_get o i hlt', w64_id (n := day + o[i]) (by omega) (by omega), ephemerisref1_Mod_f k (by omega) (by omega) (by omega) (by omega) (by omega), Option.bind_some, if_pos (by omega), rd_get p i hltp, List.drop_eq_getElem_cons hltp, List.drop_eq_getElem_cons (show i < (places l o day).length by omega), places_get l o day i hlt hlt' (by omega)]
    by_cases c : (day + o[i]) % l[i] = p[i]
    · rw [if_pos c, w64_id (n := (i : Int) + 1) (by omega) (by omega)]
      have := ih (i + 1) k (by omega) (by omega)
      rw [show ((i + 1 : Nat) : Int) = (i : Int) + 1 from by omega] at this
      rw [this]
      congr 1
      rw [← c]
      simp
    · rw [if_neg c]
      congr 1
      symm
      exact decide_eq_false (fun h => c (by have := (List.cons.inj h).1; exact this.symm))
theorem ephemerisref1_SetAt_f (day : Int) (l o p : List Int) (hd : -4000000 ≤ day ∧ day ≤ 4000000) (ho : okSet l o) (hp : p.length = l.length) (k : Nat) (hk : 100 ≤ k) : ephemerisref1_SetAt.f k l o day p = some (decide (p = places l o day)) := by
  unfold ephemerisref1_SetAt.f
  have := ephemerisref1_SetAt_l0 day l o p hd ho hp l.length 0 k (by omega) (by have := ho.1.2; omega)
  exact this

/-- The law's search, day by day: none is found up to the first one x. -/
theorem CycleNexts_l0 (l o p : List Int) (day n e : Int) (hd : -4000000 ≤ day ∧ day ≤ 4000000) (hs : okSet l o) (hp : p.length = l.length)
    (hspec : (n = 0 ∧ e = 6 ∧ ∀ t, day ≤ t → t ≤ 4000000 → p ≠ places l o t) ∨ (e = 0 ∧ day ≤ n ∧ n ≤ 4000000 ∧ p = places l o n ∧ ∀ t, day ≤ t → t < n → p ≠ places l o t)) :
    ∀ (d : Nat) (x : Int) (k : Nat), day ≤ x → (e = 0 → x ≤ n) → x + d = day + 6001 → 200 + 2 * d < k → ephemerislaw1_CycleNexts.l0 k day p n e x l o = some true := by
  have fin : ∀ (x : Int) (k : Nat), day ≤ x → 150 < k → (e = 0 → n > day + 6000) → ephemerislaw1_CycleNexts.j2 k day p n e x false l o = some true := by
    intro x k hx hk hn
    obtain ⟨k, rfl⟩ : ∃ m, k = m + 1 := ⟨k - 1, by omega⟩
    simp only [ephemerislaw1_CycleNexts.j2, Bool.false_eq_true, if_false, w64_id (n := day + 6000) (by omega) (by omega)]
    rcases hspec with ⟨rfl, rfl, hnone⟩ | ⟨rfl, h1, h2, h3, h4⟩
    · rw [if_pos rfl, if_pos rfl]
    · have hn := hn rfl
      have e1 := ephemerisref1_SetAt_f n l o p (by omega) hs hp k (by omega)
      rw [decide_eq_true h3] at e1
      by_cases c : n = 0
      · rw [if_pos c, if_neg (by omega), if_pos rfl, if_pos hn, e1]; rfl
      · rw [if_neg c, if_pos rfl, if_pos hn, e1]; rfl
  intro d
  induction d with
  | zero =>
    intro x k hx hx2 hd' hk
    obtain ⟨k, rfl⟩ : ∃ m, k = m + 1 := ⟨k - 1, by omega⟩
    have e0 : ephemerislaw1_CycleNexts.l0 (k + 1) day p n e x l o = ephemerislaw1_CycleNexts.j2 k day p n e x false l o := by
      simp only [ephemerislaw1_CycleNexts.l0, w64_id (n := day + 6000) (by omega) (by omega)]
      rw [decide_eq_false (show ¬ x ≤ day + 6000 by omega)]
      split <;> rfl
    rw [e0]
    refine fin x k hx (by omega) (fun he => ?_)
    have := hx2 he
    omega
  | succ d ih =>
    intro x k hx hx2 hd' hk
    obtain ⟨k, rfl⟩ : ∃ m, k = m + 2 := ⟨k - 2, by omega⟩
    by_cases c : x ≤ 4000000
    · have e0 : ephemerislaw1_CycleNexts.l0 (k + 2) day p n e x l o = ephemerislaw1_CycleNexts.j2 (k + 1) day p n e x true l o := by
        rw [show k + 2 = (k + 1) + 1 from rfl]
        simp only [ephemerislaw1_CycleNexts.l0, w64_id (n := day + 6000) (by omega) (by omega)]
        rw [if_pos c, decide_eq_true (show x ≤ day + 6000 by omega)]
      rw [e0]
      conv => lhs; unfold ephemerislaw1_CycleNexts.j2
      rw [if_pos rfl, ephemerisref1_SetAt_f x l o p (by omega) hs hp k (by omega), Option.bind_some]
      by_cases hit : p = places l o x
      · rw [if_pos (decide_eq_true hit)]
        rcases hspec with ⟨_, _, hnone⟩ | ⟨rfl, h1, h2, h3, h4⟩
        · exact absurd hit (hnone x hx c)
        · have := hx2 rfl
          have : ¬ x < n := fun h => h4 x hx h hit
          rw [if_pos rfl, show n = x from by omega]; simp
      · rw [if_neg (by simpa using hit), w64_id (n := x + 1) (by omega) (by omega)]
        refine ih (x + 1) k (by omega) (fun he => ?_) (by omega) (by omega)
        rcases hspec with ⟨_, rfl, _⟩ | ⟨_, h1, h2, h3, h4⟩
        · cases he
        · have : x ≠ n := fun h' => hit (h' ▸ h3)
          have := hx2 he
          omega
    · have e0 : ephemerislaw1_CycleNexts.l0 (k + 2) day p n e x l o = ephemerislaw1_CycleNexts.j2 (k + 1) day p n e x false l o := by
        rw [show k + 2 = (k + 1) + 1 from rfl]
        simp only [ephemerislaw1_CycleNexts.l0]
        rw [if_neg c]
      rw [e0]
      refine fin x (k + 1) hx (by omega) (fun he => ?_)
      rcases hspec with ⟨_, rfl, _⟩ | ⟨_, h1, h2, h3, h4⟩
      · cases he
      · have := hx2 he
        omega
theorem CycleNexts : ephemerislaw1_CycleNexts.Pure := by
  intro l o day p hl ho hday hpl
  refine ⟨9223372036854900001, ?_⟩
  have two : cycle_Next.f 9223372036854900001 [5, 7] [0, 0] 13 [2, 5] = some (47, 0) := by
    have pl : ∀ t, places [5, 7] [0, 0] t = [(t + 0) % 5, (t + 0) % 7] := fun t => rfl
    rcases cycle_Next_f [5, 7] [0, 0] 13 [2, 5] 9223372036854900001 (by omega) with ⟨h, _⟩ | ⟨_, ⟨_, h⟩ | ⟨x, h, h1, h2, h3, h4⟩⟩
    · exact absurd (by decide) h
    · exact absurd (show [2, 5] = places [5, 7] [0, 0] 47 by decide) (h 47 (by omega) (by omega))
    · rw [h]
      rw [pl] at h3
      simp only [List.cons.injEq, and_true] at h3
      have : ¬ 47 < x := fun hx => h4 47 (by omega) hx (by decide)
      have : x = 47 := by omega
      rw [this]
  unfold ephemerislaw1_CycleNexts.f
  rw [two, Option.bind_some]
  simp only [bne_self_eq_false, if_true]
  simp only [ephemerislaw1_CycleNexts.j0, Bool.false_eq_true, if_false]
  rw [ephemerislaw1_cycleError_f l o day p hl.2.1 _ (by omega)]
  rcases cycle_Next_f l o day p 9223372036854900000 (by omega) with ⟨h, e⟩ | ⟨h0, h⟩
  · rw [e, Option.bind_some, Option.bind_some, if_neg h, if_pos rfl]; simp
  · obtain ⟨hs, hd, hp⟩ := begErr_zero h0
    rcases h with ⟨e, hn⟩ | ⟨x, e, h1, h2, h3, h4⟩
    · rw [e, Option.bind_some, Option.bind_some, if_pos h0]
      exact CycleNexts_l0 l o p day 0 6 hd hs hp (.inl ⟨rfl, rfl, hn⟩) 6001 day _ (by omega) (fun h => by cases h) (by omega) (by omega)
    · rw [e, Option.bind_some, Option.bind_some, if_pos h0]
      exact CycleNexts_l0 l o p day x 0 hd hs hp (.inr ⟨rfl, h1, h2, h3, h4⟩) 6001 day _ (by omega) (fun h => h1) (by omega) (by omega)
end Go.Proofs.Yteogcbhlilechaa.Pure
