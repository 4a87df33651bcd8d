/- The law CycleLists over numbers and lists: what the law's functions tell, and that the law holds. -/
import Derived.Test.YteogcbhlilechaaPCycleListsx4
import Derived.Test.YteogcbhlilechaaM
import Derived.Test.YteogcbhlilechaaC
import Derived.Test.YteogcbhlilechaaL
import Derived.Test.YteogcbhlilechaaK
import Derived.Test.YteogcbhlilechaaO
namespace Go.Proofs.Yteogcbhlilechaa.Pure
open Go.RowKit Go.Proofs.Yteogcbhlilechaa.PCycleLists Go.Proofs.YteogcbhlilechaaW.PrintWords Go.Proofs.YteogcbhlilechaaW.PrintLast Go.Proofs.Yteogcbhlilechaa.M Go.Proofs.Yteogcbhlilechaa.C Go.Proofs.Yteogcbhlilechaa.L Go.Proofs.Yteogcbhlilechaa.K Go.Proofs.Yteogcbhlilechaa.O
set_option linter.unusedVariables false
set_option linter.unusedSimpArgs false
/-- The law over numbers and lists. -/
def ephemerislaw1_CycleLists.Pure : Prop := ∀ (l0_0 : List (Int)) (l0_1 : List (Int)) (a1 : Int) (l2 : List (Int)) (a3 : Int), (l0_0.length * 8 ≤ 140737488351232 ∧ l0_0.length ≤ 9223372036854775807 ∧ ∀ v ∈ l0_0, (Lit.int .i64 v).wf = true) → (l0_1.length * 8 ≤ 140737488351232 ∧ l0_1.length ≤ 9223372036854775807 ∧ ∀ v ∈ l0_1, (Lit.int .i64 v).wf = true) → (Lit.int .i64 a1).wf = true → (l2.length * 8 ≤ 140737488351232 ∧ l2.length ≤ 9223372036854775807 ∧ ∀ v ∈ l2, (Lit.int .i64 v).wf = true) → (Lit.int .i64 a3).wf = true → ∃ k, ephemerislaw1_CycleLists.f k l0_0 l0_1 a1 l2 a3 = some true

theorem line_Check_f (x : Int) : line_Check.f x = some (if -4000000 ≤ x ∧ x ≤ 4000000 then 0 else 3) := by
  unfold line_Check.f
  by_cases h : x < -4000000
  · rw [if_pos h, if_neg (by omega)]
  · rw [if_neg h]
    by_cases h2 : x > 4000000
    · rw [if_pos h2, if_neg (by omega)]
    · rw [if_neg h2, if_pos (by omega)]

/-- From place i on: the first fault. -/
def cyFrom : List (Int × Int) → Int
  | [] => 0
  | (a, b) :: r => if (1 ≤ a ∧ a ≤ 1000) ∧ (0 ≤ b ∧ b ≤ a - 1) then cyFrom r else 3
def cyErr (l o : List Int) : Int := if 1 ≤ l.length ∧ l.length ≤ 8 then (if l.length = o.length then cyFrom (l.zip o) else 8) else 2
theorem cy_rd_at (l : List Int) (i : Nat) (h : i < l.length) : rd l (i : Int) = l[i] := by
  unfold rd
  rw [show ((i : Int).toNat) = i from by omega, List.getD_eq_getElem?_getD, List.getElem?_eq_getElem h]; rfl
theorem cy_zip_drop (l o : List Int) (i : Nat) (h : i < l.length) (h2 : i < o.length) : (l.zip o).drop i = (l[i], o[i]) :: (l.zip o).drop (i + 1) := by
  have hz : i < (l.zip o).length := by rw [List.length_zip]; omega
  rw [List.drop_eq_getElem_cons hz, List.getElem_zip]
theorem cycle_Check_l0 (l o : List Int) (hl : l.length ≤ 8) (ho : l.length = o.length) : ∀ (d i k : Nat), i + d = l.length → d < k →
    cycle_Check.l0 k l (l.length : Int) (i : Int) l o = some (cyFrom ((l.zip o).drop i)) := by
  intro d
  induction d with
  | zero =>
    intro i k hi hk
    obtain ⟨k, rfl⟩ : ∃ m, k = m + 1 := ⟨k - 1, by omega⟩
    simp only [cycle_Check.l0]
    rw [if_neg (by omega), List.drop_of_length_le (by rw [List.length_zip]; omega)]; rfl
  | succ d ih =>
    intro i k hi hk
    obtain ⟨k, rfl⟩ : ∃ m, k = m + 1 := ⟨k - 1, by omega⟩
    simp only [cycle_Check.l0]
    rw [cy_zip_drop l o i (by omega) (by omega), cy_rd_at l i (by omega), cy_rd_at o i (by omega), if_pos (by omega), if_pos (by omega), if_pos (by omega)]
    simp only [cyFrom]
    by_cases c : (1 ≤ l[i] ∧ l[i] ≤ 1000) ∧ (0 ≤ o[i] ∧ o[i] ≤ l[i] - 1)
    · rw [if_pos c, if_neg (by omega), if_neg (by omega), if_pos (by omega), if_neg (by omega), if_neg (by omega), w64_id (by omega) (by omega)]
      exact ih (i + 1) k (by omega) (by omega)
    · rw [if_neg c]
      by_cases c1 : l[i] < 1
      · rw [if_pos c1]
      rw [if_neg c1]
      by_cases c2 : l[i] > 1000
      · rw [if_pos c2]
      rw [if_neg c2, if_pos (by omega)]
      by_cases c3 : o[i] < 0
      · rw [if_pos c3]
      rw [if_neg c3, if_pos (by omega)]
theorem cycle_Check_f (l o : List Int) (k : Nat) (hk : 20 ≤ k) : cycle_Check.f k l o = some (cyErr l o) := by
  obtain ⟨k, rfl⟩ : ∃ m, k = m + 1 := ⟨k - 1, by omega⟩
  have e : cycle_Check.f (k + 1) l o = cycle_Check.j0 (k + 1) (decide (¬ (1 ≤ l.length ∧ l.length ≤ 8))) l o := by
    unfold cycle_Check.f
    by_cases c : (l.length : Int) < 1
    · rw [if_pos c, decide_eq_true (by omega)]
    · rw [if_neg c]
      by_cases c2 : (l.length : Int) > 8
      · rw [decide_eq_true c2, decide_eq_true (by omega)]
      · rw [decide_eq_false c2, decide_eq_false (by omega)]
  rw [e]
  simp only [cycle_Check.j0, decide_eq_true_eq]
  unfold cyErr
  by_cases c : 1 ≤ l.length ∧ l.length ≤ 8
  · rw [if_neg (fun h => h c), if_pos c]
    by_cases c2 : l.length = o.length
    · rw [if_pos (by omega), if_pos c2]
      exact cycle_Check_l0 l o c.2 c2 l.length 0 k (by omega) (by omega)
    · rw [if_neg (by omega), if_neg c2]
  · rw [if_pos c, if_neg c]
theorem cyFrom_ok : ∀ (l o : List Int), l.length = o.length → (cyFrom (l.zip o) = 0 ↔ ∀ (i : Nat) (h : i < l.length) (h' : i < o.length), (1 ≤ l[i] ∧ l[i] ≤ 1000) ∧ (0 ≤ o[i] ∧ o[i] ≤ l[i] - 1))
  | [], [], _ => ⟨fun _ i h => by simp at h, fun _ => rfl⟩
  | a :: l, b :: o, hl => by
    have ih := cyFrom_ok l o (by simpa using hl)
    rw [List.zip_cons_cons]
    unfold cyFrom
    by_cases c : (1 ≤ a ∧ a ≤ 1000) ∧ (0 ≤ b ∧ b ≤ a - 1)
    · rw [if_pos c, ih]
      constructor
      · intro h i hi hi'
        cases i with
        | zero => exact c
        | succ i => exact h i (by simpa using hi) (by simpa using hi')
      · intro h i hi hi'
        exact h (i + 1) (by simpa using hi) (by simpa using hi')
    · rw [if_neg c]
      exact ⟨fun h => by omega, fun h => absurd (h 0 (by simp) (by simp)) c⟩
theorem cyErr_zero (l o : List Int) : cyErr l o = 0 ↔ Go.Proofs.Yteogcbhlilechaa.C.okSet l o := by
  unfold cyErr Go.Proofs.Yteogcbhlilechaa.C.okSet
  by_cases c : 1 ≤ l.length ∧ l.length ≤ 8
  · rw [if_pos c]
    by_cases c2 : l.length = o.length
    · rw [if_pos c2, cyFrom_ok l o c2]
      exact ⟨fun h => ⟨c, c2, h⟩, fun h => h.2.2⟩
    · rw [if_neg c2]
      exact ⟨fun h => absurd h (by decide), fun h => absurd h.2.1 c2⟩
  · rw [if_neg c]
    exact ⟨fun h => absurd h (by decide), fun h => absurd h.1 c⟩

/-- The places fit the lengths: the first fault. -/
def plErr : List (Int × Int) → Int
  | [] => 0
  | (a, b) :: r => if 0 ≤ b ∧ b < a then plErr r else 1
/-- The first fault of the arguments. -/
def begErr (l o : List Int) (day : Int) (p : List Int) : Int :=
  if cyErr l o = 0 then (if -4000000 ≤ day ∧ day ≤ 4000000 then (if p.length = l.length then plErr (l.zip p) else 8) else 3) else cyErr l o
theorem cycle_begin_l0 (l o p : List Int) (hl : l.length ≤ 8) (hp : p.length = l.length) : ∀ (d i k : Nat), i + d = l.length → d < k →
    cycle_begin.l0 k p (p.length : Int) (i : Int) l o = some (plErr ((l.zip p).drop i)) := by
  intro d
  induction d with
  | zero =>
    intro i k hi hk
    obtain ⟨k, rfl⟩ : ∃ m, k = m + 1 := ⟨k - 1, by omega⟩
    simp only [cycle_begin.l0]
    rw [if_neg (by omega), List.drop_of_length_le (by rw [List.length_zip]; omega)]; rfl
  | succ d ih =>
    intro i k hi hk
    obtain ⟨k, rfl⟩ : ∃ m, k = m + 1 := ⟨k - 1, by omega⟩
    have ih := ih (i + 1) k (by omega) (by omega)
    rw [show ((i + 1 : Nat) : Int) = (i : Int) + 1 from by omega] at ih
    simp only [cycle_begin.l0]
    rw [cy_zip_drop l p i (by omega) (by omega), cy_rd_at l i (by omega), cy_rd_at p i (by omega), w64_id (by omega) (by omega), ih]
    simp only [plErr]
    clear ih
    grind
theorem cycle_begin_f (l o : List Int) (day : Int) (p : List Int) (k : Nat) (hk : 30 ≤ k) : cycle_begin.f k l o day p = some (begErr l o day p) := by
  unfold cycle_begin.f begErr
  rw [cycle_Check_f l o k (by omega), line_Check_f, Option.bind_some, Option.bind_some]
  by_cases c : cyErr l o = 0
  · rw [if_pos c, if_pos c]
    have hs := (cyErr_zero l o).1 c
    by_cases c2 : -4000000 ≤ day ∧ day ≤ 4000000
    · rw [if_pos c2, if_pos rfl, if_pos c2]
      by_cases c3 : p.length = l.length
      · rw [if_pos (by omega), if_pos c3]
        exact cycle_begin_l0 l o p hs.1.2 c3 l.length 0 k (by omega) (by have := hs.1.2; omega)
      · rw [if_neg (by omega), if_neg c3]
    · rw [if_neg c2, if_neg (by decide), if_neg c2]
  · rw [if_neg c, if_neg c]
theorem begErr_zero {l o : List Int} {day : Int} {p : List Int} (h : begErr l o day p = 0) : okSet l o ∧ (-4000000 ≤ day ∧ day ≤ 4000000) ∧ p.length = l.length := by
  unfold begErr at h
  by_cases c : cyErr l o = 0
  · rw [if_pos c] at h
    by_cases c2 : -4000000 ≤ day ∧ day ≤ 4000000
    · rw [if_pos c2] at h
      by_cases c3 : p.length = l.length
      · exact ⟨(cyErr_zero l o).1 c, c2, c3⟩
      · rw [if_neg c3] at h; cases h
    · rw [if_neg c2] at h; cases h
  · rw [if_neg c] at h; exact absurd h c

theorem whole_Mod_f {a m : Int} (hm : 0 < m) (hm1 : m ≤ 9223372036854775807) : whole_Mod.f a m = some (a % m) := by
  unfold whole_Mod.f
  rw [if_neg (by omega)]
  obtain ⟨h1, h2⟩ := tmod_emod a m hm
  have h3 := Int.emod_nonneg a (b := m) (by omega)
  have h4 := Int.emod_lt_of_pos a hm
  by_cases c : Int.tmod a m < 0
  · rw [if_pos c, h1 c, w64_id (by omega) (by omega)]
  · rw [if_neg c, h2 c]

theorem whole_size_f {a : Int} (h0 : -9223372036854775808 ≤ a) (h1 : a ≤ 9223372036854775807) : whole_size.f a = some (ab a) := by
  unfold whole_size.f ab
  by_cases c : a < 0
  · rw [if_pos c, if_pos c, u64_def a, u64_def]
    congr 1; omega
  · rw [if_neg c, if_neg c, u64_id (by omega) (by omega)]

theorem whole_Gcd_l0 : ∀ (n k x y : Nat), y ≤ n → n < k → x ≤ 9223372036854775808 → y ≤ 9223372036854775808 → (0 < x ∨ y ≤ 9223372036854775808) →
    whole_Gcd.l0 k (x : Int) (y : Int) = some (if Nat.gcd x y = 9223372036854775808 then (0, 14) else ((Nat.gcd x y : Int), 0)) := by
  intro n
  induction n with
  | zero =>
    intro k x y hy hk hx hy1 _
    obtain ⟨k, rfl⟩ : ∃ m, k = m + 1 := ⟨k - 1, by omega⟩
    obtain rfl : y = 0 := by omega
    simp only [whole_Gcd.l0]
    rw [if_pos (by omega), Nat.gcd_zero_right]
    by_cases c : x = 9223372036854775808
    · rw [if_pos (by omega), if_pos c]
    · rw [if_neg (by omega), if_neg c, w64_id (by omega) (by omega)]
  | succ n ih =>
    intro k x y hy hk hx hy1 _
    obtain ⟨k, rfl⟩ : ∃ m, k = m + 1 := ⟨k - 1, by omega⟩
    simp only [whole_Gcd.l0]
    by_cases c0 : y = 0
    · subst c0
      rw [if_pos (by omega), Nat.gcd_zero_right]
      by_cases c : x = 9223372036854775808
      · rw [if_pos (by omega), if_pos c]
      · rw [if_neg (by omega), if_neg c, w64_id (by omega) (by omega)]
    · have hm : x % y < y := Nat.mod_lt _ (by omega)
      rw [if_neg (by omega), show Int.tmod (x : Int) (y : Int) = ((x % y : Nat) : Int) from by rw [← Int.ofNat_tmod]]
      rw [ih k y (x % y) (by omega) (by omega) hy1 (by omega) (.inl (by omega))]
      rw [show Nat.gcd y (x % y) = Nat.gcd x y from by rw [Nat.gcd_comm y, ← Nat.gcd_rec, Nat.gcd_comm]]
theorem gcd_ab (a b : Int) : Nat.gcd (ab a).toNat (ab b).toNat = Int.gcd a b := by
  have h : ∀ c : Int, (ab c).toNat = c.natAbs := fun c => by unfold ab; split <;> omega
  rw [h, h]; rfl
theorem gcd_le {a b : Int} (ha : -9223372036854775808 ≤ a) (ha1 : a ≤ 9223372036854775807) (hb : -9223372036854775808 ≤ b) (hb1 : b ≤ 9223372036854775807) : Int.gcd a b ≤ 9223372036854775808 := by
  show Nat.gcd a.natAbs b.natAbs ≤ _
  by_cases h : a.natAbs = 0
  · rw [h, Nat.gcd_zero_left]; omega
  · have := Nat.gcd_le_left b.natAbs (show 0 < a.natAbs by omega)
    omega
theorem whole_Gcd_f {a b : Int} (k : Nat) (hk : 9223372036854775810 ≤ k) (ha : -9223372036854775808 ≤ a) (ha1 : a ≤ 9223372036854775807) (hb : -9223372036854775808 ≤ b) (hb1 : b ≤ 9223372036854775807) :
    whole_Gcd.f k a b = some (if Int.gcd a b = 9223372036854775808 then (0, 14) else ((Int.gcd a b : Int), 0)) := by
  unfold whole_Gcd.f
  rw [whole_size_f ha ha1, whole_size_f hb hb1]
  simp only [Option.bind_some]
  have e1 := ab_nonneg a
  have e2 := ab_nonneg b
  have e3 := ab_le ha ha1
  have e4 := ab_le hb hb1
  have := whole_Gcd_l0 9223372036854775808 k (ab a).toNat (ab b).toNat (by omega) (by omega) (by omega) (by omega) (.inr (by omega))
  rw [gcd_ab, Int.toNat_of_nonneg e1, Int.toNat_of_nonneg e2] at this
  exact this

theorem cycle_meet_l0 (l o p : List Int) (day : Int) (hd : -4000000 ≤ day) (hl : l.length ≤ 8) (ho : l.length = o.length) (hp : p.length = l.length)
    (hb : ∀ (i : Nat) (h : i < l.length) (h' : i < o.length), (1 ≤ l[i] ∧ l[i] ≤ 1000) ∧ (0 ≤ o[i] ∧ o[i] ≤ l[i] - 1)) : ∀ (d i k : Nat) (x step : Int), i + d = l.length → 9223372036854775810 + 3000 * d < k → 1 ≤ step → step ≤ 1099511627776 → day ≤ x → x ≤ 4000000 →
    (∀ t, day ≤ t → t ≤ 4000000 → (pre l o p i t ↔ x ≤ t ∧ step ∣ t - x)) →
    ∃ x' s', cycle_meet.l0 k p x step l (l.length : Int) (i : Int) l o = some (x', s') ∧ meetSpec (pre l o p l.length) day x' s' := by
  intro d
  induction d with
  | zero =>
    intro i k x step hi hk h1 h2 h3 h4 inv
    obtain ⟨k, rfl⟩ : ∃ m, k = m + 1 := ⟨k - 1, by omega⟩
    obtain rfl : i = l.length := by omega
    refine ⟨x, step, ?_, .inr ⟨h1, h2, h3, h4, inv⟩⟩
    conv => lhs; unfold cycle_meet.l0
    rw [if_neg (by omega)]
  | succ d ih =>
    intro i k x step hi hk h1 h2 h3 h4 inv
    obtain ⟨k, rfl⟩ : ∃ m, k = m + 1 := ⟨k - 1, by omega⟩
    have hli : i < l.length := by omega
    have hoi : i < o.length := by omega
    have hpi : i < p.length := by omega
    obtain ⟨⟨b1, b2⟩, b3, b4⟩ := hb i hli hoi
    conv => enter [1, x', 1, s', 1, 1]; unfold cycle_meet.l0
    simp only [if_pos (show (i : Int) < (l.length : Int) by omega), if_pos (show (0 : Int) ≤ (i : Int) by omega), rd_get l i hli]
    have stop : (∀ t, day ≤ t → t ≤ 4000000 → ¬ (pre l o p i t ∧ (t + o[i]) % l[i] = p[i])) → meetSpec (pre l o p l.length) day 0 (-1) := by
      intro hn
      refine .inl ⟨rfl, rfl, fun t a b hpre => hn t a b ?_⟩
      exact ⟨fun j q1 q2 q3 q4 => hpre j q1 q2 q3 (by omega), hpre i hli hoi hpi hli⟩
    -- the steps: c of them are done
    have inner : ∀ (e : Nat) (c : Int) (k : Nat), 0 ≤ c → c + e = l[i] → 9223372036854775810 + 3000 * d + 2 * e + 3 < k → x + c * step ≤ 4000000 → (∀ j, 0 ≤ j → j < c → (x + j * step + o[i]) % l[i] ≠ p[i]) →
        ∃ x' s', cycle_meet.l1 k p (x + c * step) step (i : Int) l[i] c l (l.length : Int) (i : Int) l o = some (x', s') ∧ meetSpec (pre l o p l.length) day x' s' := by
      intro e
      induction e with
      | zero =>
        intro c k hc0 hce hk hm miss
        obtain ⟨k, rfl⟩ : ∃ m, k = m + 2 := ⟨k - 2, by omega⟩
        refine ⟨0, -1, ?_, stop (meet_none _ day x step l[i] o[i] p[i] c h1 b1 h3 hc0 inv miss (.inl (by omega)))⟩
        simp only [cycle_meet.l1, cycle_meet.j2]
        rw [if_neg (by omega), if_neg (by decide), if_pos (by omega)]
      | succ e ihe =>
        intro c k hc0 hce hk hm miss
        obtain ⟨k, rfl⟩ : ∃ m, k = m + 2 := ⟨k - 2, by omega⟩
        have hcs : 0 ≤ c * step := Int.mul_nonneg hc0 (by omega)
        have e1 : cycle_meet.l1 (k + 2) p (x + c * step) step (i : Int) l[i] c l (l.length : Int) (i : Int) l o = cycle_meet.j2 (k + 1) p (x + c * step) step (i : Int) l[i] c l (l.length : Int) (i : Int) (decide ((x + c * step + o[i]) % l[i] ≠ p[i])) l o := by
          rw [show k + 2 = (k + 1) + 1 from rfl]
          conv => lhs; unfold cycle_meet.l1
          rw [if_pos (by omega), if_pos (by omega), if_pos (by omega), rd_get o i hoi, w64_id (n := x + c * step + o[i]) (by omega) (by omega), whole_Mod_f (by omega) (by omega), Option.bind_some, if_pos (by omega), rd_get p i hpi, bne_dec]
        rw [e1]
        conv => enter [1, x', 1, s', 1, 1]; unfold cycle_meet.j2
        by_cases hit : (x + c * step + o[i]) % l[i] = p[i]
        · obtain ⟨hg0, hg1⟩ := gcd_pos_le step (m := l[i]) (by omega)
          obtain ⟨q, hq⟩ := Int.gcd_dvd_left step l[i]
          have hqp := mul_pos_of hg0 hq (by omega)
          have eq : step / (Int.gcd step l[i] : Int) = q := by
            have := Int.mul_ediv_cancel_left q (show (Int.gcd step l[i] : Int) ≠ 0 by omega)
            rw [← hq] at this; exact this
          have hpr := mul_lt (n := 1099511627776) (m := 1000) (show 0 ≤ q by omega) (by omega) (show 0 ≤ l[i] by omega) b2
          have hpr1 : 1 * 1 ≤ q * l[i] := Int.mul_le_mul (by omega) b1 (by omega) (by omega)
          have hne : ¬ Int.gcd step l[i] = 9223372036854775808 := by omega
          have e2 : (whole_Gcd.f k step l[i]) = some ((Int.gcd step l[i] : Int), 0) := by
            rw [whole_Gcd_f k (by omega) (by omega) (by omega) (by omega) (by omega), if_neg hne]
          have e3 : mn (wrap64 (wrap64 (Int.tdiv step (Int.gcd step l[i] : Int)) * l[i])) 1099511627776 = mn (q * l[i]) 1099511627776 := by
            rw [Int.tdiv_eq_ediv_of_nonneg (by omega), eq, w64_id (n := q) (by omega) (by omega), w64_id (n := q * l[i]) (by omega) (by omega)]
          have hmn : (mn (q * l[i]) 1099511627776 = q * l[i] ∧ q * l[i] ≤ 1099511627776) ∨ (1099511627776 ≤ q * l[i] ∧ mn (q * l[i]) 1099511627776 = 1099511627776) := by unfold mn; split <;> omega
          simp only [decide_eq_true_eq, if_neg (show ¬ (x + c * step + o[i]) % l[i] ≠ p[i] from fun h => h hit), if_neg (show ¬ c = l[i] by omega), e2, Option.bind_some, if_neg (show ¬ (Int.gcd step l[i] : Int) = 0 by omega), e3, w64_id (n := (i : Int) + 1) (by omega) (by omega)]
          have hf := meet_found (pre l o p i) day x step l[i] o[i] p[i] c h1 b1 hd h3 hc0 hm inv hit miss (mn (q * l[i]) 1099511627776) (by rw [eq]; exact hmn.imp And.left id)
          have := ih (i + 1) k (x + c * step) (mn (q * l[i]) 1099511627776) (by omega) (by omega) (by omega) (by omega) (by omega) hm (fun t a b => by rw [pre_succ l o p i t hli hoi hpi]; exact hf t a b)
          rw [show ((i + 1 : Nat) : Int) = (i : Int) + 1 from by omega] at this
          exact this
        · have hst : x + c * step + step = x + (c + 1) * step := by rw [Int.add_mul, Int.one_mul]; omega
          simp only [decide_eq_true_eq, if_pos (show (x + c * step + o[i]) % l[i] ≠ p[i] from hit), hst, w64_id (n := x + (c + 1) * step) (by omega) (by omega), w64_id (n := c + 1) (by omega) (by omega)]
          have miss' : ∀ j, 0 ≤ j → j < c + 1 → (x + j * step + o[i]) % l[i] ≠ p[i] := by
            intro j j0 j1
            by_cases hj : j = c
            · subst hj; exact hit
            · exact miss j j0 (by omega)
          by_cases hbig : x + (c + 1) * step > 4000000
          · rw [if_pos hbig]
            exact ⟨0, -1, rfl, stop (meet_none _ day x step l[i] o[i] p[i] (c + 1) h1 b1 h3 (by omega) inv miss' (.inr hbig))⟩
          · rw [if_neg hbig]
            exact ihe (c + 1) k (by omega) (by omega) (by omega) (by omega) miss'
    have := inner l[i].toNat 0 k (by omega) (by omega) (by omega) (by omega) (fun j a b => by omega)
    rw [Int.zero_mul, Int.add_zero] at this
    exact this
theorem cycle_meet_f (l o p : List Int) (day : Int) (hd : -4000000 ≤ day ∧ day ≤ 4000000) (hs : okSet l o) (hp : p.length = l.length) (k : Nat) (hk : 9223372036854800000 ≤ k) :
    ∃ x s, cycle_meet.f k l o day p = some (x, s) ∧ meetSpec (pre l o p l.length) day x s := by
  unfold cycle_meet.f
  exact cycle_meet_l0 l o p day hd.1 hs.1.2 hs.2.1 hp hs.2.2 l.length 0 k day 1 (by omega) (by have := hs.1.2; omega) (by omega) (by omega) (by omega) hd.2
    (fun t a b => ⟨fun _ => ⟨a, Int.one_dvd _⟩, fun _ j q1 q2 q3 q4 => by omega⟩)

/-- The answer of Next: a fault, or the first day. -/
theorem cycle_Next_f (l o : List Int) (day : Int) (p : List Int) (k : Nat) (hk : 9223372036854800000 ≤ k) :
    (begErr l o day p ≠ 0 ∧ cycle_Next.f k l o day p = some (0, begErr l o day p)) ∨
    (begErr l o day p = 0 ∧ (cycle_Next.f k l o day p = some (0, 6) ∧ (∀ t, day ≤ t → t ≤ 4000000 → p ≠ places l o t) ∨
      ∃ x, cycle_Next.f k l o day p = some (x, 0) ∧ day ≤ x ∧ x ≤ 4000000 ∧ p = places l o x ∧ ∀ t, day ≤ t → t < x → p ≠ places l o t)) := by
  unfold cycle_Next.f
  rw [cycle_begin_f l o day p k (by omega), Option.bind_some]
  by_cases c : begErr l o day p = 0
  · right
    refine ⟨c, ?_⟩
    obtain ⟨hs, hd, hp⟩ := begErr_zero c
    obtain ⟨x, s, hm, hspec⟩ := cycle_meet_f l o p day hd hs hp k hk
    rw [if_pos c, hm, Option.bind_some]
    rcases hspec with ⟨rfl, rfl, hn⟩ | ⟨h1, h2, h3, h4, hiff⟩
    · left
      exact ⟨rfl, fun t a b he => hn t a b ((pre_all l o p t hs.2.1 hp).2 he)⟩
    · right
      refine ⟨x, by rw [if_neg (show ¬ (x, s).2 < 0 from by simp only; omega)], h3, h4, ?_, fun t a b he => ?_⟩
      · exact (pre_all l o p x hs.2.1 hp).1 ((hiff x h3 h4).2 ⟨Int.le_refl _, by rw [Int.sub_self]; exact Int.dvd_zero _⟩)
      · have := ((hiff t a (by omega)).1 ((pre_all l o p t hs.2.1 hp).2 he)).1
        omega
  · left
    exact ⟨c, by rw [if_neg c]⟩

theorem ephemerisref1_In_f (x lo hi : Int) : ephemerisref1_In.f x lo hi = some (decide (lo ≤ x ∧ x ≤ hi)) := by
  unfold ephemerisref1_In.f
  by_cases h : x ≥ lo
  · rw [if_pos h]; congr 1; simp; omega
  · rw [if_neg h]; congr 1; simp; omega

theorem ephemerisref1_Day_f (x : Int) : ephemerisref1_Day.f x = some (decide (-4000000 ≤ x ∧ x ≤ 4000000)) := by
  unfold ephemerisref1_Day.f
  rw [ephemerisref1_In_f]; rfl

/-- From place i on: the first fault. -/
def setFrom : List (Int × Int) → Int
  | [] => 0
  | (a, b) :: r => if (1 ≤ a ∧ a ≤ 1000) ∧ (0 ≤ b ∧ b ≤ a - 1) then setFrom r else 3
def setErr (l o : List Int) : Int := if 1 ≤ l.length ∧ l.length ≤ 8 then (if l.length = o.length then setFrom (l.zip o) else 8) else 2
theorem rd_at (l : List Int) (i : Nat) (h : i < l.length) : rd l (i : Int) = l[i] := by
  unfold rd
  rw [show ((i : Int).toNat) = i from by omega, List.getD_eq_getElem?_getD, List.getElem?_eq_getElem h]; rfl
theorem zip_drop_cons (l o : List Int) (i : Nat) (h : i < l.length) (h2 : i < o.length) : (l.zip o).drop i = (l[i], o[i]) :: (l.zip o).drop (i + 1) := by
  have hz : i < (l.zip o).length := by rw [List.length_zip]; omega
  rw [List.drop_eq_getElem_cons hz, List.getElem_zip]
theorem ephemerisref1_SetError_l0 (l o : List Int) (hl : l.length ≤ 8) (ho : l.length = o.length) : ∀ (d i k : Nat), i + d = l.length → d < k →
    ephemerisref1_SetError.l0 k (l.length : Int) (i : Int) l o = some (setFrom ((l.zip o).drop i)) := by
  intro d
  induction d with
  | zero =>
    intro i k hi hk
    obtain ⟨k, rfl⟩ : ∃ m, k = m + 1 := ⟨k - 1, by omega⟩
    simp only [ephemerisref1_SetError.l0]
    rw [if_neg (by omega), List.drop_of_length_le (by rw [List.length_zip]; omega)]; rfl
  | succ d ih =>
    intro i k hi hk
    obtain ⟨k, rfl⟩ : ∃ m, k = m + 1 := ⟨k - 1, by omega⟩
    simp only [ephemerisref1_SetError.l0]
    rw [zip_drop_cons l o i (by omega) (by omega), rd_at l i (by omega), rd_at o i (by omega), if_pos (by omega), if_pos (by omega), if_pos (by omega), ephemerisref1_In_f]
    simp only [Option.bind_some, setFrom, decide_eq_true_eq]
    by_cases c : 1 ≤ l[i] ∧ l[i] ≤ 1000
    · rw [if_pos c, if_pos (by omega), w64_id (by omega) (by omega), ephemerisref1_In_f]
      simp only [Option.bind_some, decide_eq_true_eq]
      by_cases c2 : 0 ≤ o[i] ∧ o[i] ≤ l[i] - 1
      · rw [if_pos c2, if_pos ⟨c, c2⟩, w64_id (by omega) (by omega)]
        exact ih (i + 1) k (by omega) (by omega)
      · rw [if_neg c2, if_neg (fun h => c2 h.2)]
    · rw [if_neg c, if_neg (fun h => c h.1)]
theorem ephemerisref1_SetError_f (l o : List Int) (hl : l.length ≤ 9223372036854775807) (k : Nat) (hk : 20 ≤ k) : ephemerisref1_SetError.f k l o = some (setErr l o) := by
  unfold ephemerisref1_SetError.f setErr
  rw [ephemerisref1_In_f]
  simp only [Option.bind_some, decide_eq_true_eq]
  by_cases c : 1 ≤ l.length ∧ l.length ≤ 8
  · rw [if_pos (by omega), if_pos c]
    by_cases c2 : l.length = o.length
    · rw [if_pos (by omega), if_pos c2]
      have := ephemerisref1_SetError_l0 l o c.2 c2 l.length 0 k (by omega) (by omega)
      exact this
    · rw [if_neg (by omega), if_neg c2]
  · rw [if_neg (by omega), if_neg c]

theorem cyFrom_eq' : ∀ l : List (Int × Int), cyFrom l = setFrom l
  | [] => rfl
  | (a, b) :: r => by unfold cyFrom setFrom; rw [cyFrom_eq' r]
theorem cyErr_eq' (l o : List Int) : setErr l o = cyErr l o := by unfold cyErr setErr; rw [cyFrom_eq']
theorem ephemerislaw1_cycleError_l0 (l o p : List Int) (hl : l.length ≤ 8) (hb : ∀ (i : Nat) (h : i < l.length), 1 ≤ l[i] ∧ l[i] ≤ 1000) (hp : p.length = l.length) : ∀ (d i k : Nat), i + d = l.length → d < k →
    ephemerislaw1_cycleError.l0 k p (p.length : Int) (i : Int) l o = some (plErr ((l.zip p).drop i)) := by
  intro d
  induction d with
  | zero =>
    intro i k hi hk
    obtain ⟨k, rfl⟩ : ∃ m, k = m + 1 := ⟨k - 1, by omega⟩
    simp only [ephemerislaw1_cycleError.l0]
    rw [if_neg (by omega), List.drop_of_length_le (by rw [List.length_zip]; omega)]; rfl
  | succ d ih =>
    intro i k hi hk
    obtain ⟨k, rfl⟩ : ∃ m, k = m + 1 := ⟨k - 1, by omega⟩
    have hb := hb i (by omega)
    have ih := ih (i + 1) k (by omega) (by omega)
    rw [show ((i + 1 : Nat) : Int) = (i : Int) + 1 from by omega] at ih
    simp only [ephemerislaw1_cycleError.l0, ephemerisref1_In_f, Option.bind_some]
    rw [cy_zip_drop l p i (by omega) (by omega), cy_rd_at l i (by omega), cy_rd_at p i (by omega), w64_id (n := (i : Int) + 1) (by omega) (by omega), w64_id (n := l[i] - 1) (by omega) (by omega), ih]
    simp only [plErr]
    clear ih
    grind
theorem ephemerislaw1_cycleError_f (l o : List Int) (day : Int) (p : List Int) (hl : l.length ≤ 9223372036854775807) (k : Nat) (hk : 30 ≤ k) : ephemerislaw1_cycleError.f k l o day p = some (begErr l o day p) := by
  unfold ephemerislaw1_cycleError.f begErr
  rw [ephemerisref1_SetError_f l o hl k (by omega), cyErr_eq', ephemerisref1_Day_f, Option.bind_some, Option.bind_some]
  by_cases c : cyErr l o = 0
  · rw [if_pos c, if_pos c]
    have hs := (cyErr_zero l o).1 c
    by_cases c2 : -4000000 ≤ day ∧ day ≤ 4000000
    · rw [if_pos (decide_eq_true c2), if_pos c2]
      by_cases c3 : p.length = l.length
      · rw [if_pos (by omega), if_pos c3]
        exact ephemerislaw1_cycleError_l0 l o p hs.1.2 (fun i h => (hs.2.2 i h (by have := hs.2.1; omega)).1) c3 l.length 0 k (by omega) (by have := hs.1.2; omega)
      · rw [if_neg (by omega), if_neg c3]
    · rw [if_neg (by simpa using c2), if_neg c2]
  · rw [if_neg c, if_neg c]

theorem ephemerisref1_SameInts_l0 (a b : List Int) (hl : a.length = b.length) (hm : a.length ≤ 9223372036854775807) : ∀ (d i k : Nat), i + d = a.length → d < k →
    ephemerisref1_SameInts.l0 k a b (a.length : Int) (i : Int) = some (decide (a.drop i = b.drop i)) := by
  intro d
  induction d with
  | zero =>
    intro i k hi hk
    obtain ⟨k, rfl⟩ : ∃ m, k = m + 1 := ⟨k - 1, by omega⟩
    conv => lhs; unfold ephemerisref1_SameInts.l0
    rw [if_neg (by omega), List.drop_of_length_le (by omega), List.drop_of_length_le (by omega)]; rfl
  | succ d ih =>
    intro i k hi hk
    obtain ⟨k, rfl⟩ : ∃ m, k = m + 1 := ⟨k - 1, by omega⟩
    have h1 : i < a.length := by omega
    have h2 : i < b.length := by omega
    conv => lhs; unfold ephemerisref1_SameInts.l0
    rw [if_pos (by omega), if_pos (by omega), if_pos (by omega), if_pos (by omega), rd_get a i h1, rd_get b i h2, List.drop_eq_getElem_cons h1, List.drop_eq_getElem_cons h2]
    by_cases c : a[i] = b[i]
    · rw [if_pos c, w64_id (n := (i : Int) + 1) (by omega) (by omega)]
      have := ih (i + 1) k (by omega) (by omega)
      rw [show ((i + 1 : Nat) : Int) = (i : Int) + 1 from by omega] at this
      rw [this]
      congr 1
      apply decide_eq_decide.2
      constructor
      · intro h; rw [c, h]
      · intro h; exact (List.cons.inj h).2
    · rw [if_neg c]
      congr 1
      symm
      exact decide_eq_false (fun h => c (List.cons.inj h).1)
theorem ephemerisref1_SameInts_f (a b : List Int) (hm : a.length ≤ 9223372036854775807) (k : Nat) (hk : a.length < k) : ephemerisref1_SameInts.f k a b = some (decide (a = b)) := by
  unfold ephemerisref1_SameInts.f
  by_cases c : a.length = b.length
  · rw [if_pos (by omega)]
    exact ephemerisref1_SameInts_l0 a b c hm a.length 0 k (by omega) hk
  · rw [if_neg (by omega)]
    congr 1
    symm
    exact decide_eq_false (fun h => c (by rw [h]))

/-- At most m days, each s behind the one before it, up to the last day. -/
def steps (s : Int) : Nat → Int → List Int
  | 0, _ => []
  | m + 1, x => if 0 < s ∧ x ≤ 4000000 then x :: steps s m (x + s) else []
theorem cycle_Days_l0 (n : Int) (s : Int) (hn : 0 ≤ n ∧ n ≤ 200) (hs : s ≤ 1099511627776) : ∀ (m k : Nat) (acc : List Int) (x : Int), (acc.length : Int) + m = n → m < k → -4000000 ≤ x →
    cycle_Days.l0 k n acc x s = some (acc ++ steps s m x, 0) := by
  intro m
  induction m with
  | zero =>
    intro k acc x ha hk hx
    obtain ⟨k, rfl⟩ : ∃ m, k = m + 1 := ⟨k - 1, by omega⟩
    simp only [cycle_Days.l0, steps, List.append_nil, if_neg (show ¬ (acc.length : Int) < n by omega)]
    split <;> (try split) <;> rfl
  | succ m ih =>
    intro k acc x ha hk hx
    obtain ⟨k, rfl⟩ : ∃ m, k = m + 1 := ⟨k - 1, by omega⟩
    simp only [cycle_Days.l0, steps]
    by_cases c1 : 0 < s
    · by_cases c2 : x ≤ 4000000
      · rw [if_pos c1, if_pos c2, if_pos (show (acc.length : Int) < n by omega), if_pos (by omega), w64_id (n := x + s) (by omega) (by omega), if_pos ⟨c1, c2⟩]
        rw [ih k (acc ++ [x]) (x + s) (by rw [List.length_append]; simp; omega) (by omega) (by omega), List.append_assoc]; rfl
      · rw [if_pos c1, if_neg c2, if_neg (fun h => c2 h.2), List.append_nil]
    · rw [if_neg (by omega), if_neg (fun h => c1 h.1), List.append_nil]
theorem cycle_Days_f (l o : List Int) (day : Int) (p : List Int) (n : Int) (k : Nat) (hk : 9223372036854900000 ≤ k) :
    (begErr l o day p ≠ 0 ∧ cycle_Days.f k l o day p n = some ([], begErr l o day p)) ∨
    (begErr l o day p = 0 ∧ ((¬ (0 ≤ n ∧ n ≤ 200) ∧ cycle_Days.f k l o day p n = some ([], 1)) ∨
      ((0 ≤ n ∧ n ≤ 200) ∧ ∃ x s, cycle_Days.f k l o day p n = some (steps s n.toNat x, 0) ∧ meetSpec (pre l o p l.length) day x s))) := by
  obtain ⟨k, rfl⟩ : ∃ m, k = m + 1 := ⟨k - 1, by omega⟩
  unfold cycle_Days.f
  rw [cycle_begin_f l o day p _ (by omega), Option.bind_some]
  by_cases c : begErr l o day p = 0
  · right
    refine ⟨c, ?_⟩
    obtain ⟨hs, hd, hp⟩ := begErr_zero c
    rw [if_pos c]
    have hj : (if n < 0 then (cycle_Days.j0 (k + 1) day p n true l o) else (cycle_Days.j0 (k + 1) day p n (decide (n > 200)) l o)) = cycle_Days.j0 (k + 1) day p n (decide (¬ (0 ≤ n ∧ n ≤ 200))) l o := by
      by_cases c1 : n < 0
      · rw [if_pos c1, dec_not_true (by omega)]
      · rw [if_neg c1]; congr 1; exact decide_eq_decide.2 (by omega)
    rw [hj]
    by_cases cn : 0 ≤ n ∧ n ≤ 200
    · right
      refine ⟨cn, ?_⟩
      obtain ⟨x, s, hm, hspec⟩ := cycle_meet_f l o p day hd hs hp k (by omega)
      refine ⟨x, s, ?_, hspec⟩
      rw [dec_not_false cn]
      simp only [cycle_Days.j0, Bool.false_eq_true, if_false]
      rw [hm, Option.bind_some]
      have hb : s ≤ 1099511627776 ∧ -4000000 ≤ x := by rcases hspec with ⟨h1, h2, _⟩ | ⟨h1, h2, h3, h4, _⟩ <;> omega
      have := cycle_Days_l0 n s cn hb.1 n.toNat k [] x (by simp; omega) (by omega) hb.2
      rw [List.nil_append] at this
      exact this
    · left
      refine ⟨cn, ?_⟩
      rw [dec_not_true cn]
      simp only [cycle_Days.j0, if_true]
  · left
    exact ⟨c, by rw [if_neg c]⟩

theorem begErr_at {l o p : List Int} {day t : Int} (h : begErr l o day p = 0) (ht : -4000000 ≤ t ∧ t ≤ 4000000) : begErr l o t p = 0 := by
  obtain ⟨_, hd, _⟩ := begErr_zero h
  unfold begErr at *
  rw [if_pos hd] at h
  rw [if_pos ht]
  exact h
theorem steps_drop (s : Int) : ∀ (m : Nat) (x : Int) (l : List Int) (i : Nat), l.drop i = steps s m x → i < l.length → ∃ m', m = m' + 1 ∧ 0 < s ∧ x ≤ 4000000 ∧ rd l (i : Int) = x ∧ l.drop (i + 1) = steps s m' (x + s) := by
  intro m x l i h hi
  rw [List.drop_eq_getElem_cons hi] at h
  cases m with
  | zero => cases h
  | succ m =>
    simp only [steps] at h
    by_cases c : 0 < s ∧ x ≤ 4000000
    · rw [if_pos c] at h
      injection h with h1 h2
      exact ⟨m, rfl, c.1, c.2, by rw [rd_get l i hi]; exact h1, h2⟩
    · rw [if_neg c] at h; cases h
theorem steps_len (s : Int) : ∀ (m : Nat) (x : Int), (steps s m x).length ≤ m
  | 0, _ => Nat.le_refl _
  | m + 1, x => by
    simp only [steps]
    split
    · have := steps_len s m (x + s)
      simp only [List.length_cons]; omega
    · simp
theorem CycleLists_l0 (l o p : List Int) (day n s : Int) (ds : List Int) (hb : begErr l o day p = 0) (hs1 : 1 ≤ s) (hs2 : s ≤ 1099511627776) (hdl : ds.length ≤ 200)
    (x0 : Int) (hiff : ∀ t, day ≤ t → t ≤ 4000000 → (p = places l o t ↔ x0 ≤ t ∧ s ∣ t - x0)) :
    ∀ (m i k : Nat) (x at' : Int), ds.drop i = steps s m x → i ≤ ds.length → (i : Int) + m = n → m + 9223372036854800000 < k → day ≤ at' → at' ≤ x → x0 ≤ x → x ≤ 2199023255552 → s ∣ x - x0 → (at' = day ∧ x = x0 ∨ at' = x - s + 1 ∧ x0 ≤ x - s) →
    ephemerislaw1_CycleLists.l0 k p n ds at' ds (ds.length : Int) (i : Int) l o = some true := by
  obtain ⟨hs, hd, hp⟩ := begErr_zero hb
  intro m
  induction m with
  | zero =>
    intro i k x at' hdr hi hin hk h1 h2 hx0 hxb hdv hat
    obtain ⟨k, rfl⟩ : ∃ m, k = m + 1 := ⟨k - 1, by omega⟩
    have hlen : ds.length = i := by
      rcases Nat.lt_or_ge i ds.length with h | h
      · obtain ⟨m', hm, _⟩ := steps_drop s 0 x ds i hdr h; cases hm
      · omega
    simp only [ephemerislaw1_CycleLists.l0]
    rw [if_neg (by omega), if_pos (by omega)]
  | succ m ih =>
    intro i k x at' hdr hi hin hk h1 h2 hx0 hxb hdv hat
    obtain ⟨k, rfl⟩ : ∃ m, k = m + 1 := ⟨k - 1, by omega⟩
    -- none lies between
    have gap : ∀ t, at' ≤ t → t < x → t ≤ 4000000 → p ≠ places l o t := by
      intro t a b c he
      obtain ⟨q1, q2⟩ := (hiff t (by omega) c).1 he
      rcases hat with ⟨_, e⟩ | ⟨e1, e2⟩
      · omega
      · have hz : s ∣ x - t := by
          have := Int.dvd_sub hdv q2
          rwa [show x - x0 - (t - x0) = x - t from by omega] at this
        have := Int.le_of_dvd (by omega) hz
        omega
    conv => lhs; unfold ephemerislaw1_CycleLists.l0
    rcases Nat.lt_or_ge i ds.length with h | h
    · obtain ⟨m', hm, hs0, hxm, hrd, hdr'⟩ := steps_drop s (m + 1) x ds i hdr h
      obtain rfl : m' = m := by omega
      have hnext : cycle_Next.f k l o at' p = some (x, 0) := by
        have hx : p = places l o x := (hiff x (by omega) hxm).2 ⟨hx0, hdv⟩
        rcases cycle_Next_f l o at' p k (by omega) with ⟨h, _⟩ | ⟨_, ⟨_, h⟩ | ⟨y, e, g1, g2, g3, g4⟩⟩
        · exact absurd (begErr_at hb (by omega)) h
        · exact absurd hx (h x h2 hxm)
        · have a : ¬ x < y := fun hlt => g4 x h2 hlt hx
          have b : ¬ y < x := fun hlt => gap y g1 hlt g2 g3
          rw [e, show y = x from by omega]
      rw [if_pos (by omega), if_pos (by omega), if_pos (by omega), hnext, Option.bind_some, hrd]
      simp only [if_true]
      rw [w64_id (n := x + 1) (by omega) (by omega), w64_id (n := (i : Int) + 1) (by omega) (by omega)]
      exact ih (i + 1) k (x + s) (x + 1) hdr' (by omega) (by omega) (by omega) (by omega) (by omega) (by omega) (by omega) (by rw [show x + s - x0 = (x - x0) + s from by omega]; exact Int.dvd_add hdv (Int.dvd_refl _)) (.inr ⟨by omega, by omega⟩)
    · have hnil : steps s (m + 1) x = [] := by rw [← hdr]; exact List.drop_of_length_le h
      have hbig : 4000000 < x := by
        simp only [steps] at hnil
        by_cases c : 0 < s ∧ x ≤ 4000000
        · rw [if_pos c] at hnil; cases hnil
        · omega
      rw [if_neg (by omega), if_neg (by omega)]
      by_cases c : at' > 4000000
      · rw [if_pos c]
      · rw [if_neg c]
        rcases cycle_Next_f l o at' p k (by omega) with ⟨h, _⟩ | ⟨_, ⟨e, h⟩ | ⟨y, e, g1, g2, g3, g4⟩⟩
        · exact absurd (begErr_at hb (by omega)) h
        · rw [e]; rfl
        · exact absurd g3 (gap y g1 (by omega) g2)
theorem CycleLists : ephemerislaw1_CycleLists.Pure := by
  intro l o day p n hl ho hday hpl hn
  refine ⟨9223372036855000001, ?_⟩
  have pl : ∀ t, places [5, 7] [0, 0] t = [(t + 0) % 5, (t + 0) % 7] := fun t => rfl
  have two : cycle_Days.f 9223372036855000001 [5, 7] [0, 0] 13 [2, 5] 2 = some ([47, 82], 0) := by
    rcases cycle_Days_f [5, 7] [0, 0] 13 [2, 5] 2 9223372036855000001 (by omega) with ⟨h, _⟩ | ⟨_, ⟨h, _⟩ | ⟨_, x, s, h, hsp⟩⟩
    · exact absurd (by decide) h
    · exact absurd (by decide) h
    · have hp : ∀ t, pre [5, 7] [0, 0] [2, 5] 2 t ↔ (t % 5 = 2 ∧ t % 7 = 5) := by
        intro t
        rw [show (2 : Nat) = ([5, 7] : List Int).length from rfl, pre_all [5, 7] [0, 0] [2, 5] t rfl rfl, pl]
        simp only [List.cons.injEq, and_true, Int.add_zero]
        exact ⟨fun h => ⟨h.1.symm, h.2.symm⟩, fun h => ⟨h.1.symm, h.2.symm⟩⟩
      rw [h]
      have hsp : meetSpec (pre [5, 7] [0, 0] [2, 5] 2) 13 x s := hsp
      rcases hsp with ⟨_, _, hno⟩ | ⟨h1, h2, h3, h4, hi⟩
      · exact absurd ((hp 47).2 (by decide)) (hno 47 (by omega) (by omega))
      · have a := (hp x).1 ((hi x h3 h4).2 ⟨Int.le_refl _, by rw [Int.sub_self]; exact Int.dvd_zero _⟩)
        have b := ((hi 47 (by omega) (by omega)).1 ((hp 47).2 (by decide))).1
        have hx : x = 47 := by omega
        subst hx
        have c := ((hi 82 (by omega) (by omega)).1 ((hp 82).2 (by decide))).2
        have c1 := Int.le_of_dvd (by omega) c
        have d := (hp (47 + s)).1 ((hi (47 + s) (by omega) (by omega)).2 ⟨by omega, by rw [show 47 + s - 47 = s from by omega]; exact Int.dvd_refl _⟩)
        have hs : s = 35 := by omega
        subst hs
        rfl
  unfold ephemerislaw1_CycleLists.f
  rw [two, Option.bind_some]
  simp only [if_true]
  have hsame : ephemerisref1_SameInts.f 9223372036855000001 [47, 82] [47, 82] = some true := by
    rw [ephemerisref1_SameInts_f _ _ (by decide) _ (by simp)]; rfl
  rw [hsame, Option.bind_some]
  simp only [ephemerislaw1_CycleLists.j0, Bool.not_true, Bool.false_eq_true, if_false, ephemerisref1_In_f, Option.bind_some]
  rw [ephemerislaw1_cycleError_f l o day p hl.2.1 _ (by omega)]
  rcases cycle_Days_f l o day p n 9223372036855000000 (by omega) with ⟨h, e⟩ | ⟨h0, ⟨hn', e⟩ | ⟨hn', x, s, e, hsp⟩⟩
  · rw [e, Option.bind_some, Option.bind_some, if_neg h]
    simp only [ephemerislaw1_CycleLists.j1, ephemerislaw1_CycleLists.j2, Bool.false_eq_true, if_false]
    rw [if_neg h]; simp
  · rw [e, Option.bind_some, Option.bind_some, if_pos h0, decide_eq_false hn']
    simp only [ephemerislaw1_CycleLists.j1, ephemerislaw1_CycleLists.j2, Bool.not_false, if_true]
    rw [if_neg (by decide)]; simp
  · obtain ⟨hs, hd, hp⟩ := begErr_zero h0
    rw [e, Option.bind_some, Option.bind_some, if_pos h0, decide_eq_true hn']
    simp only [ephemerislaw1_CycleLists.j1, ephemerislaw1_CycleLists.j2, ephemerislaw1_CycleLists.j3, Bool.not_true, Bool.false_eq_true, if_false]
    have hlen := steps_len s n.toNat x
    rw [if_pos h0, if_pos trivial, if_neg (by simp; omega)]
    rcases hsp with ⟨rfl, rfl, hno⟩ | ⟨h1, h2, h3, h4, hi⟩
    · have hnil : steps (-1) n.toNat 0 = [] := by cases n.toNat <;> simp [steps]
      have hnil2 : ([] : List Int) = steps 1 n.toNat 4000001 := by cases n.toNat <;> simp [steps]
      rw [hnil]
      exact CycleLists_l0 l o p day n 1 [] h0 (by omega) (by omega) (by simp) 4000001 (fun t a b => ⟨fun he => absurd ((pre_all l o p t hs.2.1 hp).2 he) (hno t a b), fun he => by omega⟩) n.toNat 0 _ 4000001 day (by simpa using hnil2) (by simp) (by omega) (by omega) (by omega) (by omega) (by omega) (by omega) (by simp) (.inl ⟨rfl, rfl⟩)
    · exact CycleLists_l0 l o p day n s (steps s n.toNat x) h0 h1 h2 (by omega) x (fun t a b => (pre_all l o p t hs.2.1 hp).symm.trans (hi t a b)) n.toNat 0 _ x day (by simp) (by simp) (by omega) (by omega) (by omega) h3 (by omega) (by omega) (by simp) (.inl ⟨rfl, rfl⟩)
end Go.Proofs.Yteogcbhlilechaa.Pure
