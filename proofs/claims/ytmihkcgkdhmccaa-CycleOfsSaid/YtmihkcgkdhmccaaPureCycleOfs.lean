/- The law CycleOfs over numbers and lists: what the law's functions tell, and that the law holds. -/
import Derived.Test.YtmihkcgkdhmccaaPCycleOfsx4
import Derived.Test.YtmihkcgkdhmccaaM
import Derived.Test.YtmihkcgkdhmccaaC
import Derived.Test.YtmihkcgkdhmccaaL
import Derived.Test.YtmihkcgkdhmccaaO
namespace Go.Proofs.Ytmihkcgkdhmccaa.Pure
open Go.RowKit Go.Proofs.Ytmihkcgkdhmccaa.PCycleOfs Go.Proofs.YtmihkcgkdhmccaaW.PrintWords Go.Proofs.YtmihkcgkdhmccaaW.PrintLast Go.Proofs.Ytmihkcgkdhmccaa.M Go.Proofs.Ytmihkcgkdhmccaa.C Go.Proofs.Ytmihkcgkdhmccaa.L Go.Proofs.Ytmihkcgkdhmccaa.O
set_option linter.unusedVariables false
set_option linter.unusedSimpArgs false
/-- The law over numbers and lists. -/
def ephemerislaw1_CycleOfs.Pure : Prop := ∀ (l0_0 : List (Int)) (l0_1 : List (Int)) (a1 : Int), (l0_0.length * 8 ≤ 140737488351232 ∧ l0_0.length ≤ 9223372036854775807 ∧ ∀ v ∈ l0_0, (Lit.int .i64 v).wf = true) → (l0_1.length * 8 ≤ 140737488351232 ∧ l0_1.length ≤ 9223372036854775807 ∧ ∀ v ∈ l0_1, (Lit.int .i64 v).wf = true) → (Lit.int .i64 a1).wf = true → ∃ k, ephemerislaw1_CycleOfs.f k l0_0 l0_1 a1 = some true

theorem ephemerisref1_In_f (x lo hi : Int) : ephemerisref1_In.f x lo hi = some (decide (lo ≤ x ∧ x ≤ hi)) := by
  unfold ephemerisref1_In.f
  by_cases h : x ≥ lo
  · rw [if_pos h]; congr 1; simp; omega
  · rw [if_neg h]; congr 1; simp; omega

theorem ephemerisref1_Day_f (x : Int) : ephemerisref1_Day.f x = some (decide (-4000000 ≤ x ∧ x ≤ 4000000)) := by
  unfold ephemerisref1_Day.f
  rw [ephemerisref1_In_f]; rfl

theorem line_Check_f (x : Int) : line_Check.f x = some (if -4000000 ≤ x ∧ x ≤ 4000000 then 0 else 3) := by
  unfold line_Check.f
  by_cases h : x < -4000000
  · rw [if_pos h, if_neg (by omega)]
  · rw [if_neg h]
    by_cases h2 : x > 4000000
    · rw [if_pos h2, if_neg (by omega)]
    · rw [if_neg h2, if_pos (by omega)]

/-- From place i on: the first fault. -/
def cyFrom : List (Int × Int) → Int
  | [] => 0
  | (a, b) :: r => if (1 ≤ a ∧ a ≤ 1000) ∧ (0 ≤ b ∧ b ≤ a - 1) then cyFrom r else 3
def cyErr (l o : List Int) : Int := if 1 ≤ l.length ∧ l.length ≤ 8 then (if l.length = o.length then cyFrom (l.zip o) else 8) else 2
theorem cy_rd_at (l : List Int) (i : Nat) (h : i < l.length) : rd l (i : Int) = l[i] := by
  unfold rd
  rw [show ((i : Int).toNat) = i from by omega, List.getD_eq_getElem?_getD, List.getElem?_eq_getElem h]; rfl
theorem cy_zip_drop (l o : List Int) (i : Nat) (h : i < l.length) (h2 : i < o.length) : (l.zip o).drop i = (l[i], o[i]) :: (l.zip o).drop (i + 1) := by
  have hz : i < (l.zip o).length := by rw [List.length_zip]; omega
  rw [List.drop_eq_getElem_cons hz, List.getElem_zip]
theorem cycle_Check_l0 (l o : List Int) (hl : l.length ≤ 8) (ho : l.length = o.length) : ∀ (d i k : Nat), i + d = l.length → d < k →
    cycle_Check.l0 k l (l.length : Int) (i : Int) l o = some (cyFrom ((l.zip o).drop i)) := by
  intro d
  induction d with
  | zero =>
    intro i k hi hk
    obtain ⟨k, rfl⟩ : ∃ m, k = m + 1 := ⟨k - 1, by omega⟩
    simp only [cycle_Check.l0]
    rw [if_neg (by omega), List.drop_of_length_le (by rw [List.length_zip]; omega)]; rfl
  | succ d ih =>
    intro i k hi hk
    obtain ⟨k, rfl⟩ : ∃ m, k = m + 1 := ⟨k - 1, by omega⟩
    simp only [cycle_Check.l0]
    rw [cy_zip_drop l o i (by omega) (by omega), cy_rd_at l i (by omega), cy_rd_at o i (by omega), if_pos (by omega), if_pos (by omega), if_pos (by omega)]
    simp only [cyFrom]
    by_cases c : (1 ≤ l[i] ∧ l[i] ≤ 1000) ∧ (0 ≤ o[i] ∧ o[i] ≤ l[i] - 1)
    · rw [if_pos c, if_neg (by omega), if_neg (by omega), if_pos (by omega), if_neg (by omega), if_neg (by omega), w64_id (by omega) (by omega)]
      exact ih (i + 1) k (by omega) (by omega)
    · rw [if_neg c]
      by_cases c1 : l[i] < 1
      · rw [if_pos c1]
      rw [if_neg c1]
      by_cases c2 : l[i] > 1000
      · rw [if_pos c2]
      rw [if_neg c2, if_pos (by omega)]
      by_cases c3 : o[i] < 0
      · rw [if_pos c3]
      rw [if_neg c3, if_pos (by omega)]
theorem cycle_Check_f (l o : List Int) (k : Nat) (hk : 20 ≤ k) : cycle_Check.f k l o = some (cyErr l o) := by
  obtain ⟨k, rfl⟩ : ∃ m, k = m + 1 := ⟨k - 1, by omega⟩
  have e : cycle_Check.f (k + 1) l o = cycle_Check.j0 (k + 1) (decide (¬ (1 ≤ l.length ∧ l.length ≤ 8))) l o := by
    unfold cycle_Check.f
    by_cases c : (l.length : Int) < 1
    · rw [if_pos c, decide_eq_true (by omega)]
    · rw [if_neg c]
      by_cases c2 : (l.length : Int) > 8
      · rw [decide_eq_true c2, decide_eq_true (by omega)]
      · rw [decide_eq_false c2, decide_eq_false (by omega)]
  rw [e]
  simp only [cycle_Check.j0, decide_eq_true_eq]
  unfold cyErr
  by_cases c : 1 ≤ l.length ∧ l.length ≤ 8
  · rw [if_neg (fun h => h c), if_pos c]
    by_cases c2 : l.length = o.length
    · rw [if_pos (by omega), if_pos c2]
      exact cycle_Check_l0 l o c.2 c2 l.length 0 k (by omega) (by omega)
    · rw [if_neg (by omega), if_neg c2]
  · rw [if_pos c, if_neg c]
theorem cyFrom_ok : ∀ (l o : List Int), l.length = o.length → (cyFrom (l.zip o) = 0 ↔ ∀ (i : Nat) (h : i < l.length) (h' : i < o.length), (1 ≤ l[i] ∧ l[i] ≤ 1000) ∧ (0 ≤ o[i] ∧ o[i] ≤ l[i] - 1))
  | [], [], _ => ⟨fun _ i h => by simp at h, fun _ => rfl⟩
  | a :: l, b :: o, hl => by
    have ih := cyFrom_ok l o (by simpa using hl)
    rw [List.zip_cons_cons]
    unfold cyFrom
    by_cases c : (1 ≤ a ∧ a ≤ 1000) ∧ (0 ≤ b ∧ b ≤ a - 1)
    · rw [if_pos c, ih]
      constructor
      · intro h i hi hi'
        cases i with
        | zero => exact c
        | succ i => exact h i (by simpa using hi) (by simpa using hi')
      · intro h i hi hi'
        exact h (i + 1) (by simpa using hi) (by simpa using hi')
    · rw [if_neg c]
      exact ⟨fun h => by omega, fun h => absurd (h 0 (by simp) (by simp)) c⟩
theorem cyErr_zero (l o : List Int) : cyErr l o = 0 ↔ Go.Proofs.Ytmihkcgkdhmccaa.C.okSet l o := by
  unfold cyErr Go.Proofs.Ytmihkcgkdhmccaa.C.okSet
  by_cases c : 1 ≤ l.length ∧ l.length ≤ 8
  · rw [if_pos c]
    by_cases c2 : l.length = o.length
    · rw [if_pos c2, cyFrom_ok l o c2]
      exact ⟨fun h => ⟨c, c2, h⟩, fun h => h.2.2⟩
    · rw [if_neg c2]
      exact ⟨fun h => absurd h (by decide), fun h => absurd h.2.1 c2⟩
  · rw [if_neg c]
    exact ⟨fun h => absurd h (by decide), fun h => absurd h.1 c⟩

theorem whole_Mod_f {a m : Int} (hm : 0 < m) (hm1 : m ≤ 9223372036854775807) : whole_Mod.f a m = some (a % m) := by
  unfold whole_Mod.f
  rw [if_neg (by omega)]
  obtain ⟨h1, h2⟩ := tmod_emod a m hm
  have h3 := Int.emod_nonneg a (b := m) (by omega)
  have h4 := Int.emod_lt_of_pos a hm
  by_cases c : Int.tmod a m < 0
  · rw [if_pos c, h1 c, w64_id (by omega) (by omega)]
  · rw [if_neg c, h2 c]

theorem cycle_Of_l0 (day : Int) (l o : List Int) (hd : -4000000 ≤ day ∧ day ≤ 4000000) (ho : okSet l o) : ∀ (d i k : Nat), i + d = l.length → d < k →
    cycle_Of.l0 k day ((places l o day).take i) l (l.length : Int) (i : Int) l o = some (places l o day, 0) := by
  obtain ⟨⟨hl0, hl1⟩, hlo, hb⟩ := ho
  intro d
  induction d with
  | zero =>
    intro i k hi hk
    obtain ⟨k, rfl⟩ : ∃ m, k = m + 1 := ⟨k - 1, by omega⟩
    simp only [cycle_Of.l0]
    rw [if_neg (by omega), List.take_of_length_le (by rw [places_length l o day hlo]; omega)]
  | succ d ih =>
    intro i k hi hk
    obtain ⟨k, rfl⟩ : ∃ m, k = m + 1 := ⟨k - 1, by omega⟩
    have hlt : i < l.length := by omega
    have hlt' : i < o.length := by omega
    obtain ⟨b1, b2⟩ := hb i hlt hlt'
    simp only [cycle_Of.l0]
    rw [if_pos (by omega), if_pos (by omega), if_pos (by omega), if_pos (by omega), rd_get l i hlt, rd_get o i hlt', w64_id (n := day + o[i]) (by omega) (by omega), whole_Mod_f (by omega) (by omega), Option.bind_some, if_pos (by rw [List.length_take, places_length l o day hlo]; omega), places_take l o day i hlt hlt', w64_id (n := (i : Int) + 1) (by omega) (by omega)]
    exact ih (i + 1) k (by omega) (by omega)
theorem cycle_Of_f (day : Int) (l o : List Int) (k : Nat) (hk : 20 ≤ k) : cycle_Of.f k l o day = some (if cyErr l o = 0 then (if -4000000 ≤ day ∧ day ≤ 4000000 then (places l o day, 0) else ([], 3)) else ([], cyErr l o)) := by
  unfold cycle_Of.f
  rw [cycle_Check_f l o k hk, Option.bind_some]
  by_cases c : cyErr l o = 0
  · rw [if_pos c, if_pos c, line_Check_f, Option.bind_some]
    by_cases d : -4000000 ≤ day ∧ day ≤ 4000000
    · have hs := (cyErr_zero l o).1 c
      rw [if_pos d, if_pos rfl, if_pos d]
      exact cycle_Of_l0 day l o d hs l.length 0 k (by omega) (by have := hs.1.2; omega)
    · rw [if_neg d, if_neg d]; rfl
  · rw [if_neg c, if_neg c]

theorem ephemerisref1_SameInts_l0 (a b : List Int) (hl : a.length = b.length) (hm : a.length ≤ 9223372036854775807) : ∀ (d i k : Nat), i + d = a.length → d < k →
    ephemerisref1_SameInts.l0 k a b (a.length : Int) (i : Int) = some (decide (a.drop i = b.drop i)) := by
  intro d
  induction d with
  | zero =>
    intro i k hi hk
    obtain ⟨k, rfl⟩ : ∃ m, k = m + 1 := ⟨k - 1, by omega⟩
    conv => lhs; unfold ephemerisref1_SameInts.l0
    rw [if_neg (by omega), List.drop_of_length_le (by omega), List.drop_of_length_le (by omega)]; rfl
  | succ d ih =>
    intro i k hi hk
    obtain ⟨k, rfl⟩ : ∃ m, k = m + 1 := ⟨k - 1, by omega⟩
    have h1 : i < a.length := by omega
    have h2 : i < b.length := by omega
    conv => lhs; unfold ephemerisref1_SameInts.l0
    rw [if_pos (by omega), if_pos (by omega), if_pos (by omega), if_pos (by omega), rd_get a i h1, rd_get b i h2, List.drop_eq_getElem_cons h1, List.drop_eq_getElem_cons h2]
    by_cases c : a[i] = b[i]
    · rw [if_pos c, w64_id (n := (i : Int) + 1) (by omega) (by omega)]
      have := ih (i + 1) k (by omega) (by omega)
      rw [show ((i + 1 : Nat) : Int) = (i : Int) + 1 from by omega] at this
      rw [this]
      congr 1
      apply decide_eq_decide.2
      constructor
      · intro h; rw [c, h]
      · intro h; exact (List.cons.inj h).2
    · rw [if_neg c]
      congr 1
      symm
      exact decide_eq_false (fun h => c (List.cons.inj h).1)
theorem ephemerisref1_SameInts_f (a b : List Int) (hm : a.length ≤ 9223372036854775807) (k : Nat) (hk : a.length < k) : ephemerisref1_SameInts.f k a b = some (decide (a = b)) := by
  unfold ephemerisref1_SameInts.f
  by_cases c : a.length = b.length
  · rw [if_pos (by omega)]
    exact ephemerisref1_SameInts_l0 a b c hm a.length 0 k (by omega) hk
  · rw [if_neg (by omega)]
    congr 1
    symm
    exact decide_eq_false (fun h => c (by rw [h]))

theorem whole_size_f {a : Int} (h0 : -9223372036854775808 ≤ a) (h1 : a ≤ 9223372036854775807) : whole_size.f a = some (ab a) := by
  unfold whole_size.f ab
  by_cases c : a < 0
  · rw [if_pos c, if_pos c, u64_def a, u64_def]
    congr 1; omega
  · rw [if_neg c, if_neg c, u64_id (by omega) (by omega)]

theorem whole_Gcd_l0 : ∀ (n k x y : Nat), y ≤ n → n < k → x ≤ 9223372036854775808 → y ≤ 9223372036854775808 → (0 < x ∨ y ≤ 9223372036854775808) →
    whole_Gcd.l0 k (x : Int) (y : Int) = some (if Nat.gcd x y = 9223372036854775808 then (0, 14) else ((Nat.gcd x y : Int), 0)) := by
  intro n
  induction n with
  | zero =>
    intro k x y hy hk hx hy1 _
    obtain ⟨k, rfl⟩ : ∃ m, k = m + 1 := ⟨k - 1, by omega⟩
    obtain rfl : y = 0 := by omega
    simp only [whole_Gcd.l0]
    rw [if_pos (by omega), Nat.gcd_zero_right]
    by_cases c : x = 9223372036854775808
    · rw [if_pos (by omega), if_pos c]
    · rw [if_neg (by omega), if_neg c, w64_id (by omega) (by omega)]
  | succ n ih =>
    intro k x y hy hk hx hy1 _
    obtain ⟨k, rfl⟩ : ∃ m, k = m + 1 := ⟨k - 1, by omega⟩
    simp only [whole_Gcd.l0]
    by_cases c0 : y = 0
    · subst c0
      rw [if_pos (by omega), Nat.gcd_zero_right]
      by_cases c : x = 9223372036854775808
      · rw [if_pos (by omega), if_pos c]
      · rw [if_neg (by omega), if_neg c, w64_id (by omega) (by omega)]
    · have hm : x % y < y := Nat.mod_lt _ (by omega)
      rw [if_neg (by omega), show Int.tmod (x : Int) (y : Int) = ((x % y : Nat) : Int) from by rw [← Int.ofNat_tmod]]
      rw [ih k y (x % y) (by omega) (by omega) hy1 (by omega) (.inl (by omega))]
      rw [show Nat.gcd y (x % y) = Nat.gcd x y from by rw [Nat.gcd_comm y, ← Nat.gcd_rec, Nat.gcd_comm]]
theorem gcd_ab (a b : Int) : Nat.gcd (ab a).toNat (ab b).toNat = Int.gcd a b := by
  have h : ∀ c : Int, (ab c).toNat = c.natAbs := fun c => by unfold ab; split <;> omega
  rw [h, h]; rfl
theorem gcd_le {a b : Int} (ha : -9223372036854775808 ≤ a) (ha1 : a ≤ 9223372036854775807) (hb : -9223372036854775808 ≤ b) (hb1 : b ≤ 9223372036854775807) : Int.gcd a b ≤ 9223372036854775808 := by
  show Nat.gcd a.natAbs b.natAbs ≤ _
  by_cases h : a.natAbs = 0
  · rw [h, Nat.gcd_zero_left]; omega
  · have := Nat.gcd_le_left b.natAbs (show 0 < a.natAbs by omega)
    omega
theorem whole_Gcd_f {a b : Int} (k : Nat) (hk : 9223372036854775810 ≤ k) (ha : -9223372036854775808 ≤ a) (ha1 : a ≤ 9223372036854775807) (hb : -9223372036854775808 ≤ b) (hb1 : b ≤ 9223372036854775807) :
    whole_Gcd.f k a b = some (if Int.gcd a b = 9223372036854775808 then (0, 14) else ((Int.gcd a b : Int), 0)) := by
  unfold whole_Gcd.f
  rw [whole_size_f ha ha1, whole_size_f hb hb1]
  simp only [Option.bind_some]
  have e1 := ab_nonneg a
  have e2 := ab_nonneg b
  have e3 := ab_le ha ha1
  have e4 := ab_le hb hb1
  have := whole_Gcd_l0 9223372036854775808 k (ab a).toNat (ab b).toNat (by omega) (by omega) (by omega) (by omega) (.inr (by omega))
  rw [gcd_ab, Int.toNat_of_nonneg e1, Int.toNat_of_nonneg e2] at this
  exact this

theorem cycle_Full_l0 (l : List Int) (hl : l.length ≤ 8) (hb : ∀ (i : Nat) (h : i < l.length), 1 ≤ l[i] ∧ l[i] ≤ 1000) : ∀ (d i k : Nat) (f : Int), i + d = l.length → 9223372036854775810 + d < k → 1 ≤ f → f ≤ 1000000000 →
    cycle_Full.l0 k f l (l.length : Int) (i : Int) = some (if (l.drop i).foldl lcmStep f > 1000000000 then (0, 14) else ((l.drop i).foldl lcmStep f, 0)) := by
  have stay : ∀ (t : List Int) (f : Int), f > 1000000000 → t.foldl lcmStep f = f := by
    intro t
    induction t with
    | nil => intro f _; rfl
    | cons a t ih =>
      intro f hf
      rw [List.foldl_cons, show lcmStep f a = f from by unfold lcmStep; rw [if_neg (by omega)]]
      exact ih f hf
  intro d
  induction d with
  | zero =>
    intro i k f hi hk h1 h2
    obtain ⟨k, rfl⟩ : ∃ m, k = m + 1 := ⟨k - 1, by omega⟩
    conv => lhs; unfold cycle_Full.l0
    rw [if_neg (by omega), List.drop_of_length_le (by omega), List.foldl_nil, if_neg (by omega)]
  | succ d ih =>
    intro i k f hi hk h1 h2
    obtain ⟨k, rfl⟩ : ∃ m, k = m + 1 := ⟨k - 1, by omega⟩
    have hlt : i < l.length := by omega
    obtain ⟨b1, b2⟩ := hb i hlt
    obtain ⟨g0, g1, g2, g3, g4, g5⟩ := lcm_bound h1 h2 b1 b2
    have hne : ¬ Int.gcd f l[i] = 9223372036854775808 := by omega
    have es : lcmStep f l[i] = f / (Int.gcd f l[i] : Int) * l[i] := by unfold lcmStep; rw [if_pos h2]
    conv => lhs; unfold cycle_Full.l0
    rw [if_pos (by omega), if_pos (by omega), if_pos (by omega), rd_get l i hlt, whole_Gcd_f k (by omega) (by omega) (by omega) (by omega) (by omega), Option.bind_some, if_neg hne, List.drop_eq_getElem_cons hlt, List.foldl_cons, es]
    simp only
    rw [if_neg (by omega), Int.tdiv_eq_ediv_of_nonneg (by omega)]
    generalize (Int.gcd f l[i] : Int) = g at *
    rw [w64_id (n := f / g) (by omega) (by omega), w64_id (n := f / g * l[i]) (by omega) (by omega)]
    by_cases c : f / g * l[i] > 1000000000
    · rw [if_pos c, stay _ _ c, if_pos c]
    · rw [if_neg c, w64_id (n := (i : Int) + 1) (by omega) (by omega)]
      exact ih (i + 1) k (f / g * l[i]) (by omega) (by omega) (by omega) (by omega)
theorem cycle_Full_f (l o : List Int) (k : Nat) (hk : 9223372036854775830 ≤ k) : cycle_Full.f k l o = some (if cyErr l o = 0 then (if l.foldl lcmStep 1 > 1000000000 then (0, 14) else (l.foldl lcmStep 1, 0)) else (0, cyErr l o)) := by
  unfold cycle_Full.f
  rw [cycle_Check_f l o k (by omega), Option.bind_some]
  by_cases c : cyErr l o = 0
  · have hs := (cyErr_zero l o).1 c
    rw [if_pos c, if_pos c]
    exact cycle_Full_l0 l hs.1.2 (fun i h => (hs.2.2 i h (by have := hs.2.1; omega)).1) l.length 0 k 1 (by omega) (by have := hs.1.2; omega) (by omega) (by omega)
  · rw [if_neg c, if_neg c]

/-- From place i on: the first fault. -/
def setFrom : List (Int × Int) → Int
  | [] => 0
  | (a, b) :: r => if (1 ≤ a ∧ a ≤ 1000) ∧ (0 ≤ b ∧ b ≤ a - 1) then setFrom r else 3
def setErr (l o : List Int) : Int := if 1 ≤ l.length ∧ l.length ≤ 8 then (if l.length = o.length then setFrom (l.zip o) else 8) else 2
theorem rd_at (l : List Int) (i : Nat) (h : i < l.length) : rd l (i : Int) = l[i] := by
  unfold rd
  rw [show ((i : Int).toNat) = i from by omega, List.getD_eq_getElem?_getD, List.getElem?_eq_getElem h]; rfl
theorem zip_drop_cons (l o : List Int) (i : Nat) (h : i < l.length) (h2 : i < o.length) : (l.zip o).drop i = (l[i], o[i]) :: (l.zip o).drop (i + 1) := by
  have hz : i < (l.zip o).length := by rw [List.length_zip]; omega
  rw [List.drop_eq_getElem_cons hz, List.getElem_zip]
theorem ephemerisref1_SetError_l0 (l o : List Int) (hl : l.length ≤ 8) (ho : l.length = o.length) : ∀ (d i k : Nat), i + d = l.length → d < k →
    ephemerisref1_SetError.l0 k (l.length : Int) (i : Int) l o = some (setFrom ((l.zip o).drop i)) := by
  intro d
  induction d with
  | zero =>
    intro i k hi hk
    obtain ⟨k, rfl⟩ : ∃ m, k = m + 1 := ⟨k - 1, by omega⟩
    simp only [ephemerisref1_SetError.l0]
    rw [if_neg (by omega), List.drop_of_length_le (by rw [List.length_zip]; omega)]; rfl
  | succ d ih =>
    intro i k hi hk
    obtain ⟨k, rfl⟩ : ∃ m, k = m + 1 := ⟨k - 1, by omega⟩
    simp only [ephemerisref1_SetError.l0]
    rw [zip_drop_cons l o i (by omega) (by omega), rd_at l i (by omega), rd_at o i (by omega), if_pos (by omega), if_pos (by omega), if_pos (by omega), ephemerisref1_In_f]
    simp only [Option.bind_some, setFrom, decide_eq_true_eq]
    by_cases c : 1 ≤ l[i] ∧ l[i] ≤ 1000
    · rw [if_pos c, if_pos (by omega), w64_id (by omega) (by omega), ephemerisref1_In_f]
      simp only [Option.bind_some, decide_eq_true_eq]
      by_cases c2 : 0 ≤ o[i] ∧ o[i] ≤ l[i] - 1
      · rw [if_pos c2, if_pos ⟨c, c2⟩, w64_id (by omega) (by omega)]
        exact ih (i + 1) k (by omega) (by omega)
      · rw [if_neg c2, if_neg (fun h => c2 h.2)]
    · rw [if_neg c, if_neg (fun h => c h.1)]
theorem ephemerisref1_SetError_f (l o : List Int) (hl : l.length ≤ 9223372036854775807) (k : Nat) (hk : 20 ≤ k) : ephemerisref1_SetError.f k l o = some (setErr l o) := by
  unfold ephemerisref1_SetError.f setErr
  rw [ephemerisref1_In_f]
  simp only [Option.bind_some, decide_eq_true_eq]
  by_cases c : 1 ≤ l.length ∧ l.length ≤ 8
  · rw [if_pos (by omega), if_pos c]
    by_cases c2 : l.length = o.length
    · rw [if_pos (by omega), if_pos c2]
      have := ephemerisref1_SetError_l0 l o c.2 c2 l.length 0 k (by omega) (by omega)
      exact this
    · rw [if_neg (by omega), if_neg c2]
  · rw [if_neg (by omega), if_neg c]

theorem ephemerisref1_Size_f {a : Int} (h0 : -9223372036854775808 ≤ a) (h1 : a ≤ 9223372036854775807) : ephemerisref1_Size.f a = some (ab a) := by
  unfold ephemerisref1_Size.f ab
  by_cases c : a < 0
  · rw [if_pos c, if_pos c, w64_id (n := a + 1) (by omega) (by omega), w64_id (n := -(a + 1)) (by omega) (by omega), u64_id (n := -(a + 1)) (by omega) (by omega), u64_id (by omega) (by omega)]
    congr 1; omega
  · rw [if_neg c, if_neg c, u64_id (by omega) (by omega)]

theorem shl_gcd (g t : Nat) (h : g * 2 ^ t < 18446744073709551616) (ht : t ≤ 64) : shl .u64 (g : Int) (t : Int) = ((g * 2 ^ t : Nat) : Int) := by
  unfold shl
  rw [show ((t : Int).toNat) = t from by omega, Nat.min_eq_left (by simp [IntKind.bits]; omega)]
  rw [show (g : Int) * 2 ^ t = ((g * 2 ^ t : Nat) : Int) from by simp]
  exact u64_id (by omega) (by omega)
theorem gcd_half {x y : Nat} (hx : x % 2 = 0) (hy : y % 2 = 1) : Nat.gcd (x / 2) y = Nat.gcd x y := by
  have hc : Nat.Coprime 2 y := by
    unfold Nat.Coprime
    rw [Nat.gcd_rec, hy]; rfl
  have := Nat.Coprime.gcd_mul_left_cancel (k := 2) (n := y) (x / 2) hc
  rw [show 2 * (x / 2) = x from by omega] at this
  exact this.symm
theorem ephemerisref1_Gcd_l1 : ∀ (n k x y t : Nat), x + y ≤ n → n < k → 0 < x → 0 < y → x < 18446744073709551616 → y < 18446744073709551616 → (x % 2 = 1 ∨ y % 2 = 1) →
    ephemerisref1_Gcd.l1 k (x : Int) (y : Int) (t : Int) = some (shl .u64 (Nat.gcd x y : Int) (t : Int)) := by
  intro n
  induction n with
  | zero => intro k x y t h; omega
  | succ n ih =>
    intro k x y t h hk hx hy hx1 hy1 ho
    obtain ⟨k, rfl⟩ : ∃ m, k = m + 1 := ⟨k - 1, by omega⟩
    simp only [ephemerisref1_Gcd.l1]
    by_cases c : x = y
    · subst c
      rw [if_pos rfl, if_pos (by omega), Nat.gcd_self]
    rw [if_neg (by omega), and_one _ (by omega) (by omega), and_one _ (by omega) (by omega)]
    by_cases c1 : x % 2 = 0
    · rw [if_pos (by omega), show (x : Int) / 2 = ((x / 2 : Nat) : Int) from by omega, ih k (x / 2) y t (by omega) (by omega) (by omega) hy (by omega) hy1 (by omega), gcd_half c1 (by omega)]
    rw [if_neg (by omega)]
    by_cases c2 : y % 2 = 0
    · rw [if_pos (by omega), show (y : Int) / 2 = ((y / 2 : Nat) : Int) from by omega, ih k x (y / 2) t (by omega) (by omega) hx (by omega) hx1 (by omega) (by omega), Nat.gcd_comm x, gcd_half c2 (by omega), Nat.gcd_comm y]
    rw [if_neg (by omega)]
    by_cases c3 : x > y
    · rw [if_pos (by omega), u64_id (by omega) (by omega), show (x : Int) - y = ((x - y : Nat) : Int) from by omega, ih k (x - y) y t (by omega) (by omega) (by omega) hy (by omega) hy1 (by omega)]
      have := Nat.gcd_add_self_left (m := y) (n := x - y)
      rw [show x - y + y = x from by omega] at this
      rw [this]
    · rw [if_neg (by omega), u64_id (by omega) (by omega), show (y : Int) - x = ((y - x : Nat) : Int) from by omega, ih k x (y - x) t (by omega) (by omega) hx (by omega) hx1 (by omega) (by omega)]
      have := Nat.gcd_add_self_left (m := x) (n := y - x)
      rw [show y - x + x = y from by omega] at this
      rw [Nat.gcd_comm x, ← this, Nat.gcd_comm y]
theorem ephemerisref1_Gcd_l0 : ∀ (n k x y t : Nat), x + y ≤ n → n + 36893488147419103240 < k → 0 < x → 0 < y → x < 18446744073709551616 → y < 18446744073709551616 → t ≤ 64 → Nat.gcd x y * 2 ^ t < 18446744073709551616 →
    ephemerisref1_Gcd.l0 k (x : Int) (y : Int) (t : Int) = some ((Nat.gcd x y * 2 ^ t : Nat) : Int) := by
  intro n
  induction n with
  | zero => intro k x y t h; omega
  | succ n ih =>
    intro k x y t h hk hx hy hx1 hy1 ht hg
    obtain ⟨k, rfl⟩ : ∃ m, k = m + 1 := ⟨k - 1, by omega⟩
    simp only [ephemerisref1_Gcd.l0]
    rw [and_one _ (by omega) (by omega), and_one _ (by omega) (by omega)]
    have last : (x % 2 = 1 ∨ y % 2 = 1) → ephemerisref1_Gcd.j2 k (x : Int) (y : Int) (t : Int) = some ((Nat.gcd x y * 2 ^ t : Nat) : Int) := fun ho => by
      obtain ⟨k, rfl⟩ : ∃ m, k = m + 1 := ⟨k - 1, by omega⟩
      simp only [ephemerisref1_Gcd.j2]
      rw [ephemerisref1_Gcd_l1 36893488147419103232 k x y t (by omega) (by omega) hx hy hx1 hy1 ho, shl_gcd _ _ hg ht]
    by_cases c1 : x % 2 = 0
    · rw [if_pos (by omega)]
      by_cases c2 : y % 2 = 0
      · have e : Nat.gcd x y = 2 * Nat.gcd (x / 2) (y / 2) := by
          rw [← Nat.gcd_mul_left, show 2 * (x / 2) = x from by omega, show 2 * (y / 2) = y from by omega]
        have e2 : Nat.gcd x y * 2 ^ t = Nat.gcd (x / 2) (y / 2) * 2 ^ (t + 1) := by
          rw [e, Nat.pow_succ, Nat.mul_comm 2, Nat.mul_assoc, Nat.mul_comm 2]
        have hp : 0 < Nat.gcd (x / 2) (y / 2) := Nat.gcd_pos_of_pos_left _ (by omega)
        have ht1 : t + 1 ≤ 64 := by
          rcases Nat.lt_or_ge (t + 1) 65 with h | h
          · omega
          · exfalso
            have h1 : 2 ^ 65 ≤ 2 ^ (t + 1) := Nat.pow_le_pow_right (by decide) h
            have h2 : 1 * 2 ^ (t + 1) ≤ Nat.gcd (x / 2) (y / 2) * 2 ^ (t + 1) := Nat.mul_le_mul_right _ hp
            have h3 : (2 : Nat) ^ 65 = 36893488147419103232 := by decide
            omega
        rw [if_pos (by omega), w64_id (by omega) (by omega), show (x : Int) / 2 = ((x / 2 : Nat) : Int) from by omega, show (y : Int) / 2 = ((y / 2 : Nat) : Int) from by omega, show (t : Int) + 1 = ((t + 1 : Nat) : Int) from by omega]
        rw [ih k (x / 2) (y / 2) (t + 1) (by omega) (by omega) (by omega) (by omega) (by omega) (by omega) ht1 (by omega), e2]
      · rw [if_neg (by omega)]; exact last (by omega)
    · rw [if_neg (by omega)]; exact last (by omega)
theorem gcdr_ab (a b : Int) : Nat.gcd (ab a).toNat (ab b).toNat = Int.gcd a b := by
  have h : ∀ c : Int, (ab c).toNat = c.natAbs := fun c => by unfold ab; split <;> omega
  rw [h, h]; rfl
theorem ephemerisref1_Gcd_f {a b : Int} (k : Nat) (hk : 100000000000000000000 ≤ k) (ha : -9223372036854775808 ≤ a) (ha1 : a ≤ 9223372036854775807) (hb : -9223372036854775808 ≤ b) (hb1 : b ≤ 9223372036854775807) :
    ephemerisref1_Gcd.f k a b = some (Int.gcd a b : Int) := by
  obtain ⟨k, rfl⟩ : ∃ m, k = m + 1 := ⟨k - 1, by omega⟩
  unfold ephemerisref1_Gcd.f
  rw [ephemerisref1_Size_f ha ha1, ephemerisref1_Size_f hb hb1]
  simp only [Option.bind_some]
  have e1 := ab_nonneg a
  have e2 := ab_nonneg b
  have e3 := ab_le ha ha1
  have e4 := ab_le hb hb1
  have hg := gcdr_ab a b
  by_cases c : ab a = 0
  · rw [if_pos c]
    simp only [ephemerisref1_Gcd.j0, if_true]
    rw [u64_id (by omega) (by omega)]
    rw [c] at hg
    simp only [Int.toNat_zero, Nat.gcd_zero_left] at hg
    congr 1; omega
  rw [if_neg c]
  simp only [ephemerisref1_Gcd.j0, beq_iff_eq]
  by_cases c2 : ab b = 0
  · rw [if_pos c2, u64_id (by omega) (by omega)]
    rw [c2] at hg
    simp only [Int.toNat_zero, Nat.gcd_zero_right] at hg
    congr 1; omega
  rw [if_neg c2]
  have hle := Nat.gcd_le_left (ab b).toNat (show 0 < (ab a).toNat by omega)
  have := ephemerisref1_Gcd_l0 36893488147419103232 k (ab a).toNat (ab b).toNat 0 (by omega) (by omega) (by omega) (by omega) (by omega) (by omega) (by omega) (by omega)
  rw [hg, Int.toNat_of_nonneg e1, Int.toNat_of_nonneg e2, Nat.pow_zero, Nat.mul_one] at this
  exact this

theorem ephemerisref1_Div_l0 (X Y : Int) (hX : 0 ≤ X) (hX1 : X < 18446744073709551616) (hY : 0 < Y) (hY1 : Y ≤ 9223372036854775808) :
    ∀ (n k : Nat), n ≤ 64 → n < k → ephemerisref1_Div.l0 k X Y (X / 2 ^ n / Y * 2 ^ n) (X / 2 ^ n % Y) ((n : Int) - 1) = some (X / Y, X % Y) := by
  intro n
  induction n with
  | zero =>
    intro k _ hk
    obtain ⟨k, rfl⟩ : ∃ m, k = m + 1 := ⟨k - 1, by omega⟩
    simp only [ephemerisref1_Div.l0]
    rw [if_neg (by omega)]
    simp
  | succ n ih =>
    intro k hn hk
    obtain ⟨k, rfl⟩ : ∃ m, k = m + 1 := ⟨k - 1, by omega⟩
    have ih := ih k (by omega) (by omega)
    have hhp := half_pow X n
    have hpow : (2 : Int) ^ (n + 1) = 2 * 2 ^ n := by rw [Int.pow_succ, Int.mul_comm]
    have hpp := pow_pos' n
    have hp63 := pow_le_63 n (by omega)
    have hd1 := div_pow_le X Y (n + 1) hX hY
    have hd0 := div_pow_le X Y n hX hY
    have hz : 0 ≤ X / 2 ^ n := Int.ediv_nonneg hX (by omega)
    obtain ⟨s1, s2⟩ := long_step (X / 2 ^ n) Y hz hY
    rw [← hhp] at s1 s2
    have r0 := Int.emod_nonneg (X / 2 ^ (n + 1)) (b := Y) (by omega)
    have r1 := Int.emod_lt_of_pos (X / 2 ^ (n + 1)) hY
    have hshr : shr .u64 X ((n : Int) + 1 - 1) = X / 2 ^ n := by
      rw [show (n : Int) + 1 - 1 = n from by omega]; exact shr_pow X n (by omega)
    have hshl : shl .u64 1 ((n : Int) + 1 - 1) = 2 ^ n := by
      rw [show (n : Int) + 1 - 1 = n from by omega]; exact shl_one n (by omega)
    have hzx : X / 2 ^ n ≤ X := Int.ediv_le_self _ hX
    have hmod : (X / 2 ^ (n + 1) / Y * 2 ^ (n + 1)) % 2 ^ (n + 1) = 0 := Int.mul_emod_left _ _
    have hor : Go.bits .or .u64 (X / 2 ^ (n + 1) / Y * 2 ^ (n + 1)) (2 ^ n) = X / 2 ^ (n + 1) / Y * 2 ^ (n + 1) + 2 ^ n :=
      or_join (n + 1) _ _ hd1.1 (by omega) hmod (by omega) (by omega) (by omega)
    have q2 : X / 2 ^ (n + 1) / Y * 2 ^ (n + 1) = 2 * (X / 2 ^ (n + 1) / Y) * 2 ^ n := by
      rw [hpow, Int.mul_comm 2 (X / (2 * 2 ^ n) / Y), Int.mul_assoc]
    generalize hR : X / 2 ^ (n + 1) % Y = R at *
    generalize hQ : X / 2 ^ (n + 1) / Y * 2 ^ (n + 1) = Q at *
    simp only [ephemerisref1_Div.l0]
    rw [show (((n + 1 : Nat) : Int) - 1) = (n : Int) + 1 - 1 from by omega]
    rw [if_pos (by omega), hshr, hshl, hor, w64_id (n := (n : Int) + 1 - 1 - 1) (by omega) (by omega), show (n : Int) + 1 - 1 - 1 = (n : Int) - 1 from by omega]
    rw [and_one _ hz (by omega), u64_id (n := R * 2) (by omega) (by omega)]
    have hbit := Int.emod_nonneg (X / 2 ^ n) (b := 2) (by omega)
    have hbit1 := Int.emod_lt_of_pos (X / 2 ^ n) (b := 2) (by omega)
    rw [or_join 1 (R * 2) _ (by omega) (by omega) (by simp only [Int.reducePow]; omega) hbit (by simp only [Int.reducePow]; omega) (by omega)]
    rw [if_neg (by omega)]
    rw [show R * 2 + X / 2 ^ n % 2 = 2 * R + X / 2 ^ n % 2 from by omega]
    by_cases c : Y ≤ 2 * R + X / 2 ^ n % 2
    · rw [if_pos c, u64_id (by omega) (by omega)]
      have e := s1 c
      rw [e.1, e.2, Int.add_mul, Int.one_mul, ← q2] at ih
      exact ih
    · rw [if_neg c]
      have e := s2 c
      rw [e.1, e.2, ← q2] at ih
      exact ih
theorem ephemerisref1_Div_f {a b : Int} (k : Nat) (hk : 65 ≤ k) (ha : -9223372036854775808 ≤ a) (ha1 : a ≤ 9223372036854775807) (hb : -9223372036854775808 ≤ b) (hb1 : b ≤ 9223372036854775807) : ephemerisref1_Div.f k a b = some (divs a b) := by
  unfold ephemerisref1_Div.f
  by_cases c : b = 0
  · rw [if_pos c]; unfold divs; rw [if_pos c]
  rw [if_neg c, ephemerisref1_Size_f ha ha1, ephemerisref1_Size_f hb hb1]
  simp only [Option.bind_some]
  have hX := ab_nonneg a
  have hX1 := ab_le ha ha1
  have hY1 := ab_le hb hb1
  have hY : 0 < ab b := by unfold ab; split <;> omega
  have h64 := ephemerisref1_Div_l0 (ab a) (ab b) hX (by omega) hY hY1 64 k (by omega) (by omega)
  have hz : ab a / 2 ^ 64 = 0 := Int.ediv_eq_zero_of_lt hX (by simp only [Int.reducePow]; omega)
  rw [hz] at h64
  simp only [Int.zero_ediv, Int.zero_mul, Int.zero_emod] at h64
  rw [show (((64 : Nat) : Int) - 1) = 63 from by omega] at h64
  rw [h64]
  simp only [Option.bind_some, Option.some.injEq]
  have h1 := Int.mul_ediv_add_emod (ab a) (ab b)
  have h2 := Int.emod_nonneg (ab a) (b := ab b) (by omega)
  have h3 := Int.emod_lt_of_pos (ab a) hY
  have h4 : ab a / ab b ≤ ab a := Int.ediv_le_self _ hX
  have h5 : 0 ≤ ab a / ab b := Int.ediv_nonneg hX (by omega)
  have h6 : 2 ≤ ab b → ab a / ab b ≤ 4611686018427387904 := fun h => by
    have : ab a / ab b ≤ ab a / 2 := by
      have := Int.ediv_le_ediv (c := 2) (by omega) (a := ab a / ab b * 2) (b := ab a) (by
        have : ab a / ab b * 2 ≤ ab a / ab b * ab b := Int.mul_le_mul_of_nonneg_left h h5
        rw [Int.mul_comm (ab b)] at h1
        omega)
      omega
    omega
  have h7 : ab b = 1 → ab a / ab b = ab a ∧ ab a % ab b = 0 := fun h => by rw [h]; omega
  have uniq : ∀ {q r : Int}, a = b * q + r → (0 < b → 0 ≤ r ∧ r < b) → (b < 0 → b < r ∧ r ≤ 0) → ¬ (a = -9223372036854775808 ∧ b = -1) → divs a b = (q, r, 0) := by
    intro q r e1 e2 e3 e4
    have := fd_uniq e1 e2 e3 c
    unfold divs
    rw [if_neg c, if_neg e4, this.1, this.2]
  generalize hq : ab a / ab b = q at *
  generalize hr : ab a % ab b = r at *
  clear h64 hz
  have eY : ∀ s : Int, (-(ab b)) * s = -(ab b * s) := fun s => by rw [Int.neg_mul]
  by_cases sa : a < 0 <;> by_cases sb : b < 0
  · have xa : a = -(ab a) := by unfold ab; rw [if_pos sa]; omega
    have xb : b = -(ab b) := by unfold ab; rw [if_pos sb]; omega
    simp only [ephemerisref1_Div.e0, ephemerisref1_Div.e1, sa, sb, decide_true, bne_self_eq_false, Bool.false_eq_true, false_and, if_false, true_and, if_true]
    by_cases c2 : q > 9223372036854775807
    · rw [if_pos c2]
      unfold divs
      have : ab b = 1 := by
        by_cases h : 2 ≤ ab b
        · have := h6 h; omega
        · omega
      rw [if_neg c, if_pos (by omega)]
    · rw [if_neg c2, w64_id (by omega) (by omega), u64_def, w64_def]
      rw [uniq (q := q) (r := -r) (by rw [xb, eY]; omega) (by omega) (by omega) (fun h => by have := h7 (by omega); omega)]
      congr 2; omega
  · have xa : a = -(ab a) := by unfold ab; rw [if_pos sa]; omega
    have xb : b = ab b := by unfold ab; rw [if_neg sb]
    simp only [ephemerisref1_Div.e0, ephemerisref1_Div.e1, sa, sb, decide_true, decide_false, Bool.bne_false, Bool.false_eq_true, true_and, if_true, Bool.true_eq_false, false_and, if_false]
    by_cases c2 : r = 0
    · rw [if_neg (fun h => h c2), u64_def, w64_def, w64_id (by omega) (by omega)]
      rw [uniq (q := -q) (r := 0) (by rw [xb, Int.mul_neg]; omega) (by omega) (by omega) (by omega)]
      rw [c2]
      congr 1; omega
    · rw [if_pos c2, u64_id (n := q + 1) (by omega) (by omega), u64_id (n := ab b - r) (by omega) (by omega), u64_def, w64_def, w64_id (by omega) (by omega)]
      have : q ≤ 9223372036854775807 := by
        by_cases h : 2 ≤ ab b
        · have := h6 h; omega
        · have := h7 (by omega); omega
      have eb : b * q = ab b * q := by rw [← xb]
      rw [uniq (q := -(q + 1)) (r := ab b - r) (by rw [Int.mul_neg, Int.mul_add, Int.mul_one, eb]; omega) (by omega) (by omega) (by omega)]
      congr 1; omega
  · have xa : a = ab a := by unfold ab; rw [if_neg sa]
    have xb : b = -(ab b) := by unfold ab; rw [if_pos sb]; omega
    simp only [ephemerisref1_Div.e0, ephemerisref1_Div.e1, sa, sb, decide_true, decide_false, Bool.bne_true, Bool.not_false, Bool.false_eq_true, true_and, if_true, Bool.true_eq_false, false_and, if_false]
    by_cases c2 : r = 0
    · rw [if_neg (fun h => h c2), u64_def, w64_def, u64_def, w64_def]
      rw [uniq (q := -q) (r := 0) (by rw [xb, eY, Int.mul_neg]; omega) (by omega) (by omega) (by omega)]
      rw [c2]
      congr 1
      omega
    · rw [if_pos c2, u64_id (n := q + 1) (by omega) (by omega), u64_id (n := ab b - r) (by omega) (by omega), u64_def, w64_def, u64_def, w64_def]
      have eb := eY q
      rw [← xb] at eb
      rw [uniq (q := -(q + 1)) (r := -(ab b - r)) (by rw [Int.mul_neg, Int.mul_add, Int.mul_one, eb]; omega) (by omega) (by omega) (by omega)]
      congr 1
      · omega
      · congr 1; omega
  · have xa : a = ab a := by unfold ab; rw [if_neg sa]
    have xb : b = ab b := by unfold ab; rw [if_neg sb]
    simp only [ephemerisref1_Div.e0, ephemerisref1_Div.e1, sa, sb, decide_false, bne_self_eq_false, Bool.false_eq_true, false_and, if_false, true_and]
    rw [if_neg (by omega), w64_id (by omega) (by omega), w64_id (by omega) (by omega)]
    rw [uniq (q := q) (r := r) (by rw [xb]; omega) (by omega) (by omega) (by omega)]

theorem ephemerisref1_Mod_f {a b : Int} (k : Nat) (hk : 65 ≤ k) (ha : -9223372036854775808 ≤ a) (ha1 : a ≤ 9223372036854775807) (hb : 0 < b) (hb1 : b ≤ 9223372036854775807) : ephemerisref1_Mod.f k a b = some (a % b) := by
  unfold ephemerisref1_Mod.f
  rw [ephemerisref1_Div_f k hk ha ha1 (by omega) hb1, divs_pos hb]
  rfl

theorem ephemerisref1_SetAt_l0 (day : Int) (l o p : List Int) (hd : -4000000 ≤ day ∧ day ≤ 4000000) (ho : okSet l o) (hp : p.length = l.length) : ∀ (d i k : Nat), i + d = l.length → 70 + d < k →
    ephemerisref1_SetAt.l0 k day p l (l.length : Int) (i : Int) l o = some (decide (p.drop i = (places l o day).drop i)) := by
  obtain ⟨⟨hl0, hl1⟩, hlo, hb⟩ := ho
  have hpl := places_length l o day hlo
  intro d
  induction d with
  | zero =>
    intro i k hi hk
    obtain ⟨k, rfl⟩ : ∃ m, k = m + 1 := ⟨k - 1, by omega⟩
    conv => lhs; unfold ephemerisref1_SetAt.l0
    rw [if_neg (by omega), List.drop_of_length_le (by omega), List.drop_of_length_le (by omega)]; rfl
  | succ d ih =>
    intro i k hi hk
    obtain ⟨k, rfl⟩ : ∃ m, k = m + 1 := ⟨k - 1, by omega⟩
    have hlt : i < l.length := by omega
    have hlt' : i < o.length := by omega
    have hltp : i < p.length := by omega
    obtain ⟨b1, b2⟩ := hb i hlt hlt'
    conv => lhs; unfold ephemerisref1_SetAt.l0
    rw [if_pos (by omega), if_pos (by omega), if_pos (by omega), if_pos (by omega), rd_get l i hlt, rd_get o i hlt', w64_id (n := day + o[i]) (by omega) (by omega), ephemerisref1_Mod_f k (by omega) (by omega) (by omega) (by omega) (by omega), Option.bind_some, if_pos (by omega), rd_get p i hltp, List.drop_eq_getElem_cons hltp, List.drop_eq_getElem_cons (show i < (places l o day).length by omega), places_get l o day i hlt hlt' (by omega)]
    by_cases c : (day + o[i]) % l[i] = p[i]
    · rw [if_pos c, w64_id (n := (i : Int) + 1) (by omega) (by omega)]
      have := ih (i + 1) k (by omega) (by omega)
      rw [show ((i + 1 : Nat) : Int) = (i : Int) + 1 from by omega] at this
      rw [this]
      congr 1
      rw [← c]
      simp
    · rw [if_neg c]
      congr 1
      symm
      exact decide_eq_false (fun h => c (by have := (List.cons.inj h).1; exact this.symm))
theorem ephemerisref1_SetAt_f (day : Int) (l o p : List Int) (hd : -4000000 ≤ day ∧ day ≤ 4000000) (ho : okSet l o) (hp : p.length = l.length) (k : Nat) (hk : 100 ≤ k) : ephemerisref1_SetAt.f k l o day p = some (decide (p = places l o day)) := by
  unfold ephemerisref1_SetAt.f
  have := ephemerisref1_SetAt_l0 day l o p hd ho hp l.length 0 k (by omega) (by have := ho.1.2; omega)
  exact this

theorem cyFrom_eq : ∀ l : List (Int × Int), cyFrom l = setFrom l
  | [] => rfl
  | (a, b) :: r => by unfold cyFrom setFrom; rw [cyFrom_eq r]
theorem cyErr_eq (l o : List Int) : cyErr l o = setErr l o := by unfold cyErr setErr; rw [cyFrom_eq]
theorem lcm_stay : ∀ (t : List Int) (f : Int), f > 1000000000 → t.foldl lcmStep f = f := by
  intro t
  induction t with
  | nil => intro f _; rfl
  | cons a t ih =>
    intro f hf
    rw [List.foldl_cons, show lcmStep f a = f from by unfold lcmStep; rw [if_neg (by omega)]]
    exact ih f hf
theorem j2_ok (k : Nat) (hk : 200 ≤ k) (day : Int) (l o : List Int) (hs : okSet l o) : ephemerislaw1_CycleOfs.j2 k day (if -4000000 ≤ day ∧ day ≤ 4000000 then (places l o day, (0 : Int)) else ([], 3)).1 (if -4000000 ≤ day ∧ day ≤ 4000000 then (places l o day, (0 : Int)) else ([], 3)).2 l o = some true := by
  obtain ⟨k, rfl⟩ : ∃ m, k = m + 1 := ⟨k - 1, by omega⟩
  simp only [ephemerislaw1_CycleOfs.j2]
  rw [ephemerisref1_Day_f, Option.bind_some]
  by_cases d : -4000000 ≤ day ∧ day ≤ 4000000
  · rw [if_pos (decide_eq_true d), if_pos d]
    have hl := places_length l o day hs.2.1
    simp only
    rw [if_pos trivial, if_pos (by omega), ephemerisref1_SetAt_f day l o _ d hs hl k (by omega), Option.bind_some]
    simp
  · rw [if_neg (by simpa using d), if_neg d]
    simp
theorem loop_ok (day : Int) (l o : List Int) (hs : okSet l o) : ∀ (d i k : Nat) (f : Int), i + d = l.length → 100000000000000000000 + d < k → 1 ≤ f → (f ≤ 1000000000000) →
    ephemerislaw1_CycleOfs.l0 k day (if -4000000 ≤ day ∧ day ≤ 4000000 then (places l o day, (0 : Int)) else ([], 3)).1 (if -4000000 ≤ day ∧ day ≤ 4000000 then (places l o day, (0 : Int)) else ([], 3)).2
      (if (l.drop i).foldl lcmStep f > 1000000000 then ((0 : Int), (14 : Int)) else ((l.drop i).foldl lcmStep f, 0)).1 (if (l.drop i).foldl lcmStep f > 1000000000 then ((0 : Int), (14 : Int)) else ((l.drop i).foldl lcmStep f, 0)).2
      f l (l.length : Int) (i : Int) l o = some true := by
  intro d
  induction d with
  | zero =>
    intro i k f hi hk h1 h2
    obtain ⟨k, rfl⟩ : ∃ m, k = m + 1 := ⟨k - 1, by omega⟩
    conv => lhs; unfold ephemerislaw1_CycleOfs.l0
    rw [if_neg (by omega), List.drop_of_length_le (by omega), List.foldl_nil]
    have hj := j2_ok k (by omega) day l o hs
    by_cases c : f > 1000000000
    · rw [if_pos c, if_pos c, if_pos rfl, if_pos rfl]; exact hj
    · rw [if_neg c, if_neg c, if_pos rfl, if_pos rfl]; exact hj
  | succ d ih =>
    intro i k f hi hk h1 h2
    obtain ⟨k, rfl⟩ : ∃ m, k = m + 1 := ⟨k - 1, by omega⟩
    have hlt : i < l.length := by omega
    obtain ⟨b1, b2⟩ := (hs.2.2 i hlt (by have := hs.2.1; omega)).1
    have hlen := hs.1.2
    rw [List.drop_eq_getElem_cons hlt, List.foldl_cons]
    conv => lhs; unfold ephemerislaw1_CycleOfs.l0
    rw [if_pos (by omega), if_pos (by omega), if_pos (by omega), rd_get l i hlt, w64_id (n := (i : Int) + 1) (by omega) (by omega)]
    by_cases c : f ≤ 1000000000
    · obtain ⟨g0, g1, g2, g3, g4, g5⟩ := lcm_bound h1 c b1 b2
      have es : lcmStep f l[i] = f / (Int.gcd f l[i] : Int) * l[i] := by unfold lcmStep; rw [if_pos c]
      rw [if_pos c, ephemerisref1_Gcd_f k (by omega) (by omega) (by omega) (by omega) (by omega), Option.bind_some, es]
      generalize (Int.gcd f l[i] : Int) = g at *
      rw [w64_id (n := g) (by omega) (by omega), if_neg (by omega), Int.tdiv_eq_ediv_of_nonneg (by omega), w64_id (n := f / g) (by omega) (by omega), w64_id (n := f / g * l[i]) (by omega) (by omega)]
      exact ih (i + 1) k (f / g * l[i]) (by omega) (by omega) (by omega) (by omega)
    · rw [if_neg c, show lcmStep f l[i] = f from by unfold lcmStep; rw [if_neg c]]
      exact ih (i + 1) k f (by omega) (by omega) h1 h2
theorem j0_ok (k : Nat) (hk : 100000000000000000100 ≤ k) (day : Int) (l o : List Int) (hl : l.length ≤ 9223372036854775807) : ephemerislaw1_CycleOfs.j0 k day false l o = some true := by
  obtain ⟨k, rfl⟩ : ∃ m, k = m + 1 := ⟨k - 1, by omega⟩
  simp only [ephemerislaw1_CycleOfs.j0]
  rw [if_neg (by decide), cycle_Of_f day l o k (by omega), Option.bind_some, cycle_Full_f l o k (by omega), Option.bind_some, ephemerisref1_SetError_f l o hl k (by omega), Option.bind_some, ← cyErr_eq]
  by_cases c : cyErr l o = 0
  · have hs := (cyErr_zero l o).1 c
    rw [if_pos c, if_pos c, if_pos c]
    exact loop_ok day l o hs l.length 0 k 1 (by omega) (by have := hs.1.2; omega) (by omega) (by omega)
  · rw [if_neg c, if_neg c, if_neg c]
    simp
theorem CycleOfs : ephemerislaw1_CycleOfs.Pure := by
  intro l o day hl ho hd
  obtain ⟨K, hK⟩ : ∃ K : Nat, K = 100000000000000001000 := ⟨_, rfl⟩
  refine ⟨K, ?_⟩
  unfold ephemerislaw1_CycleOfs.f
  have e1 : cyErr [5, 7] [0, 0] = 0 := by decide
  have e2 : places [5, 7] [0, 0] 12 = [2, 5] := by decide
  rw [cycle_Of_f 12 [5, 7] [0, 0] K (by omega), Option.bind_some, if_pos e1, if_pos (show (-4000000 : Int) ≤ 12 ∧ (12 : Int) ≤ 4000000 from by omega), e2, if_pos (show (([2, 5] : List Int), (0 : Int)).2 = 0 from rfl), ephemerisref1_SameInts_f [2, 5] [2, 5] (by decide) K (by simp; omega), Option.bind_some, show decide (([2, 5] : List Int) = [2, 5]) = true from by decide]
  exact j0_ok K (by omega) day l o hl.2.1
end Go.Proofs.Ytmihkcgkdhmccaa.Pure
