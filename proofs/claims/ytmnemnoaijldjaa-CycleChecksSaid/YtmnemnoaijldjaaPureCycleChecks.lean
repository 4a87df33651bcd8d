/- The law CycleChecks over numbers and lists: what the law's functions tell, and that the law holds. -/
import Derived.Test.YtmnemnoaijldjaaPCycleChecksx1
import Derived.Test.YtmnemnoaijldjaaM
import Derived.Test.YtmnemnoaijldjaaO
namespace Go.Proofs.Ytmnemnoaijldjaa.Pure
open Go.RowKit Go.Proofs.Ytmnemnoaijldjaa.PCycleChecks Go.Proofs.YtmnemnoaijldjaaW.PrintWords Go.Proofs.YtmnemnoaijldjaaW.PrintLast Go.Proofs.Ytmnemnoaijldjaa.M Go.Proofs.Ytmnemnoaijldjaa.O
set_option linter.unusedVariables false
set_option linter.unusedSimpArgs false
/-- The law over numbers and lists. -/
def ephemerislaw1_CycleChecks.Pure : Prop := ∀ (l0_0 : List (Int)) (l0_1 : List (Int)), (l0_0.length * 8 ≤ 140737488351232 ∧ l0_0.length ≤ 9223372036854775807 ∧ ∀ v ∈ l0_0, (Lit.int .i64 v).wf = true) → (l0_1.length * 8 ≤ 140737488351232 ∧ l0_1.length ≤ 9223372036854775807 ∧ ∀ v ∈ l0_1, (Lit.int .i64 v).wf = true) → ∃ k, ephemerislaw1_CycleChecks.f k l0_0 l0_1 = some true

/-- From place i on: the first fault. -/
def cyFrom : List (Int × Int) → Int
  | [] => 0
  | (a, b) :: r => if (1 ≤ a ∧ a ≤ 1000) ∧ (0 ≤ b ∧ b ≤ a - 1) then cyFrom r else 3
def cyErr (l o : List Int) : Int := if 1 ≤ l.length ∧ l.length ≤ 8 then (if l.length = o.length then cyFrom (l.zip o) else 8) else 2
theorem cy_rd_at (l : List Int) (i : Nat) (h : i < l.length) : rd l (i : Int) = l[i] := by
  unfold rd
  rw [show ((i : Int).toNat) = i from by omega, List.getD_eq_getElem?_getD, List.getElem?_eq_getElem h]; rfl
theorem cy_zip_drop (l o : List Int) (i : Nat) (h : i < l.length) (h2 : i < o.length) : (l.zip o).drop i = (l[i], o[i]) :: (l.zip o).drop (i + 1) := by
  have hz : i < (l.zip o).length := by rw [List.length_zip]; omega
  rw [List.drop_eq_getElem_cons hz, List.getElem_zip]
theorem cycle_Check_l0 (l o : List Int) (hl : l.length ≤ 8) (ho : l.length = o.length) : ∀ (d i k : Nat), i + d = l.length → d < k →
    cycle_Check.l0 k l (l.length : Int) (i : Int) l o = some (cyFrom ((l.zip o).drop i)) := by
  intro d
  induction d with
  | zero =>
    intro i k hi hk
    obtain ⟨k, rfl⟩ : ∃ m, k = m + 1 := ⟨k - 1, by omega⟩
    simp only [cycle_Check.l0]
    rw [if_neg (by omega), List.drop_of_length_le (by rw [List.length_zip]; omega)]; rfl
  | succ d ih =>
    intro i k hi hk
    obtain ⟨k, rfl⟩ : ∃ m, k = m + 1 := ⟨k - 1, by omega⟩
    simp only [cycle_Check.l0]
    rw [cy_zip_drop l o i (by omega) (by omega), cy_rd_at l i (by omega), cy_rd_at o i (by omega), if_pos (by omega), if_pos (by omega), if_pos (by omega)]
    simp only [cyFrom]
    by_cases c : (1 ≤ l[i] ∧ l[i] ≤ 1000) ∧ (0 ≤ o[i] ∧ o[i] ≤ l[i] - 1)
    · rw [if_pos c, if_neg (by omega), if_neg (by omega), if_pos (by omega), if_neg (by omega), if_neg (by omega), w64_id (by omega) (by omega)]
      exact ih (i + 1) k (by omega) (by omega)
    · rw [if_neg c]
      by_cases c1 : l[i] < 1
      · rw [if_pos c1]
      rw [if_neg c1]
      by_cases c2 : l[i] > 1000
      · rw [if_pos c2]
      rw [if_neg c2, if_pos (by omega)]
      by_cases c3 : o[i] < 0
      · rw [if_pos c3]
      rw [if_neg c3, if_pos (by omega)]
theorem cycle_Check_f (l o : List Int) (k : Nat) (hk : 20 ≤ k) : cycle_Check.f k l o = some (cyErr l o) := by
  obtain ⟨k, rfl⟩ : ∃ m, k = m + 1 := ⟨k - 1, by omega⟩
  have e : cycle_Check.f (k + 1) l o = cycle_Check.j0 (k + 1) (decide (¬ (1 ≤ l.length ∧ l.length ≤ 8))) l o := by
    unfold cycle_Check.f
    by_cases c : (l.length : Int) < 1
    · rw [if_pos c, decide_eq_true (by omega)]
    · rw [if_neg c]
      by_cases c2 : (l.length : Int) > 8
      · rw [decide_eq_true c2, decide_eq_true (by omega)]
      · rw [decide_eq_false c2, decide_eq_false (by omega)]
  rw [e]
  simp only [cycle_Check.j0, decide_eq_true_eq]
  unfold cyErr
  by_cases c : 1 ≤ l.length ∧ l.length ≤ 8
  · rw [if_neg (fun h => h c), if_pos c]
    by_cases c2 : l.length = o.length
    · rw [if_pos (by omega), if_pos c2]
      exact cycle_Check_l0 l o c.2 c2 l.length 0 k (by omega) (by omega)
    · rw [if_neg (by omega), if_neg c2]
  · rw [if_pos c, if_neg c]

theorem ephemerisref1_In_f (x lo hi : Int) : ephemerisref1_In.f x lo hi = some (decide (lo ≤ x ∧ x ≤ hi)) := by
  unfold ephemerisref1_In.f
  by_cases h : x ≥ lo
  · rw [if_pos h]; congr 1; simp; omega
  · rw [if_neg h]; congr 1; simp; omega

/-- From place i on: the first fault. -/
def setFrom : List (Int × Int) → Int
  | [] => 0
  | (a, b) :: r => if (1 ≤ a ∧ a ≤ 1000) ∧ (0 ≤ b ∧ b ≤ a - 1) then setFrom r else 3
def setErr (l o : List Int) : Int := if 1 ≤ l.length ∧ l.length ≤ 8 then (if l.length = o.length then setFrom (l.zip o) else 8) else 2
theorem rd_at (l : List Int) (i : Nat) (h : i < l.length) : rd l (i : Int) = l[i] := by
  unfold rd
  rw [show ((i : Int).toNat) = i from by omega, List.getD_eq_getElem?_getD, List.getElem?_eq_getElem h]; rfl
theorem zip_drop_cons (l o : List Int) (i : Nat) (h : i < l.length) (h2 : i < o.length) : (l.zip o).drop i = (l[i], o[i]) :: (l.zip o).drop (i + 1) := by
  have hz : i < (l.zip o).length := by rw [List.length_zip]; omega
  rw [List.drop_eq_getElem_cons hz, List.getElem_zip]
theorem ephemerisref1_SetError_l0 (l o : List Int) (hl : l.length ≤ 8) (ho : l.length = o.length) : ∀ (d i k : Nat), i + d = l.length → d < k →
    ephemerisref1_SetError.l0 k (l.length : Int) (i : Int) l o = some (setFrom ((l.zip o).drop i)) := by
  intro d
  induction d with
  | zero =>
    intro i k hi hk
    obtain ⟨k, rfl⟩ : ∃ m, k = m + 1 := ⟨k - 1, by omega⟩
    simp only [ephemerisref1_SetError.l0]
    rw [if_neg (by omega), List.drop_of_length_le (by rw [List.length_zip]; omega)]; rfl
  | succ d ih =>
    intro i k hi hk
    obtain ⟨k, rfl⟩ : ∃ m, k = m + 1 := ⟨k - 1, by omega⟩
    simp only [ephemerisref1_SetError.l0]
    rw [zip_drop_cons l o i (by omega) (by omega), rd_at l i (by omega), rd_at o i (by omega), if_pos (by omega), if_pos (by omega), if_pos (by omega), ephemerisref1_In_f]
    simp only [Option.bind_some, setFrom, decide_eq_true_eq]
    by_cases c : 1 ≤ l[i] ∧ l[i] ≤ 1000
    · rw [if_pos c, if_pos (by omega), w64_id (by omega) (by omega), ephemerisref1_In_f]
      simp only [Option.bind_some, decide_eq_true_eq]
      by_cases c2 : 0 ≤ o[i] ∧ o[i] ≤ l[i] - 1
      · rw [if_pos c2, if_pos ⟨c, c2⟩, w64_id (by omega) (by omega)]
        exact ih (i + 1) k (by omega) (by omega)
      · rw [if_neg c2, if_neg (fun h => c2 h.2)]
    · rw [if_neg c, if_neg (fun h => c h.1)]
theorem ephemerisref1_SetError_f (l o : List Int) (hl : l.length ≤ 9223372036854775807) (k : Nat) (hk : 20 ≤ k) : ephemerisref1_SetError.f k l o = some (setErr l o) := by
  unfold ephemerisref1_SetError.f setErr
  rw [ephemerisref1_In_f]
  simp only [Option.bind_some, decide_eq_true_eq]
  by_cases c : 1 ≤ l.length ∧ l.length ≤ 8
  · rw [if_pos (by omega), if_pos c]
    by_cases c2 : l.length = o.length
    · rw [if_pos (by omega), if_pos c2]
      have := ephemerisref1_SetError_l0 l o c.2 c2 l.length 0 k (by omega) (by omega)
      exact this
    · rw [if_neg (by omega), if_neg c2]
  · rw [if_neg (by omega), if_neg c]

theorem cyFrom_eq : ∀ l : List (Int × Int), cyFrom l = setFrom l
  | [] => rfl
  | (a, b) :: r => by unfold cyFrom setFrom; rw [cyFrom_eq r]
theorem cyErr_eq (l o : List Int) : cyErr l o = setErr l o := by unfold cyErr setErr; rw [cyFrom_eq]
theorem CycleChecks : ephemerislaw1_CycleChecks.Pure := by
  intro l o hl ho
  refine ⟨100, ?_⟩
  unfold ephemerislaw1_CycleChecks.f
  rw [cycle_Check_f _ _ 100 (by omega), show cyErr [5] [5] = 3 from by decide]
  simp only [Option.bind_some, if_true]
  rw [cycle_Check_f _ _ 100 (by omega), ephemerisref1_SetError_f l o hl.2.1 100 (by omega), cyErr_eq]
  simp
end Go.Proofs.Ytmnemnoaijldjaa.Pure
