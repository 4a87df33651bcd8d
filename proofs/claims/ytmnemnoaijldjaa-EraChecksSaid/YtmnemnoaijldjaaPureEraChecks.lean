/- The law EraChecks over numbers and lists: what the law's functions tell, and that the law holds. -/
import Derived.Test.YtmnemnoaijldjaaPEraChecksx2
import Derived.Test.YtmnemnoaijldjaaM
import Derived.Test.YtmnemnoaijldjaaT
import Derived.Test.YtmnemnoaijldjaaO
namespace Go.Proofs.Ytmnemnoaijldjaa.Pure
open Go.RowKit Go.Proofs.Ytmnemnoaijldjaa.PEraChecks Go.Proofs.YtmnemnoaijldjaaW.PrintWords Go.Proofs.YtmnemnoaijldjaaW.PrintLast Go.Proofs.Ytmnemnoaijldjaa.M Go.Proofs.Ytmnemnoaijldjaa.T Go.Proofs.Ytmnemnoaijldjaa.O
set_option linter.unusedVariables false
set_option linter.unusedSimpArgs false
/-- The law over numbers and lists. -/
def ephemerislaw1_EraChecks.Pure : Prop := ∀ (l0 : List (S44)), (l0.length * 24 ≤ 140737488351232 ∧ l0.length ≤ 9223372036854775807 ∧ ∀ v ∈ l0, (v.f0.size ≤ 140737488351232 ∧ (Lit.int .i64 v.f1).wf = true)) → ∃ k, ephemerislaw1_EraChecks.f k l0 = some true

theorem line_Check_f (x : Int) : line_Check.f x = some (if -4000000 ≤ x ∧ x ≤ 4000000 then 0 else 3) := by
  unfold line_Check.f
  by_cases h : x < -4000000
  · rw [if_pos h, if_neg (by omega)]
  · rw [if_neg h]
    by_cases h2 : x > 4000000
    · rw [if_pos h2, if_neg (by omega)]
    · rw [if_neg h2, if_pos (by omega)]

theorem rule_Name_f (s : ByteArray) : rule_Name.f s = some (isName s) := by
  have e : rule_Name.all s.data.toList = letters s.data.toList := rfl
  unfold rule_Name.f isName noWord
  rw [e]
  congr 1
  by_cases h1 : (s.size : Int) < 1
  · rw [if_pos h1, decide_eq_false (show ¬ 1 ≤ s.size by omega)]; rfl
  rw [if_neg h1, decide_eq_true (show 1 ≤ s.size by omega)]
  by_cases h2 : (s.size : Int) > 12
  · rw [if_pos h2, decide_eq_false (show ¬ s.size ≤ 12 by omega)]; rfl
  rw [if_neg h2, decide_eq_true (show s.size ≤ 12 by omega)]
  by_cases c1 : s.toList = [121]
  · rw [if_pos c1]; simp [c1]
  rw [if_neg c1, bne_iff_ne.2 c1]
  by_cases c2 : s.toList = [97, 110, 100]
  · rw [if_pos c2]; simp [c2]
  rw [if_neg c2, bne_iff_ne.2 c2]
  by_cases c3 : s.toList = [111, 114]
  · rw [if_pos c3]; simp [c3]
  rw [if_neg c3, bne_iff_ne.2 c3]
  by_cases c4 : s.toList = [110, 111, 116]
  · rw [if_pos c4]; simp [c4]
  rw [if_neg c4, bne_iff_ne.2 c4]
  rfl

/-- The first fault from a place on: 'p' is the reign before. -/
def eraFrom : Option Int → List S44 → Int
  | _, [] => 0
  | p, r :: t => if isName r.f0 = true then (if -4000000 ≤ r.f1 ∧ r.f1 ≤ 4000000 then (if (∃ q, p = some q ∧ r.f1 ≤ q) then 9 else eraFrom (some r.f1) t) else 3) else 5
def eraErr (l : List S44) : Int := if 1 ≤ l.length ∧ l.length ≤ 30 then eraFrom none l else 2
def prevOf (l : List S44) (i : Nat) : Option Int := if i = 0 then none else some (rd_T44 l ((i : Int) - 1)).f1
theorem rdT_at (l : List S44) (i : Nat) (h : i < l.length) : rd_T44 l (i : Int) = l[i] := by
  unfold rd_T44
  rw [show ((i : Int).toNat) = i from by omega, List.getD_eq_getElem?_getD, List.getElem?_eq_getElem h]; rfl
theorem prevOf_succ (l : List S44) (i : Nat) (h : i < l.length) : prevOf l (i + 1) = some l[i].f1 := by
  unfold prevOf
  rw [if_neg (by omega), show ((i + 1 : Nat) : Int) - 1 = (i : Int) from by omega, rdT_at l i h]
theorem era_Check_l0 (l : List S44) (hl : l.length ≤ 30) : ∀ (d i k : Nat), i + d = l.length → d < k →
    era_Check.l0 k l l (l.length : Int) (i : Int) = some (eraFrom (prevOf l i) (l.drop i)) := by
  intro d
  induction d with
  | zero =>
    intro i k hi hk
    obtain ⟨k, rfl⟩ : ∃ m, k = m + 1 := ⟨k - 1, by omega⟩
    simp only [era_Check.l0]
    rw [if_neg (by omega), List.drop_of_length_le (by omega)]
    rfl
  | succ d ih =>
    intro i k hi hk
    obtain ⟨k, rfl⟩ : ∃ m, k = m + 1 := ⟨k - 1, by omega⟩
    have ih := ih (i + 1) k (by omega) (by omega)
    rw [prevOf_succ l i (by omega), show ((i + 1 : Nat) : Int) = (i : Int) + 1 from by omega] at ih
    simp only [era_Check.l0]
    rw [List.drop_eq_getElem_cons (by omega), rdT_at l i (by omega), rule_Name_f, if_pos (by omega), if_pos (by omega), if_pos (by omega)]
    simp only [Option.bind_some, eraFrom]
    by_cases c1 : isName l[i].f0 = true
    · rw [if_pos c1, if_pos c1, line_Check_f]
      simp only [Option.bind_some]
      by_cases c2 : -4000000 ≤ l[i].f1 ∧ l[i].f1 ≤ 4000000
      · rw [if_pos c2, if_pos c2, if_pos rfl]
        by_cases c3 : (i : Int) > 0
        · have hp : prevOf l i = some (rd_T44 l ((i : Int) - 1)).f1 := by unfold prevOf; rw [if_neg (by omega)]
          rw [if_pos c3, w64_id (n := (i : Int) - 1) (by omega) (by omega), if_pos (by omega), if_pos (by omega), hp]
          by_cases c4 : l[i].f1 ≤ (rd_T44 l ((i : Int) - 1)).f1
          · rw [if_pos c4, if_pos ⟨_, rfl, c4⟩]
          · rw [if_neg c4, if_neg (fun ⟨q, h, h2⟩ => c4 (by cases h; exact h2)), w64_id (by omega) (by omega), ih]
        · have hp : prevOf l i = none := by unfold prevOf; rw [if_pos (by omega)]
          rw [if_neg c3, hp, if_neg (fun ⟨q, h, _⟩ => by cases h), w64_id (by omega) (by omega), ih]
      · rw [if_neg c2, if_neg c2, if_neg (by omega)]
    · rw [if_neg c1, if_neg c1]
theorem era_Check_f (l : List S44) (k : Nat) (hk : 50 ≤ k) : era_Check.f k l = some (eraErr l) := by
  obtain ⟨k, rfl⟩ : ∃ m, k = m + 1 := ⟨k - 1, by omega⟩
  have e : era_Check.f (k + 1) l = era_Check.j0 (k + 1) l (decide (¬ (1 ≤ l.length ∧ l.length ≤ 30))) := by
    unfold era_Check.f
    by_cases c : (l.length : Int) < 1
    · rw [if_pos c, decide_eq_true (by omega)]
    · rw [if_neg c]
      by_cases c2 : (l.length : Int) > 30
      · rw [decide_eq_true c2, decide_eq_true (by omega)]
      · rw [decide_eq_false c2, decide_eq_false (by omega)]
  rw [e]
  simp only [era_Check.j0, decide_eq_true_eq]
  unfold eraErr
  by_cases c : 1 ≤ l.length ∧ l.length ≤ 30
  · rw [if_neg (fun h => h c), if_pos c]
    exact era_Check_l0 l c.2 l.length 0 k (by omega) (by omega)
  · rw [if_pos c, if_neg c]

theorem ephemerisref1_In_f (x lo hi : Int) : ephemerisref1_In.f x lo hi = some (decide (lo ≤ x ∧ x ≤ hi)) := by
  unfold ephemerisref1_In.f
  by_cases h : x ≥ lo
  · rw [if_pos h]; congr 1; simp; omega
  · rw [if_neg h]; congr 1; simp; omega

theorem ephemerisref1_Day_f (x : Int) : ephemerisref1_Day.f x = some (decide (-4000000 ≤ x ∧ x ≤ 4000000)) := by
  unfold ephemerisref1_Day.f
  rw [ephemerisref1_In_f]; rfl

theorem ephemerisref1_Name_l0 (s : ByteArray) (hs : s.size ≤ 12) : ∀ (d i k : Nat), i + d = s.size → d < k →
    ephemerisref1_Name.l0 k s (s.size : Int) (i : Int) = some (noWord s && letters (s.data.toList.drop i)) := by
  intro d
  induction d with
  | zero =>
    intro i k hi hk
    obtain ⟨k, rfl⟩ : ∃ m, k = m + 1 := ⟨k - 1, by omega⟩
    obtain rfl : i = s.size := by omega
    simp only [ephemerisref1_Name.l0]
    rw [if_neg (by omega), letters_end, Bool.and_true]
    unfold noWord
    by_cases c1 : s.toList = [121]
    · rw [if_pos c1]; simp [c1]
    rw [if_neg c1, bne_iff_ne.2 c1]
    by_cases c2 : s.toList = [97, 110, 100]
    · rw [if_pos c2]; simp [c2]
    rw [if_neg c2, bne_iff_ne.2 c2]
    by_cases c3 : s.toList = [111, 114]
    · rw [if_pos c3]; simp [c3]
    rw [if_neg c3, bne_iff_ne.2 c3]
    rfl
  | succ d ih =>
    intro i k hi hk
    obtain ⟨k, rfl⟩ : ∃ m, k = m + 1 := ⟨k - 1, by omega⟩
    simp only [ephemerisref1_Name.l0]
    rw [if_pos (by omega), if_pos (by omega), if_pos (by omega), letters_cons s i (by omega)]
    by_cases c1 : bt s i < 97
    · rw [if_pos c1, decide_eq_false (show ¬ 97 ≤ bt s i by omega)]; simp
    rw [if_neg c1, decide_eq_true (show 97 ≤ bt s i by omega)]
    by_cases c2 : bt s i > 122
    · rw [if_pos c2, decide_eq_false (show ¬ bt s i ≤ 122 by omega)]; simp
    rw [if_neg c2, decide_eq_true (show bt s i ≤ 122 by omega), w64_id (by omega) (by omega)]
    have := ih (i + 1) k (by omega) (by omega)
    rw [show ((i + 1 : Nat) : Int) = (i : Int) + 1 from by omega] at this
    rw [this]; simp
theorem ephemerisref1_Name_f (s : ByteArray) (k : Nat) (hk : 20 ≤ k) : ephemerisref1_Name.f k s = some (isName s) := by
  obtain ⟨k, rfl⟩ : ∃ m, k = m + 1 := ⟨k - 1, by omega⟩
  unfold ephemerisref1_Name.f isName
  by_cases h1 : s.toList = []
  · rw [if_pos h1, decide_eq_false (show ¬ 1 ≤ s.size by have := (toList_nil s).1 h1; omega)]
    simp [ephemerisref1_Name.j0]
  have h1' : ¬ s.size = 0 := fun h => h1 ((toList_nil s).2 h)
  rw [if_neg h1, decide_eq_true (show 1 ≤ s.size by omega)]
  simp only [ephemerisref1_Name.j0, decide_eq_true_eq]
  by_cases h2 : (s.size : Int) > 12
  · rw [if_pos h2, decide_eq_false (show ¬ s.size ≤ 12 by omega)]; rfl
  rw [if_neg h2, decide_eq_true (show s.size ≤ 12 by omega)]
  exact ephemerisref1_Name_l0 s (by omega) s.size 0 k (by omega) (by omega)

/-- The first fault from a place on: 'p' is the reign before. -/
def rgFrom : Option Int → List S44 → Int
  | _, [] => 0
  | p, r :: t => if isName r.f0 = true then (if -4000000 ≤ r.f1 ∧ r.f1 ≤ 4000000 then (if (∃ q, p = some q ∧ r.f1 ≤ q) then 9 else rgFrom (some r.f1) t) else 3) else 5
def rgErr (l : List S44) : Int := if 1 ≤ l.length ∧ l.length ≤ 30 then rgFrom none l else 2
def rgPrev (l : List S44) (i : Nat) : Option Int := if i = 0 then none else some (rd_T44 l ((i : Int) - 1)).f1
theorem rg_at (l : List S44) (i : Nat) (h : i < l.length) : rd_T44 l (i : Int) = l[i] := by
  unfold rd_T44
  rw [show ((i : Int).toNat) = i from by omega, List.getD_eq_getElem?_getD, List.getElem?_eq_getElem h]; rfl
theorem rgPrev_succ (l : List S44) (i : Nat) (h : i < l.length) : rgPrev l (i + 1) = some l[i].f1 := by
  unfold rgPrev
  rw [if_neg (by omega), show ((i + 1 : Nat) : Int) - 1 = (i : Int) from by omega, rg_at l i h]
theorem ephemerisref1_ReignsError_l0 (l : List S44) (hl : l.length ≤ 30) : ∀ (d i k : Nat), i + d = l.length → d + 20 < k →
    ephemerisref1_ReignsError.l0 k l l (l.length : Int) (i : Int) = some (rgFrom (rgPrev l i) (l.drop i)) := by
  intro d
  induction d with
  | zero =>
    intro i k hi hk
    obtain ⟨k, rfl⟩ : ∃ m, k = m + 1 := ⟨k - 1, by omega⟩
    simp only [ephemerisref1_ReignsError.l0]
    rw [if_neg (by omega), List.drop_of_length_le (by omega)]
    rfl
  | succ d ih =>
    intro i k hi hk
    obtain ⟨k, rfl⟩ : ∃ m, k = m + 1 := ⟨k - 1, by omega⟩
    have ih := ih (i + 1) k (by omega) (by omega)
    rw [rgPrev_succ l i (by omega), show ((i + 1 : Nat) : Int) = (i : Int) + 1 from by omega] at ih
    simp only [ephemerisref1_ReignsError.l0]
    rw [List.drop_eq_getElem_cons (by omega), rg_at l i (by omega), ephemerisref1_Name_f _ k (by omega), if_pos (by omega), if_pos (by omega), if_pos (by omega)]
    simp only [Option.bind_some, rgFrom]
    by_cases c1 : isName l[i].f0 = true
    · rw [if_pos c1, if_pos c1, ephemerisref1_Day_f]
      simp only [Option.bind_some, decide_eq_true_eq]
      by_cases c2 : -4000000 ≤ l[i].f1 ∧ l[i].f1 ≤ 4000000
      · rw [if_pos c2, if_pos c2]
        by_cases c3 : (i : Int) > 0
        · have hp : rgPrev l i = some (rd_T44 l ((i : Int) - 1)).f1 := by unfold rgPrev; rw [if_neg (by omega)]
          rw [if_pos c3, w64_id (n := (i : Int) - 1) (by omega) (by omega), if_pos (by omega), if_pos (by omega), hp]
          by_cases c4 : (rd_T44 l ((i : Int) - 1)).f1 ≥ l[i].f1
          · rw [if_pos c4, if_pos ⟨_, rfl, c4⟩]
          · rw [if_neg c4, if_neg (fun ⟨q, h, h2⟩ => c4 (by cases h; exact h2)), w64_id (by omega) (by omega), ih]
        · have hp : rgPrev l i = none := by unfold rgPrev; rw [if_pos (by omega)]
          rw [if_neg c3, hp, if_neg (fun ⟨q, h, _⟩ => by cases h), w64_id (by omega) (by omega), ih]
      · rw [if_neg c2, if_neg c2]
    · rw [if_neg c1, if_neg c1]
theorem ephemerisref1_ReignsError_f (l : List S44) (k : Nat) (hk : 60 ≤ k) : ephemerisref1_ReignsError.f k l = some (rgErr l) := by
  unfold ephemerisref1_ReignsError.f rgErr
  rw [ephemerisref1_In_f]
  simp only [Option.bind_some, decide_eq_true_eq]
  by_cases c : 1 ≤ l.length ∧ l.length ≤ 30
  · rw [if_pos (by omega), if_pos c]
    exact ephemerisref1_ReignsError_l0 l c.2 l.length 0 k (by omega) (by omega)
  · rw [if_neg (by omega), if_neg c]

theorem rgFrom_eq : ∀ (l : List S44) (p : Option Int), eraFrom p l = rgFrom p l
  | [], _ => rfl
  | r :: t, p => by unfold eraFrom rgFrom; rw [rgFrom_eq t]
theorem EraChecks : ephemerislaw1_EraChecks.Pure := by
  intro l hl
  refine ⟨101, ?_⟩
  unfold ephemerislaw1_EraChecks.f
  have e0 : eraErr [] = 2 := rfl
  have n1 : isName (⟨#[97]⟩ : ByteArray) = true := by unfold isName noWord; rw [toList_data]; decide
  have n2 : isName (⟨#[98]⟩ : ByteArray) = true := by unfold isName noWord; rw [toList_data]; decide
  have e1 : eraErr [(⟨(⟨#[97]⟩ : ByteArray), 5⟩ : S44), (⟨(⟨#[98]⟩ : ByteArray), 5⟩ : S44)] = 9 := by
    unfold eraErr
    rw [if_pos (by decide)]
    simp only [eraFrom, n1, n2, if_true]
    rw [if_pos (by omega), if_neg (fun ⟨q, h, _⟩ => by cases h), if_pos (by omega), if_pos ⟨5, rfl, by omega⟩]
  rw [era_Check_f _ 101 (by omega), e0]
  simp only [Option.bind_some, if_true]
  rw [era_Check_f _ 101 (by omega), e1]
  simp only [Option.bind_some, bne_self_eq_false, ephemerislaw1_EraChecks.j0, Bool.false_eq_true, if_false]
  rw [era_Check_f _ 100 (by omega), ephemerisref1_ReignsError_f _ 100 (by omega)]
  simp only [Option.bind_some]
  unfold eraErr rgErr
  rw [rgFrom_eq]
  simp
end Go.Proofs.Ytmnemnoaijldjaa.Pure
