/- The law RecurChecks over numbers and lists: what the law's functions tell, and that the law holds. -/
import Derived.Test.YteogcbhlilechaaPRecurChecksx4
import Derived.Test.YteogcbhlilechaaM
import Derived.Test.YteogcbhlilechaaL
import Derived.Test.YteogcbhlilechaaO
namespace Go.Proofs.Yteogcbhlilechaa.Pure
open Go.RowKit Go.Proofs.Yteogcbhlilechaa.PRecurChecks Go.Proofs.YteogcbhlilechaaW.PrintWords Go.Proofs.YteogcbhlilechaaW.PrintLast Go.Proofs.Yteogcbhlilechaa.M Go.Proofs.Yteogcbhlilechaa.L Go.Proofs.Yteogcbhlilechaa.O
set_option linter.unusedVariables false
set_option linter.unusedSimpArgs false
/-- The law over numbers and lists. -/
def ephemerislaw1_RecurChecks.Pure : Prop := ∀ (a0_0 : Int) (a0_1 : Int) (a0_2 : Int) (a0_3 : Int) (a0_4 : Int) (l0_5 : List (Int)) (l0_6 : List (Int)) (l0_7 : List (Int)), (Lit.int .i64 a0_0).wf = true → (Lit.int .i64 a0_1).wf = true → (Lit.int .i64 a0_2).wf = true → (Lit.int .i64 a0_3).wf = true → (Lit.int .i64 a0_4).wf = true → (l0_5.length * 8 ≤ 140737488351232 ∧ l0_5.length ≤ 9223372036854775807 ∧ ∀ v ∈ l0_5, (Lit.int .i64 v).wf = true) → (l0_6.length * 8 ≤ 140737488351232 ∧ l0_6.length ≤ 9223372036854775807 ∧ ∀ v ∈ l0_6, (Lit.int .i64 v).wf = true) → (l0_7.length * 8 ≤ 140737488351232 ∧ l0_7.length ≤ 9223372036854775807 ∧ ∀ v ∈ l0_7, (Lit.int .i64 v).wf = true) → ∃ k, ephemerislaw1_RecurChecks.f k a0_0 a0_1 a0_2 a0_3 a0_4 l0_5 l0_6 l0_7 = some true

theorem line_Check_f (x : Int) : line_Check.f x = some (if -4000000 ≤ x ∧ x ≤ 4000000 then 0 else 3) := by
  unfold line_Check.f
  by_cases h : x < -4000000
  · rw [if_pos h, if_neg (by omega)]
  · rw [if_neg h]
    by_cases h2 : x > 4000000
    · rw [if_pos h2, if_neg (by omega)]
    · rw [if_neg h2, if_pos (by omega)]

theorem slices_Index_l0 (l : List Int) (x : Int) (hl : l.length ≤ 9223372036854775806) : ∀ (d i k : Nat), i + d = l.length → d < k →
    ∃ r, slices_Index_int_int.l0 k l x (l.length : Int) (i : Int) = some r ∧ (x ∈ l.drop i → 0 ≤ r) ∧ (¬ x ∈ l.drop i → r = -1) := by
  intro d
  induction d with
  | zero =>
    intro i k hi hk
    obtain ⟨k, rfl⟩ : ∃ m, k = m + 1 := ⟨k - 1, by omega⟩
    refine ⟨-1, ?_, ?_, fun _ => rfl⟩
    · simp only [slices_Index_int_int.l0]; rw [if_neg (by omega)]
    · rw [List.drop_of_length_le (by omega)]; intro h; cases h
  | succ d ih =>
    intro i k hi hk
    obtain ⟨k, rfl⟩ : ∃ m, k = m + 1 := ⟨k - 1, by omega⟩
    simp only [slices_Index_int_int.l0]
    rw [if_pos (by omega), if_pos (by omega), if_pos (by omega), rd_get l i (by omega), List.drop_eq_getElem_cons (show i < l.length by omega)]
    by_cases c : x = l[i]
    · exact ⟨i, by rw [if_pos c], fun _ => by omega, fun h => absurd (c ▸ List.mem_cons_self) h⟩
    · rw [if_neg c, w64_id (by omega) (by omega)]
      obtain ⟨r, h1, h2, h3⟩ := ih (i + 1) k (by omega) (by omega)
      exact ⟨r, h1, fun h => h2 ((List.mem_cons.1 h).resolve_left c), fun h => h3 (fun h' => h (List.mem_cons_of_mem _ h'))⟩

theorem slices_Contains_f (l : List Int) (x : Int) (hl : l.length ≤ 9223372036854775806) (k : Nat) (hk : l.length < k) : slices_Contains_int_int.f k l x = some (decide (x ∈ l)) := by
  unfold slices_Contains_int_int.f slices_Index_int_int.f
  obtain ⟨r, h1, h2, h3⟩ := slices_Index_l0 l x hl l.length 0 k (by omega) hk
  rw [List.drop_zero] at h2 h3
  rw [show ((0 : Nat) : Int) = 0 from rfl] at h1
  rw [h1]
  simp only [Option.bind_some]
  congr 1
  by_cases c : x ∈ l
  · rw [decide_eq_true c, decide_eq_true (h2 c)]
  · rw [decide_eq_false c, decide_eq_false (by rw [h3 c]; omega)]

theorem recur_list_l0 (l : List Int) (lo hi : Int) (hl : l.length ≤ 31) : ∀ (d i k : Nat), i + d = l.length → 2 * d + 40 < k →
    recur_list.l0 k l lo hi l (l.length : Int) (i : Int) = some (listFrom (decide (lo < 0)) lo hi (l.take i) (l.drop i)) := by
  intro d
  induction d with
  | zero =>
    intro i k hi' hk
    obtain ⟨k, rfl⟩ : ∃ m, k = m + 1 := ⟨k - 1, by omega⟩
    simp only [recur_list.l0]
    rw [if_neg (by omega), List.drop_of_length_le (by omega)]; rfl
  | succ d ih =>
    intro i k hi' hk
    obtain ⟨k, rfl⟩ : ∃ m, k = m + 2 := ⟨k - 2, by omega⟩
    have hlt : i < l.length := by omega
    have hj : (if l[i] < lo then (recur_list.j1 (k + 1) l lo hi (i : Int) l[i] l (l.length : Int) (i : Int) true) else (if l[i] > hi then (recur_list.j1 (k + 1) l lo hi (i : Int) l[i] l (l.length : Int) (i : Int) true) else (if lo < 0 then (recur_list.j1 (k + 1) l lo hi (i : Int) l[i] l (l.length : Int) (i : Int) (l[i] == 0)) else (recur_list.j1 (k + 1) l lo hi (i : Int) l[i] l (l.length : Int) (i : Int) false))))
        = recur_list.j1 (k + 1) l lo hi (i : Int) l[i] l (l.length : Int) (i : Int) (decide (¬ ((lo ≤ l[i] ∧ l[i] ≤ hi) ∧ ¬ (decide (lo < 0) = true ∧ l[i] = 0)))) := by
      by_cases c1 : l[i] < lo
      · rw [if_pos c1, dec_not_true (fun h => by omega)]
      rw [if_neg c1]
      by_cases c2 : l[i] > hi
      · rw [if_pos c2, dec_not_true (fun h => by omega)]
      rw [if_neg c2]
      by_cases c3 : lo < 0
      · rw [if_pos c3]
        by_cases c4 : l[i] = 0
        · rw [beq_iff_eq.2 c4, dec_not_true (fun h => h.2 ⟨decide_eq_true c3, c4⟩)]
        · rw [beq_eq_false_iff_ne.2 c4, dec_not_false ⟨by omega, fun h' => c4 h'.2⟩]
      · rw [if_neg c3, dec_not_false ⟨by omega, fun h' => c3 (of_decide_eq_true h'.1)⟩]
    rw [show k + 2 = (k + 1) + 1 from rfl]
    conv => lhs; unfold recur_list.l0
    rw [if_pos (by omega), if_pos (by omega), if_pos (by omega), rd_get l i hlt, hj, List.drop_eq_getElem_cons hlt]
    simp only [recur_list.j1, decide_eq_true_eq, listFrom]
    by_cases c : (lo ≤ l[i] ∧ l[i] ≤ hi) ∧ ¬ (lo < 0 ∧ l[i] = 0)
    · rw [if_neg (fun h => h c), if_pos c, if_pos (by omega), if_pos (by omega), show ((i : Int).toNat) = i from by omega, slices_Contains_f _ _ (by rw [List.length_take]; omega) k (by rw [List.length_take]; omega)]
      simp only [Option.bind_some, decide_eq_true_eq]
      by_cases c2 : l[i] ∈ l.take i
      · rw [if_pos c2, if_pos c2]
      · rw [if_neg c2, if_neg c2, w64_id (by omega) (by omega), take_snoc' l i hlt]
        exact ih (i + 1) k (by omega) (by omega)
    · rw [if_pos c, if_neg c]
theorem recur_list_f (l : List Int) (lo hi : Int) (k : Nat) (hk : 150 ≤ k) : recur_list.f k l lo hi = some (listErr (decide (lo < 0)) lo hi l) := by
  unfold recur_list.f listErr
  by_cases c : (l.length : Int) > 31
  · rw [if_pos c, if_neg (by omega)]
  · rw [if_neg c, if_pos (by omega)]
    exact recur_list_l0 l lo hi (by omega) l.length 0 k (by omega) (by omega)

/-- What Check of recurrences tells. -/
def recErr (u ev fr ct un : Int) (a b c : List Int) : Int :=
  if 1 ≤ u ∧ u ≤ 4 then (if (1 ≤ ev ∧ ev ≤ 1000) ∧ (-4000000 ≤ fr ∧ fr ≤ 4000000) ∧ (-4000000 ≤ un ∧ un ≤ 4000000) ∧ fr ≤ un ∧ (0 ≤ ct ∧ ct ≤ 1000) then
    (if listErr false 0 6 a = 0 then (if listErr true (-31) 31 b = 0 then listErr false 1 12 c else listErr true (-31) 31 b) else listErr false 0 6 a) else 3) else 1
theorem recur_Check_f (u ev fr ct un : Int) (a b c : List Int) (k : Nat) (hk : 200 ≤ k) : recur_Check.f k u ev fr ct un a b c = some (recErr u ev fr ct un a b c) := by
  obtain ⟨k, rfl⟩ : ∃ m, k = m + 2 := ⟨k - 2, by omega⟩
  have hj : recur_Check.f (k + 2) u ev fr ct un a b c = recur_Check.j0 (k + 2) (decide (¬ (1 ≤ u ∧ u ≤ 4))) u ev fr ct un a b c := by
    unfold recur_Check.f
    by_cases c1 : u < 1
    · rw [if_pos c1, decide_eq_true (by omega)]
    rw [if_neg c1]
    by_cases c2 : u > 4
    · rw [decide_eq_true c2, decide_eq_true (by omega)]
    · rw [decide_eq_false c2, decide_eq_false (by omega)]
  rw [hj]
  simp only [recur_Check.j0]
  unfold recErr
  by_cases h1 : 1 ≤ u ∧ u ≤ 4
  · rw [dec_not_false h1, if_neg (by decide), if_pos h1]
    have ht : recur_Check.j1 (k + 1) true u ev fr ct un a b c = some 3 := by simp only [recur_Check.j1, if_true]
    by_cases h2 : (1 ≤ ev ∧ ev ≤ 1000) ∧ (-4000000 ≤ fr ∧ fr ≤ 4000000) ∧ (-4000000 ≤ un ∧ un ≤ 4000000) ∧ fr ≤ un ∧ (0 ≤ ct ∧ ct ≤ 1000)
    · rw [if_pos h2, if_neg (show ¬ ev < 1 by omega), if_neg (show ¬ ev > 1000 by omega), line_Check_f, if_pos h2.2.1, Option.bind_some, if_pos rfl, line_Check_f, if_pos h2.2.2.1, Option.bind_some, if_pos rfl, if_neg (show ¬ un < fr by omega), if_neg (show ¬ ct < 0 by omega), decide_eq_false (show ¬ ct > 1000 by omega)]
      simp only [recur_Check.j1, Bool.false_eq_true, if_false]
      rw [recur_list_f a 0 6 k (by omega), recur_list_f b (-31) 31 k (by omega), recur_list_f c 1 12 k (by omega)]
      simp only [Option.bind_some, show decide ((0 : Int) < 0) = false from rfl, show decide ((-31 : Int) < 0) = true from rfl, show decide ((1 : Int) < 0) = false from rfl]
      by_cases h3 : listErr false 0 6 a = 0
      · rw [if_pos h3, if_pos h3]
        by_cases h4 : listErr true (-31) 31 b = 0
        · rw [if_pos h4, if_pos h4]
        · rw [if_neg h4, if_neg h4]
      · rw [if_neg h3, if_neg h3]
    · rw [if_neg h2]
      by_cases d1 : ev < 1
      · rw [if_pos d1, ht]
      rw [if_neg d1]
      by_cases d2 : ev > 1000
      · rw [if_pos d2, ht]
      rw [if_neg d2, line_Check_f]
      by_cases d3 : -4000000 ≤ fr ∧ fr ≤ 4000000
      · rw [if_pos d3, Option.bind_some, if_pos rfl, line_Check_f]
        by_cases d4 : -4000000 ≤ un ∧ un ≤ 4000000
        · rw [if_pos d4, Option.bind_some, if_pos rfl]
          by_cases d5 : un < fr
          · rw [if_pos d5, ht]
          rw [if_neg d5]
          by_cases d6 : ct < 0
          · rw [if_pos d6, ht]
          rw [if_neg d6, decide_eq_true (show ct > 1000 by omega), ht]
        · rw [if_neg d4, Option.bind_some, if_neg (by omega), ht]
      · rw [if_neg d3, Option.bind_some, if_neg (by omega), ht]
  · rw [dec_not_true h1, if_pos rfl, if_neg h1]

theorem ephemerisref1_In_f (x lo hi : Int) : ephemerisref1_In.f x lo hi = some (decide (lo ≤ x ∧ x ≤ hi)) := by
  unfold ephemerisref1_In.f
  by_cases h : x ≥ lo
  · rw [if_pos h]; congr 1; simp; omega
  · rw [if_neg h]; congr 1; simp; omega

theorem ephemerisref1_Day_f (x : Int) : ephemerisref1_Day.f x = some (decide (-4000000 ≤ x ∧ x ≤ 4000000)) := by
  unfold ephemerisref1_Day.f
  rw [ephemerisref1_In_f]; rfl

/-- The fault r, or what follows. -/
def orGo (r : Int) (x : Option Int) : Option Int := if r = 0 then x else some r
/-- One list of the reference: the earlier places are looked at one by one. -/
theorem recurError_l2 (x3 : Int) (x4 : List Int) (x5 x6 x8 : Int) (x50 : List (List Int)) (x51 x52 : Int) (x68 : List Int) (x69 x70 : Int) (q : List Int) (hq : q.length ≤ 31) : ∀ (d i k : Nat), i + d = q.length →
    ephemerisref1_RecurError.l2 (k + d + 1) x3 x4 x5 x6 x8 x50 x51 x52 x68 x69 x70 q (q.length : Int) (i : Int) = (if x8 ∈ q.drop i then some 7 else ephemerisref1_RecurError.l2 (k + 1) x3 x4 x5 x6 x8 x50 x51 x52 x68 x69 x70 q (q.length : Int) (q.length : Int)) := by
  intro d
  induction d with
  | zero =>
    intro i k hi
    obtain rfl : i = q.length := by omega
    rw [List.drop_of_length_le (by omega), if_neg (by simp)]
  | succ d ih =>
    intro i k hi
    have hlt : i < q.length := by omega
    rw [show k + (d + 1) + 1 = (k + d + 1) + 1 from by omega]
    conv => lhs; unfold ephemerisref1_RecurError.l2
    rw [if_pos (by omega), if_pos (by omega), if_pos (by omega), rd_get q i hlt, List.drop_eq_getElem_cons hlt]
    by_cases c : q[i] = x8
    · rw [if_pos c, if_pos (by rw [c]; exact List.mem_cons_self)]
    · rw [if_neg c, w64_id (by omega) (by omega)]
      have := ih (i + 1) k (by omega)
      rw [show ((i + 1 : Nat) : Int) = (i : Int) + 1 from by omega] at this
      rw [this]
      by_cases c2 : x8 ∈ q.drop (i + 1)
      · rw [if_pos c2, if_pos (List.mem_cons_of_mem _ c2)]
      · rw [if_neg c2, if_neg (fun h => (List.mem_cons.1 h).elim (fun h => c h.symm) c2)]
theorem recurError_l1 (x3 : Int) (l : List Int) (lo hi : Int) (x50 : List (List Int)) (x51 x52 : Int) (hl : l.length ≤ 31) : ∀ (d i k : Nat), i + d = l.length → 40 * d + 40 < k →
    ∃ k', k ≤ k' + 40 * d + 40 ∧ ephemerisref1_RecurError.l1 k x3 l lo hi x50 x51 x52 l (l.length : Int) (i : Int) = orGo (listFrom (x3 == 1) lo hi (l.take i) (l.drop i)) (ephemerisref1_RecurError.l0 k' x50 x51 (wrap64 (x52 + 1))) := by
  intro d
  induction d with
  | zero =>
    intro i k hi' hk
    obtain ⟨k, rfl⟩ : ∃ m, k = m + 1 := ⟨k - 1, by omega⟩
    refine ⟨k, by omega, ?_⟩
    conv => lhs; unfold ephemerisref1_RecurError.l1
    rw [if_neg (by omega), List.drop_of_length_le (by omega)]
    rfl
  | succ d ih =>
    intro i k hi' hk
    obtain ⟨k, rfl⟩ : ∃ m, k = m + 2 := ⟨k - 2, by omega⟩
    have hlt : i < l.length := by omega
    have hj : ((ephemerisref1_In.f (rd l (i : Int)) lo hi).bind fun t132 => (if t132 = true then (if x3 = 1 then (ephemerisref1_RecurError.j3 (k + 1) x3 l lo hi (i : Int) (rd l (i : Int)) x50 x51 x52 l (l.length : Int) (i : Int) ((rd l (i : Int)) == 0)) else (ephemerisref1_RecurError.j3 (k + 1) x3 l lo hi (i : Int) (rd l (i : Int)) x50 x51 x52 l (l.length : Int) (i : Int) false)) else (ephemerisref1_RecurError.j3 (k + 1) x3 l lo hi (i : Int) (rd l (i : Int)) x50 x51 x52 l (l.length : Int) (i : Int) true)))
        = ephemerisref1_RecurError.j3 (k + 1) x3 l lo hi (i : Int) l[i] x50 x51 x52 l (l.length : Int) (i : Int) (decide (¬ ((lo ≤ l[i] ∧ l[i] ≤ hi) ∧ ¬ ((x3 == 1) = true ∧ l[i] = 0)))) := by
      rw [rd_get l i hlt, ephemerisref1_In_f]
      simp only [Option.bind_some, decide_eq_true_eq, beq_iff_eq]
      by_cases c1 : lo ≤ l[i] ∧ l[i] ≤ hi
      · rw [if_pos c1]
        by_cases c2 : x3 = 1
        · rw [if_pos c2]
          by_cases c3 : l[i] = 0
          · rw [beq_iff_eq.2 c3, dec_not_true (fun h => h.2 ⟨c2, c3⟩)]
          · rw [beq_eq_false_iff_ne.2 c3, dec_not_false ⟨c1, fun h' => c3 h'.2⟩]
        · rw [if_neg c2, dec_not_false ⟨c1, fun h' => c2 h'.1⟩]
      · rw [if_neg c1, dec_not_true (fun h => c1 h.1)]
    rw [show k + 2 = (k + 1) + 1 from rfl]
    conv => enter [1, k', 2, 1]; unfold ephemerisref1_RecurError.l1
    rw [if_pos (by omega), if_pos (by omega), if_pos (by omega), hj, List.drop_eq_getElem_cons hlt]
    simp only [ephemerisref1_RecurError.j3, decide_eq_true_eq]
    by_cases c : (lo ≤ l[i] ∧ l[i] ≤ hi) ∧ ¬ ((x3 == 1) = true ∧ l[i] = 0)
    · have hs : listFrom (x3 == 1) lo hi (l.take i) (l[i] :: l.drop (i + 1)) = if l[i] ∈ l.take i then 7 else listFrom (x3 == 1) lo hi (l.take i ++ [l[i]]) (l.drop (i + 1)) := by
        conv => lhs; unfold listFrom
        rw [if_pos c]
      rw [if_neg (fun h => h c), hs, if_pos (by omega), if_pos (by omega), show ((i : Int).toNat) = i from by omega]
      have hlen : (l.take i).length = i := by rw [List.length_take]; omega
      obtain ⟨k2, rfl⟩ : ∃ m, k = m + i + 1 := ⟨k - i - 1, by omega⟩
      have h2 := recurError_l2 x3 l lo hi l[i] x50 x51 x52 l (l.length : Int) (i : Int) (l.take i) (by omega) i 0 k2 (by omega)
      rw [List.drop_zero] at h2
      rw [show ((0 : Nat) : Int) = 0 from rfl] at h2
      rw [h2]
      by_cases c2 : l[i] ∈ l.take i
      · rw [if_pos c2, if_pos c2]
        exact ⟨k2, by omega, rfl⟩
      · rw [if_neg c2, if_neg c2]
        conv => enter [1, k', 2, 1]; unfold ephemerisref1_RecurError.l2
        rw [if_neg (by omega), w64_id (n := (i : Int) + 1) (by omega) (by omega), take_snoc' l i hlt]
        obtain ⟨k', h1, h3⟩ := ih (i + 1) k2 (by omega) (by omega)
        exact ⟨k', by omega, h3⟩
    · have hs : listFrom (x3 == 1) lo hi (l.take i) (l[i] :: l.drop (i + 1)) = 3 := by unfold listFrom; rw [if_neg c]
      rw [if_pos c, hs]
      exact ⟨k, by omega, rfl⟩
theorem recurError_one (X : List (List Int)) (n i : Int) (li : List Int) (lo hi : Int) (z : Bool) (hz : (i == 1) = z) (k : Nat) (hk : 2000 ≤ k) :
    ∃ k', k ≤ k' + 1400 ∧ (if (li.length : Int) > 31 then some 2 else ephemerisref1_RecurError.l1 k i li lo hi X n i li (li.length : Int) 0) = orGo (listErr z lo hi li) (ephemerisref1_RecurError.l0 k' X n (wrap64 (i + 1))) := by
  by_cases c : (li.length : Int) > 31
  · refine ⟨k, by omega, ?_⟩
    have : listErr z lo hi li = 2 := by unfold listErr; rw [if_neg (by omega)]
    rw [if_pos c, this]; rfl
  · obtain ⟨k', h1, h2⟩ := recurError_l1 i li lo hi X n i (by omega) li.length 0 k (by omega) (by omega)
    refine ⟨k', by omega, ?_⟩
    have : listErr z lo hi li = listFrom z lo hi [] li := by unfold listErr; rw [if_pos (by omega)]
    rw [hz, List.drop_zero, List.take_zero, show ((0 : Nat) : Int) = 0 from rfl] at h2
    rw [if_neg c, this, h2]
theorem recurError_l0 (a b c : List Int) (k : Nat) (hk : 9000 ≤ k) : ephemerisref1_RecurError.l0 k [a, b, c] 3 0 = orGo (listErr false 0 6 a) (orGo (listErr true (-31) 31 b) (orGo (listErr false 1 12 c) (some 0))) := by
  obtain ⟨k, rfl⟩ : ∃ m, k = m + 1 := ⟨k - 1, by omega⟩
  obtain ⟨k1, h1, e1⟩ := recurError_one [a, b, c] 3 0 a 0 6 false rfl k (by omega)
  obtain ⟨k1, rfl⟩ : ∃ m, k1 = m + 1 := ⟨k1 - 1, by omega⟩
  obtain ⟨k2, h2, e2⟩ := recurError_one [a, b, c] 3 1 b (-31) 31 true rfl k1 (by omega)
  obtain ⟨k2, rfl⟩ : ∃ m, k2 = m + 1 := ⟨k2 - 1, by omega⟩
  obtain ⟨k3, h3, e3⟩ := recurError_one [a, b, c] 3 2 c 1 12 false rfl k2 (by omega)
  obtain ⟨k3, rfl⟩ : ∃ m, k3 = m + 1 := ⟨k3 - 1, by omega⟩
  rw [w64_id (by omega) (by omega)] at e1 e2 e3
  have l3 : ephemerisref1_RecurError.l0 (k3 + 1) [a, b, c] 3 (2 + 1) = some 0 := by
    conv => lhs; unfold ephemerisref1_RecurError.l0
    rw [if_neg (by omega)]
  have u : ∀ (j : Nat) (i : Int) (li : List Int) (lo hi : Int), (0 ≤ i ∧ i < 3) → rd_L1 [a, b, c] i = li → rd [0, (-31), 1] i = lo → rd [6, 31, 12] i = hi →
      ephemerisref1_RecurError.l0 (j + 1) [a, b, c] 3 i = (if (li.length : Int) > 31 then some 2 else ephemerisref1_RecurError.l1 j i li lo hi [a, b, c] 3 i li (li.length : Int) 0) := by
    intro j i li lo hi hi' e4 e5 e6
    conv => lhs; unfold ephemerisref1_RecurError.l0
    simp only [Option.bind_some, List.length_cons, List.length_nil]
    rw [if_pos (by omega), if_pos (by omega), if_pos (by omega), e4, e5, e6, if_pos (show i < ((0 + 1 + 1 + 1 : Nat) : Int) from by omega), if_pos (show i < ((0 + 1 + 1 + 1 : Nat) : Int) from by omega)]
  rw [u k 0 a 0 6 (by omega) rfl rfl rfl, e1, show (0 : Int) + 1 = 1 from rfl, u k1 1 b (-31) 31 (by omega) rfl rfl rfl, e2, show (1 : Int) + 1 = 2 from rfl, u k2 2 c 1 12 (by omega) rfl rfl rfl, e3, l3]
/-- What the reference tells. -/
def refErr (u ev fr ct un : Int) (a b c : List Int) : Option Int :=
  if 1 ≤ u ∧ u ≤ 4 then (if (1 ≤ ev ∧ ev ≤ 1000) ∧ (-4000000 ≤ fr ∧ fr ≤ 4000000) ∧ (-4000000 ≤ un ∧ un ≤ 4000000) ∧ fr ≤ un ∧ (0 ≤ ct ∧ ct ≤ 1000) then
    orGo (listErr false 0 6 a) (orGo (listErr true (-31) 31 b) (orGo (listErr false 1 12 c) (some 0))) else some 3) else some 1
theorem ephemerisref1_RecurError_f (u ev fr ct un : Int) (a b c : List Int) (k : Nat) (hk : 9001 ≤ k) : ephemerisref1_RecurError.f k u ev fr ct un a b c = refErr u ev fr ct un a b c := by
  obtain ⟨k, rfl⟩ : ∃ m, k = m + 1 := ⟨k - 1, by omega⟩
  have ht : ephemerisref1_RecurError.j0 (k + 1) true u ev fr ct un a b c = some 3 := by simp only [ephemerisref1_RecurError.j0, if_true]
  have hf : ephemerisref1_RecurError.j0 (k + 1) false u ev fr ct un a b c = ephemerisref1_RecurError.l0 k [a, b, c] 3 0 := by
    simp only [ephemerisref1_RecurError.j0, Bool.false_eq_true, if_false, Option.bind_some, List.length_cons, List.length_nil]
    rfl
  unfold ephemerisref1_RecurError.f refErr
  rw [ephemerisref1_In_f, ephemerisref1_In_f, ephemerisref1_Day_f, ephemerisref1_Day_f, ephemerisref1_In_f]
  simp only [Option.bind_some, decide_eq_true_eq]
  by_cases h1 : 1 ≤ u ∧ u ≤ 4
  · rw [if_pos h1, if_pos h1]
    by_cases h2 : 1 ≤ ev ∧ ev ≤ 1000
    · rw [if_pos h2]
      by_cases h3 : -4000000 ≤ fr ∧ fr ≤ 4000000
      · rw [if_pos h3]
        by_cases h4 : -4000000 ≤ un ∧ un ≤ 4000000
        · rw [if_pos h4]
          by_cases h5 : un < fr
          · have h9 : ¬ ((1 ≤ ev ∧ ev ≤ 1000) ∧ (-4000000 ≤ fr ∧ fr ≤ 4000000) ∧ (-4000000 ≤ un ∧ un ≤ 4000000) ∧ fr ≤ un ∧ (0 ≤ ct ∧ ct ≤ 1000)) := by omega
            rw [if_pos h5, ht, if_neg h9]
          · rw [if_neg h5]
            by_cases h6 : 0 ≤ ct ∧ ct ≤ 1000
            · have h9 : (1 ≤ ev ∧ ev ≤ 1000) ∧ (-4000000 ≤ fr ∧ fr ≤ 4000000) ∧ (-4000000 ≤ un ∧ un ≤ 4000000) ∧ fr ≤ un ∧ (0 ≤ ct ∧ ct ≤ 1000) := by omega
              rw [decide_eq_true h6, Bool.not_true, hf, if_pos h9, recurError_l0 a b c k (by omega)]
            · have h9 : ¬ ((1 ≤ ev ∧ ev ≤ 1000) ∧ (-4000000 ≤ fr ∧ fr ≤ 4000000) ∧ (-4000000 ≤ un ∧ un ≤ 4000000) ∧ fr ≤ un ∧ (0 ≤ ct ∧ ct ≤ 1000)) := by omega
              rw [decide_eq_false h6, Bool.not_false, ht, if_neg h9]
        · have h9 : ¬ ((1 ≤ ev ∧ ev ≤ 1000) ∧ (-4000000 ≤ fr ∧ fr ≤ 4000000) ∧ (-4000000 ≤ un ∧ un ≤ 4000000) ∧ fr ≤ un ∧ (0 ≤ ct ∧ ct ≤ 1000)) := by omega
          rw [if_neg h4, ht, if_neg h9]
      · have h9 : ¬ ((1 ≤ ev ∧ ev ≤ 1000) ∧ (-4000000 ≤ fr ∧ fr ≤ 4000000) ∧ (-4000000 ≤ un ∧ un ≤ 4000000) ∧ fr ≤ un ∧ (0 ≤ ct ∧ ct ≤ 1000)) := by omega
        rw [if_neg h3, ht, if_neg h9]
    · have h9 : ¬ ((1 ≤ ev ∧ ev ≤ 1000) ∧ (-4000000 ≤ fr ∧ fr ≤ 4000000) ∧ (-4000000 ≤ un ∧ un ≤ 4000000) ∧ fr ≤ un ∧ (0 ≤ ct ∧ ct ≤ 1000)) := by omega
      rw [if_neg h2, ht, if_neg h9]
  · rw [if_neg h1, if_neg h1]

theorem recErr_ref (u ev fr ct un : Int) (a b c : List Int) : refErr u ev fr ct un a b c = some (recErr u ev fr ct un a b c) := by
  unfold refErr recErr
  by_cases h1 : 1 ≤ u ∧ u ≤ 4
  · rw [if_pos h1, if_pos h1]
    by_cases h2 : (1 ≤ ev ∧ ev ≤ 1000) ∧ (-4000000 ≤ fr ∧ fr ≤ 4000000) ∧ (-4000000 ≤ un ∧ un ≤ 4000000) ∧ fr ≤ un ∧ (0 ≤ ct ∧ ct ≤ 1000)
    · rw [if_pos h2, if_pos h2]
      unfold orGo
      by_cases h3 : listErr false 0 6 a = 0
      · rw [if_pos h3, if_pos h3]
        by_cases h4 : listErr true (-31) 31 b = 0
        · rw [if_pos h4, if_pos h4]
          by_cases h5 : listErr false 1 12 c = 0
          · rw [if_pos h5, h5]
          · rw [if_neg h5]
        · rw [if_neg h4, if_neg h4]
      · rw [if_neg h3, if_neg h3]
    · rw [if_neg h2, if_neg h2]
  · rw [if_neg h1, if_neg h1]
theorem RecurChecks : ephemerislaw1_RecurChecks.Pure := by
  intro u ev fr ct un a b c _ _ _ _ _ _ _ _
  refine ⟨10000, ?_⟩
  unfold ephemerislaw1_RecurChecks.f
  rw [recur_Check_f _ _ _ _ _ _ _ _ 10000 (by omega), show recErr 1 1 5 0 4 [] [] [] = 3 from by decide, Option.bind_some, if_pos rfl]
  rw [recur_Check_f _ _ _ _ _ _ _ _ 10000 (by omega), ephemerisref1_RecurError_f _ _ _ _ _ _ _ _ 10000 (by omega), recErr_ref, Option.bind_some, Option.bind_some]
  simp
end Go.Proofs.Yteogcbhlilechaa.Pure
