/- The law RecurNormals over numbers and lists: what the law's functions tell, and that the law holds. -/
import Derived.Test.YtgcmclnjnimolaaPRecurNormalsx11
import Derived.Test.YtgcmclnjnimolaaM
import Derived.Test.YtgcmclnjnimolaaL
import Derived.Test.YtgcmclnjnimolaaG
import Derived.Test.YtgcmclnjnimolaaO
namespace Go.Proofs.Ytgcmclnjnimolaa.Pure
open Go.RowKit Go.Proofs.Ytgcmclnjnimolaa.PRecurNormals Go.Proofs.YtgcmclnjnimolaaW.PrintWords Go.Proofs.YtgcmclnjnimolaaW.PrintLast Go.Proofs.Ytgcmclnjnimolaa.M Go.Proofs.Ytgcmclnjnimolaa.L Go.Proofs.Ytgcmclnjnimolaa.G Go.Proofs.Ytgcmclnjnimolaa.O
set_option linter.unusedVariables false
set_option linter.unusedSimpArgs false
/-- The law over numbers and lists. -/
def ephemerislaw1_RecurNormals.Pure : Prop := ∀ (a0_0 : Int) (a0_1 : Int) (a0_2 : Int) (a0_3 : Int) (a0_4 : Int) (l0_5 : List (Int)) (l0_6 : List (Int)) (l0_7 : List (Int)), (Lit.int .i64 a0_0).wf = true → (Lit.int .i64 a0_1).wf = true → (Lit.int .i64 a0_2).wf = true → (Lit.int .i64 a0_3).wf = true → (Lit.int .i64 a0_4).wf = true → (l0_5.length * 8 ≤ 140737488351232 ∧ l0_5.length ≤ 9223372036854775807 ∧ ∀ v ∈ l0_5, (Lit.int .i64 v).wf = true) → (l0_6.length * 8 ≤ 140737488351232 ∧ l0_6.length ≤ 9223372036854775807 ∧ ∀ v ∈ l0_6, (Lit.int .i64 v).wf = true) → (l0_7.length * 8 ≤ 140737488351232 ∧ l0_7.length ≤ 9223372036854775807 ∧ ∀ v ∈ l0_7, (Lit.int .i64 v).wf = true) → ∃ k, ephemerislaw1_RecurNormals.f k a0_0 a0_1 a0_2 a0_3 a0_4 l0_5 l0_6 l0_7 = some true

theorem ephemerisref1_SameInts_l0 (a b : List Int) (hl : a.length = b.length) (hm : a.length ≤ 9223372036854775807) : ∀ (d i k : Nat), i + d = a.length → d < k →
    ephemerisref1_SameInts.l0 k a b (a.length : Int) (i : Int) = some (decide (a.drop i = b.drop i)) := by
  intro d
  induction d with
  | zero =>
    intro i k hi hk
    obtain ⟨k, rfl⟩ : ∃ m, k = m + 1 := ⟨k - 1, by omega⟩
    conv => lhs; unfold ephemerisref1_SameInts.l0
    rw [if_neg (by omega), List.drop_of_length_le (by omega), List.drop_of_length_le (by omega)]; rfl
  | succ d ih =>
    intro i k hi hk
    obtain ⟨k, rfl⟩ : ∃ m, k = m + 1 := ⟨k - 1, by omega⟩
    have h1 : i < a.length := by omega
    have h2 : i < b.length := by omega
    conv => lhs; unfold ephemerisref1_SameInts.l0
    rw [if_pos (by omega), if_pos (by omega), if_pos (by omega), if_pos (by omega), rd_get a i h1, rd_get b i h2, List.drop_eq_getElem_cons h1, List.drop_eq_getElem_cons h2]
    by_cases c : a[i] = b[i]
    · rw [if_pos c, w64_id (n := (i : Int) + 1) (by omega) (by omega)]
      have := ih (i + 1) k (by omega) (by omega)
      rw [show ((i + 1 : Nat) : Int) = (i : Int) + 1 from by omega] at this
      rw [this]
      congr 1
      apply decide_eq_decide.2
      constructor
      · intro h; rw [c, h]
      · intro h; exact (List.cons.inj h).2
    · rw [if_neg c]
      congr 1
      symm
      exact decide_eq_false (fun h => c (List.cons.inj h).1)
theorem ephemerisref1_SameInts_f (a b : List Int) (hm : a.length ≤ 9223372036854775807) (k : Nat) (hk : a.length < k) : ephemerisref1_SameInts.f k a b = some (decide (a = b)) := by
  unfold ephemerisref1_SameInts.f
  by_cases c : a.length = b.length
  · rw [if_pos (by omega)]
    exact ephemerisref1_SameInts_l0 a b c hm a.length 0 k (by omega) hk
  · rw [if_neg (by omega)]
    congr 1
    symm
    exact decide_eq_false (fun h => c (by rw [h]))

theorem slices_Index_l0 (l : List Int) (x : Int) (hl : l.length ≤ 9223372036854775806) : ∀ (d i k : Nat), i + d = l.length → d < k →
    ∃ r, slices_Index_int_int.l0 k l x (l.length : Int) (i : Int) = some r ∧ (x ∈ l.drop i → 0 ≤ r) ∧ (¬ x ∈ l.drop i → r = -1) := by
  intro d
  induction d with
  | zero =>
    intro i k hi hk
    obtain ⟨k, rfl⟩ : ∃ m, k = m + 1 := ⟨k - 1, by omega⟩
    refine ⟨-1, ?_, ?_, fun _ => rfl⟩
    · simp only [slices_Index_int_int.l0]; rw [if_neg (by omega)]
    · rw [List.drop_of_length_le (by omega)]; intro h; cases h
  | succ d ih =>
    intro i k hi hk
    obtain ⟨k, rfl⟩ : ∃ m, k = m + 1 := ⟨k - 1, by omega⟩
    simp only [slices_Index_int_int.l0]
    rw [if_pos (by omega), if_pos (by omega), if_pos (by omega), rd_get l i (by omega), List.drop_eq_getElem_cons (show i < l.length by omega)]
    by_cases c : x = l[i]
    · exact ⟨i, by rw [if_pos c], fun _ => by omega, fun h => absurd (c ▸ List.mem_cons_self) h⟩
    · rw [if_neg c, w64_id (by omega) (by omega)]
      obtain ⟨r, h1, h2, h3⟩ := ih (i + 1) k (by omega) (by omega)
      exact ⟨r, h1, fun h => h2 ((List.mem_cons.1 h).resolve_left c), fun h => h3 (fun h' => h (List.mem_cons_of_mem _ h'))⟩

theorem slices_Contains_f (l : List Int) (x : Int) (hl : l.length ≤ 9223372036854775806) (k : Nat) (hk : l.length < k) : slices_Contains_int_int.f k l x = some (decide (x ∈ l)) := by
  unfold slices_Contains_int_int.f slices_Index_int_int.f
  obtain ⟨r, h1, h2, h3⟩ := slices_Index_l0 l x hl l.length 0 k (by omega) hk
  rw [List.drop_zero] at h2 h3
  rw [show ((0 : Nat) : Int) = 0 from rfl] at h1
  rw [h1]
  simp only [Option.bind_some]
  congr 1
  by_cases c : x ∈ l
  · rw [decide_eq_true c, decide_eq_true (h2 c)]
  · rw [decide_eq_false c, decide_eq_false (by rw [h3 c]; omega)]

/-- The list in rising order. -/
def rising (l : List Int) : List Int := l.mergeSort fun x y => decide (x ≤ y)
theorem rising_len (l : List Int) : (rising l).length = l.length := List.length_mergeSort l
theorem slices_Sort_int_int_f (l : List Int) (h : l.length < 4611686018427387904) : slices_Sort_int_int.f l = some (rising l) := by
  unfold slices_Sort_int_int.f
  rw [if_pos h]; rfl

theorem line_Check_f (x : Int) : line_Check.f x = some (if -4000000 ≤ x ∧ x ≤ 4000000 then 0 else 3) := by
  unfold line_Check.f
  by_cases h : x < -4000000
  · rw [if_pos h, if_neg (by omega)]
  · rw [if_neg h]
    by_cases h2 : x > 4000000
    · rw [if_pos h2, if_neg (by omega)]
    · rw [if_neg h2, if_pos (by omega)]

theorem recur_list_l0 (l : List Int) (lo hi : Int) (hl : l.length ≤ 31) : ∀ (d i k : Nat), i + d = l.length → 2 * d + 40 < k →
    recur_list.l0 k l lo hi l (l.length : Int) (i : Int) = some (listFrom (decide (lo < 0)) lo hi (l.take i) (l.drop i)) := by
  intro d
  induction d with
  | zero =>
    intro i k hi' hk
    obtain ⟨k, rfl⟩ : ∃ m, k = m + 1 := ⟨k - 1, by omega⟩
    simp only [recur_list.l0]
    rw [if_neg (by omega), List.drop_of_length_le (by omega)]; rfl
  | succ d ih =>
    intro i k hi' hk
    obtain ⟨k, rfl⟩ : ∃ m, k = m + 2 := ⟨k - 2, by omega⟩
    have hlt : i < l.length := by omega
    have hj : (if l[i] < lo then (recur_list.j1 (k + 1) l lo hi (i : Int) l[i] l (l.length : Int) (i : Int) true) else (if l[i] > hi then (recur_list.j1 (k + 1) l lo hi (i : Int) l[i] l (l.length : Int) (i : Int) true) else (if lo < 0 then (recur_list.j1 (k + 1) l lo hi (i : Int) l[i] l (l.length : Int) (i : Int) (l[i] == 0)) else (recur_list.j1 (k + 1) l lo hi (i : Int) l[i] l (l.length : Int) (i : Int) false))))
        = recur_list.j1 (k + 1) l lo hi (i : Int) l[i] l (l.length : Int) (i : Int) (decide (¬ ((lo ≤ l[i] ∧ l[i] ≤ hi) ∧ ¬ (decide (lo < 0) = true ∧ l[i] = 0)))) := by
      by_cases c1 : l[i] < lo
      · rw [if_pos c1, dec_not_true (fun h => by omega)]
      rw [if_neg c1]
      by_cases c2 : l[i] > hi
      · rw [if_pos c2, dec_not_true (fun h => by omega)]
      rw [if_neg c2]
      by_cases c3 : lo < 0
      · rw [if_pos c3]
        by_cases c4 : l[i] = 0
        · rw [beq_iff_eq.2 c4, dec_not_true (fun h => h.2 ⟨decide_eq_true c3, c4⟩)]
        · rw [beq_eq_false_iff_ne.2 c4, dec_not_false ⟨by omega, fun h' => c4 h'.2⟩]
      · rw [if_neg c3, dec_not_false ⟨by omega, fun h' => c3 (of_decide_eq_true h'.1)⟩]
    rw [show k + 2 = (k + 1) + 1 from rfl]
    conv => lhs; unfold recur_list.l0
    rw [if_pos (by omega), if_pos (by omega), if_pos (by omega), rd_get l i hlt, hj, List.drop_eq_getElem_cons hlt]
    simp only [recur_list.j1, decide_eq_true_eq, listFrom]
    by_cases c : (lo ≤ l[i] ∧ l[i] ≤ hi) ∧ ¬ (lo < 0 ∧ l[i] = 0)
    · rw [if_neg (fun h => h c), if_pos c, if_pos (by omega), if_pos (by omega), show ((i : Int).toNat) = i from by omega, slices_Contains_f _ _ (by rw [List.length_take]; omega) k (by rw [List.length_take]; omega)]
      simp only [Option.bind_some, decide_eq_true_eq]
      by_cases c2 : l[i] ∈ l.take i
      · rw [if_pos c2, if_pos c2]
      · rw [if_neg c2, if_neg c2, w64_id (by omega) (by omega), take_snoc' l i hlt]
        exact ih (i + 1) k (by omega) (by omega)
    · rw [if_pos c, if_neg c]
theorem recur_list_f (l : List Int) (lo hi : Int) (k : Nat) (hk : 150 ≤ k) : recur_list.f k l lo hi = some (listErr (decide (lo < 0)) lo hi l) := by
  unfold recur_list.f listErr
  by_cases c : (l.length : Int) > 31
  · rw [if_pos c, if_neg (by omega)]
  · rw [if_neg c, if_pos (by omega)]
    exact recur_list_l0 l lo hi (by omega) l.length 0 k (by omega) (by omega)

/-- What Check of recurrences tells. -/
def recErr (u ev fr ct un : Int) (a b c : List Int) : Int :=
  if 1 ≤ u ∧ u ≤ 4 then (if (1 ≤ ev ∧ ev ≤ 1000) ∧ (-4000000 ≤ fr ∧ fr ≤ 4000000) ∧ (-4000000 ≤ un ∧ un ≤ 4000000) ∧ fr ≤ un ∧ (0 ≤ ct ∧ ct ≤ 1000) then
    (if listErr false 0 6 a = 0 then (if listErr true (-31) 31 b = 0 then listErr false 1 12 c else listErr true (-31) 31 b) else listErr false 0 6 a) else 3) else 1
theorem recur_Check_f (u ev fr ct un : Int) (a b c : List Int) (k : Nat) (hk : 200 ≤ k) : recur_Check.f k u ev fr ct un a b c = some (recErr u ev fr ct un a b c) := by
  obtain ⟨k, rfl⟩ : ∃ m, k = m + 2 := ⟨k - 2, by omega⟩
  have hj : recur_Check.f (k + 2) u ev fr ct un a b c = recur_Check.j0 (k + 2) (decide (¬ (1 ≤ u ∧ u ≤ 4))) u ev fr ct un a b c := by
    unfold recur_Check.f
    by_cases c1 : u < 1
    · rw [if_pos c1, decide_eq_true (by omega)]
    rw [if_neg c1]
    by_cases c2 : u > 4
    · rw [decide_eq_true c2, decide_eq_true (by omega)]
    · rw [decide_eq_false c2, decide_eq_false (by omega)]
  rw [hj]
  simp only [recur_Check.j0]
  unfold recErr
  by_cases h1 : 1 ≤ u ∧ u ≤ 4
  · rw [dec_not_false h1, if_neg (by decide), if_pos h1]
    have ht : recur_Check.j1 (k + 1) true u ev fr ct un a b c = some 3 := by simp only [recur_Check.j1, if_true]
    by_cases h2 : (1 ≤ ev ∧ ev ≤ 1000) ∧ (-4000000 ≤ fr ∧ fr ≤ 4000000) ∧ (-4000000 ≤ un ∧ un ≤ 4000000) ∧ fr ≤ un ∧ (0 ≤ ct ∧ ct ≤ 1000)
    · rw [if_pos h2, if_neg (show ¬ ev < 1 by omega), if_neg (show ¬ ev > 1000 by omega), line_Check_f, if_pos h2.2.1, Option.bind_some, if_pos rfl, line_Check_f, if_pos h2.2.2.1, Option.bind_some, if_pos rfl, if_neg (show ¬ un < fr by omega), if_neg (show ¬ ct < 0 by omega), decide_eq_false (show ¬ ct > 1000 by omega)]
      simp only [recur_Check.j1, Bool.false_eq_true, if_false]
      rw [recur_list_f a 0 6 k (by omega), recur_list_f b (-31) 31 k (by omega), recur_list_f c 1 12 k (by omega)]
      simp only [Option.bind_some, show decide ((0 : Int) < 0) = false from rfl, show decide ((-31 : Int) < 0) = true from rfl, show decide ((1 : Int) < 0) = false from rfl]
      by_cases h3 : listErr false 0 6 a = 0
      · rw [if_pos h3, if_pos h3]
        by_cases h4 : listErr true (-31) 31 b = 0
        · rw [if_pos h4, if_pos h4]
        · rw [if_neg h4, if_neg h4]
      · rw [if_neg h3, if_neg h3]
    · rw [if_neg h2]
      by_cases d1 : ev < 1
      · rw [if_pos d1, ht]
      rw [if_neg d1]
      by_cases d2 : ev > 1000
      · rw [if_pos d2, ht]
      rw [if_neg d2, line_Check_f]
      by_cases d3 : -4000000 ≤ fr ∧ fr ≤ 4000000
      · rw [if_pos d3, Option.bind_some, if_pos rfl, line_Check_f]
        by_cases d4 : -4000000 ≤ un ∧ un ≤ 4000000
        · rw [if_pos d4, Option.bind_some, if_pos rfl]
          by_cases d5 : un < fr
          · rw [if_pos d5, ht]
          rw [if_neg d5]
          by_cases d6 : ct < 0
          · rw [if_pos d6, ht]
          rw [if_neg d6, decide_eq_true (show ct > 1000 by omega), ht]
        · rw [if_neg d4, Option.bind_some, if_neg (by omega), ht]
      · rw [if_neg d3, Option.bind_some, if_neg (by omega), ht]
  · rw [dec_not_true h1, if_pos rfl, if_neg h1]

theorem slices_Clone_int_int_f (l : List Int) (h : l.length < 17592186044416) : slices_Clone_int_int.f l = some l := by
  unfold slices_Clone_int_int.f
  rw [Option.bind_some, if_pos (by simpa using h)]
  simp

theorem whole_Mod_f {a m : Int} (hm : 0 < m) (hm1 : m ≤ 9223372036854775807) : whole_Mod.f a m = some (a % m) := by
  unfold whole_Mod.f
  rw [if_neg (by omega)]
  obtain ⟨h1, h2⟩ := tmod_emod a m hm
  have h3 := Int.emod_nonneg a (b := m) (by omega)
  have h4 := Int.emod_lt_of_pos a hm
  by_cases c : Int.tmod a m < 0
  · rw [if_pos c, h1 c, w64_id (by omega) (by omega)]
  · rw [if_neg c, h2 c]

theorem whole_Div_f {a b : Int} (k : Nat) (hk : 1 ≤ k) (ha : -9223372036854775808 ≤ a) (ha1 : a ≤ 9223372036854775807) (hb : -9223372036854775808 ≤ b) (hb1 : b ≤ 9223372036854775807) : whole_Div.f k a b = some (divs a b) := by
  obtain ⟨k, rfl⟩ : ∃ m, k = m + 1 := ⟨k - 1, by omega⟩
  unfold whole_Div.f divs
  by_cases c : b = 0
  · rw [if_pos c, if_pos c]
  rw [if_neg c, if_neg c]
  by_cases d : a = -9223372036854775808 ∧ b = -1
  · rw [if_pos d.1, if_pos d, d.2]; simp [whole_Div.j0]
  have e : (if a = (-9223372036854775808) then (whole_Div.j0 (k + 1) a b (b == (-1))) else (whole_Div.j0 (k + 1) a b false)) = whole_Div.j0 (k + 1) a b false := by
    by_cases c1 : a = -9223372036854775808
    · rw [if_pos c1, show (b == -1) = false from beq_eq_false_iff_ne.2 (fun h => d ⟨c1, h⟩)]
    · rw [if_neg c1]
  rw [e, if_neg d]
  simp only [whole_Div.j0, Bool.false_eq_true, if_false]
  rw [if_neg c]
  obtain ⟨b1, b2⟩ := tdiv_bound a b c ha ha1 d
  obtain ⟨g1, g2, g3⟩ := fd_of_t a b c
  obtain ⟨t0, t1, t2, t3, t4⟩ := tdm a b c
  rw [w64_id b1 b2]
  by_cases hz : Int.tmod a b = 0
  · rw [if_pos hz, (g1 hz).1, (g1 hz).2, hz]
  · rw [if_neg hz]
    cases hs : (decide (Int.tmod a b < 0) != decide (b < 0)) with
    | true =>
      have hq : fd a b = Int.tdiv a b - 1 := (g2 hz hs).1
      have hfs := fd_spec a b c
      have hlow : -9223372036854775808 ≤ Int.tdiv a b - 1 := by
        by_cases hm : Int.tdiv a b = -9223372036854775808
        · exfalso
          have h9 : (Int.tdiv a b).natAbs = a.natAbs / b.natAbs := Int.natAbs_tdiv a b
          rw [hm] at h9
          have h10 : a.natAbs / b.natAbs ≤ a.natAbs := Nat.div_le_self _ _
          by_cases hb2 : b.natAbs = 1
          · have : b = 1 ∨ b = -1 := by omega
            rcases this with rfl | rfl
            · exact hz (by rw [Int.tmod_one])
            · exact hz (by rw [Int.tmod_neg, Int.tmod_one])
          · have : a.natAbs / b.natAbs ≤ a.natAbs / 2 := Nat.div_le_div_left (by omega) (by omega)
            omega
        · omega
      have hss : (Int.tmod a b < 0 ∧ 0 < b) ∨ (0 < Int.tmod a b ∧ b < 0) := by
        by_cases hx : Int.tmod a b < 0 <;> by_cases hy : b < 0 <;> simp [hx, hy] at hs
        · exact .inl ⟨hx, by omega⟩
        · exact .inr ⟨by omega, hy⟩
      simp only [if_true]
      rw [(g2 hz hs).1, (g2 hz hs).2, w64_id hlow (by omega), w64_id (n := Int.tmod a b + b) (by omega) (by omega)]
    | false =>
      simp only [Bool.false_eq_true, if_false]
      rw [(g3 hz hs).1, (g3 hz hs).2]

theorem line_begin_f (y : Int) (h : -1000000000000 ≤ y ∧ y ≤ 1000000000000) (k : Nat) (hk : 1 ≤ k) : line_begin.f k y = some (beg y) := by
  unfold line_begin.f beg
  rw [w64_id (n := y - 1) (by omega) (by omega)]
  rw [whole_Div_f k hk (by omega) (by omega) (by omega) (by omega), whole_Div_f k hk (by omega) (by omega) (by omega) (by omega), whole_Div_f k hk (by omega) (by omega) (by omega) (by omega), divs_pos (by omega), divs_pos (by omega), divs_pos (by omega)]
  rw [Option.bind_some, Option.bind_some, Option.bind_some]
  simp only
  have b1 : 365 * (y - 1) + (y - 1) / 4 = 365 * (y - 1) + (y - 1) / 4 := rfl
  rw [w64_id (n := 365 * (y - 1)) (by omega) (by omega), w64_id (n := 365 * (y - 1) + (y - 1) / 4) (by omega) (by omega), w64_id (n := 365 * (y - 1) + (y - 1) / 4 - (y - 1) / 100) (by omega) (by omega), w64_id (n := 365 * (y - 1) + (y - 1) / 4 - (y - 1) / 100 + (y - 1) / 400) (by omega) (by omega)]

theorem line_leap_f (y : Int) : line_leap.f y = some (leapY y) := by
  unfold line_leap.f leapY
  have h4 := tmod_zero_iff y (g := 4) (by omega)
  have h100 := tmod_zero_iff y (g := 100) (by omega)
  have h400 := tmod_zero_iff y (g := 400) (by omega)
  by_cases c4 : y % 4 = 0
  · rw [if_pos (h4.2 c4)]
    by_cases c1 : y % 100 = 0
    · rw [if_pos (h100.2 c1)]
      congr 1
      by_cases c0 : y % 400 = 0
      · rw [beq_iff_eq.2 (h400.2 c0), decide_eq_true ⟨c4, .inr c0⟩]
      · rw [beq_eq_false_iff_ne.2 (fun h => c0 (h400.1 h)), decide_eq_false (fun h => h.2.elim (fun x => x c1) c0)]
    · rw [if_neg (fun h => c1 (h100.1 h)), decide_eq_true ⟨c4, .inl c1⟩]
  · rw [if_neg (fun h => c4 (h4.1 h)), decide_eq_false (fun h => c4 h.1)]

theorem line_length_f (y m : Int) : line_length.f y m = some (lenM y m) := by
  unfold line_length.f lenM
  by_cases c2 : m = 2
  · rw [if_pos c2, if_pos c2, line_leap_f, Option.bind_some]
    cases leapY y <;> rfl
  rw [if_neg c2, if_neg c2]
  by_cases c4 : m = 4
  · rw [if_pos c4, if_pos (.inl c4)]
  rw [if_neg c4]
  by_cases c6 : m = 6
  · rw [if_pos c6, if_pos (.inr (.inl c6))]
  rw [if_neg c6]
  by_cases c9 : m = 9
  · rw [if_pos c9, if_pos (.inr (.inr (.inl c9)))]
  rw [if_neg c9]
  by_cases c11 : m = 11
  · rw [if_pos c11, if_pos (.inr (.inr (.inr c11)))]
  rw [if_neg c11, if_neg (fun h => h.elim c4 (fun h => h.elim c6 (fun h => h.elim c9 c11)))]

theorem line_Date_l2 (x Y : Int) (hx : -4000000 ≤ x ∧ x ≤ 4000000) (hY : -100000 ≤ Y ∧ Y ≤ 100000) : ∀ (d k : Nat) (m : Int), m + d = 12 → 1 ≤ m → d < k → 1 ≤ x - beg Y - cumM Y m → x - beg Y ≤ (if leapY Y = true then 366 else 365) →
    ∃ m' r, line_Date.l2 k Y (x - beg Y - cumM Y m) m = some (Y, m', r, 0) ∧ okDate Y m' r ∧ dayOf Y m' r = x := by
  intro d
  induction d with
  | zero =>
    intro k m hm h1 hk hr hle
    obtain ⟨k, rfl⟩ : ∃ m, k = m + 1 := ⟨k - 1, by omega⟩
    obtain rfl : m = 12 := by omega
    have he := cum_end Y
    conv => enter [1, m', 1, r, 1]; unfold line_Date.l2
    rw [line_length_f, Option.bind_some, if_neg (by omega)]
    exact ⟨12, _, rfl, ⟨by omega, by omega⟩, by unfold dayOf; omega⟩
  | succ d ih =>
    intro k m hm h1 hk hr hle
    obtain ⟨k, rfl⟩ : ∃ m, k = m + 1 := ⟨k - 1, by omega⟩
    have hs := cum_succ Y m h1 (by omega)
    have hl := len_pos Y m
    have hc := cum_le Y m h1 (by omega)
    have h366 : (if leapY Y = true then (366 : Int) else 365) ≤ 366 := by split <;> omega
    conv => enter [1, m', 1, r, 1]; unfold line_Date.l2
    rw [line_length_f, Option.bind_some]
    by_cases c : x - beg Y - cumM Y m > lenM Y m
    · rw [if_pos c, Option.bind_some, w64_id (n := x - beg Y - cumM Y m - lenM Y m) (by omega) (by omega), w64_id (n := m + 1) (by omega) (by omega), show x - beg Y - cumM Y m - lenM Y m = x - beg Y - cumM Y (m + 1) from by omega]
      exact ih k (m + 1) (by omega) (by omega) (by omega) (by omega) hle
    · rw [if_neg c]
      exact ⟨m, _, rfl, ⟨by omega, by omega⟩, by unfold dayOf; omega⟩
theorem beg_low (y : Int) : 400 * beg y ≤ 146097 * (y - 1) + 396 := by unfold beg; omega
theorem beg_high (y : Int) : 146097 * (y - 1) - 699 ≤ 400 * beg y := by unfold beg; omega
theorem line_Date_l1 (x Y : Int) (hx : -4000000 ≤ x ∧ x ≤ 4000000) (hY : -100000 ≤ Y ∧ Y ≤ 100000) (k : Nat) (hk : 30 ≤ k) (h0 : beg Y < x) (h1 : x ≤ beg (Y + 1)) :
    ∃ m' r, line_Date.l1 k x Y = some (Y, m', r, 0) ∧ okDate Y m' r ∧ dayOf Y m' r = x := by
  obtain ⟨k, rfl⟩ : ∃ m, k = m + 1 := ⟨k - 1, by omega⟩
  have hb := beg_low Y
  have hb' := beg_high Y
  have hs := beg_succ Y
  have hc0 : cumM Y 1 = 0 := by unfold cumM; rw [if_pos (by omega)]
  conv => enter [1, m', 1, r, 1]; unfold line_Date.l1
  rw [w64_id (n := Y + 1) (by omega) (by omega), line_begin_f _ (by omega) k (by omega), line_begin_f _ (by omega) k (by omega), Option.bind_some, if_neg (by omega), Option.bind_some, w64_id (n := x - beg Y) (by omega) (by omega)]
  have := line_Date_l2 x Y hx hY 11 k 1 (by omega) (by omega) (by omega) (by omega) (by omega)
  rw [hc0, Int.sub_zero] at this
  exact this
theorem line_Date_f (x : Int) (k : Nat) (hk : 50 ≤ k) : line_Date.f k x = some (if -4000000 ≤ x ∧ x ≤ 4000000 then ((greg x).1, (greg x).2.1, (greg x).2.2, 0) else (0, 0, 0, 3)) := by
  unfold line_Date.f
  rw [line_Check_f, Option.bind_some]
  by_cases hx : -4000000 ≤ x ∧ x ≤ 4000000
  · rw [if_pos hx, if_pos rfl, if_pos hx, w64_id (n := x - 1) (by omega) (by omega), w64_id (n := 400 * (x - 1)) (by omega) (by omega), whole_Div_f k (by omega) (by omega) (by omega) (by omega) (by omega), divs_pos (by omega), Option.bind_some]
    simp only
    obtain ⟨g, hg⟩ : ∃ g, g = 400 * (x - 1) / 146097 + 1 := ⟨_, rfl⟩
    have hgb : 146097 * (g - 1) ≤ 400 * (x - 1) ∧ 400 * (x - 1) < 146097 * g := by omega
    rw [← hg, w64_id (n := g) (by omega) (by omega)]
    clear hg
    have fin : ∀ Y : Int, (∃ m' r, line_Date.l0 k x g = some (Y, m', r, 0) ∧ okDate Y m' r ∧ dayOf Y m' r = x) → line_Date.l0 k x g = some ((greg x).1, (greg x).2.1, (greg x).2.2, 0) := by
      rintro Y ⟨m', r, h1, h2, h3⟩
      have := dayOf_greg h2
      rw [h3] at this
      rw [h1, this]
    obtain ⟨k, rfl⟩ : ∃ m, k = m + 2 := ⟨k - 2, by omega⟩
    have low1 := beg_low (g - 1)
    have low0 := beg_low g
    have high0 := beg_high g
    have high1 := beg_high (g + 1)
    have high2 := beg_high (g + 2)
    have st : ∀ (j : Nat) (Y : Int), 1 ≤ j → -100000 ≤ Y → Y ≤ 100000 → beg Y < x → line_Date.l0 (j + 1) x Y = line_Date.l1 j x Y := by
      intro j Y hj hY0 hY1 h
      conv => lhs; unfold line_Date.l0
      rw [line_begin_f _ (by omega) j hj, Option.bind_some, if_neg (by omega)]
    by_cases c0 : beg g ≥ x
    · apply fin (g - 1)
      have e : line_Date.l0 (k + 2) x g = line_Date.l1 k x (g - 1) := by
        rw [show k + 2 = (k + 1) + 1 from rfl]
        conv => lhs; unfold line_Date.l0
        rw [line_begin_f _ (by omega) (k + 1) (by omega), Option.bind_some, if_pos c0, w64_id (n := g - 1) (by omega) (by omega)]
        exact st k (g - 1) (by omega) (by omega) (by omega) (by omega)
      rw [e]
      exact line_Date_l1 x (g - 1) hx (by omega) k (by omega) (by omega) (by rw [show g - 1 + 1 = g from by omega]; omega)
    · have e : line_Date.l0 (k + 2) x g = line_Date.l1 (k + 1) x g := st (k + 1) g (by omega) (by omega) (by omega) (by omega)
      by_cases c1 : beg (g + 1) < x
      · apply fin (g + 1)
        rw [e]
        have e2 : line_Date.l1 (k + 1) x g = line_Date.l1 k x (g + 1) := by
          conv => lhs; unfold line_Date.l1
          rw [w64_id (n := g + 1) (by omega) (by omega), line_begin_f _ (by omega) k (by omega), Option.bind_some, if_pos c1]
        rw [e2]
        exact line_Date_l1 x (g + 1) hx (by omega) k (by omega) c1 (by rw [show g + 1 + 1 = g + 2 from by omega]; omega)
      · apply fin g
        rw [e]
        exact line_Date_l1 x g hx (by omega) (k + 1) (by omega) (by omega) (by omega)
  · rw [if_neg hx, if_neg (by omega), if_neg hx]

/-- The additional conditions as lists. -/
def expl (u fr : Int) (a b c : List Int) : List Int × List Int × List Int :=
  if a = [] ∧ b = [] then (if u = 2 then ([(fr - 1) % 7], b, c) else if u = 3 then (a, [(greg fr).2.2], c) else if u = 4 then (a, [(greg fr).2.2], if c = [] then [(greg fr).2.1] else c) else (a, b, c)) else (a, b, c)
theorem expl_len (u fr : Int) (a b c : List Int) (ha : a.length ≤ 31) (hb : b.length ≤ 31) (hc : c.length ≤ 31) : (expl u fr a b c).1.length ≤ 31 ∧ (expl u fr a b c).2.1.length ≤ 31 ∧ (expl u fr a b c).2.2.length ≤ 31 := by
  unfold expl
  split
  · split
    · simp only [List.length_cons, List.length_nil]; omega
    · split
      · simp only [List.length_cons, List.length_nil]; omega
      · split
        · refine ⟨by simp only; omega, by simp only [List.length_cons, List.length_nil]; omega, ?_⟩
          show (if c = [] then [(greg fr).2.1] else c).length ≤ 31
          split
          · simp only [List.length_cons, List.length_nil]; omega
          · omega
        · exact ⟨ha, hb, hc⟩
  · exact ⟨ha, hb, hc⟩
theorem len_zero (l : List Int) : ((l.length : Int) = 0) = (l = []) := by
  apply propext
  constructor
  · intro h; exact List.eq_nil_of_length_eq_zero (by omega)
  · intro h; subst h; rfl
theorem len_some (l : List Int) : ((l.length : Int) > 0) = ¬ (l = []) := by
  apply propext
  constructor
  · intro h g; subst g; simp at h
  · intro h
    have : l.length ≠ 0 := fun g => h (List.eq_nil_of_length_eq_zero g)
    omega
theorem recur_explicit_f (u ev fr ct un : Int) (a b c : List Int) (hf : -4000000 ≤ fr ∧ fr ≤ 4000000) (ha : a.length ≤ 31) (hb : b.length ≤ 31) (hc : c.length ≤ 31) (k : Nat) (hk : 60 ≤ k) :
    recur_explicit.f k u ev fr ct un a b c = some (u, ev, fr, ct, un, (expl u fr a b c).1, (expl u fr a b c).2.1, (expl u fr a b c).2.2) := by
  obtain ⟨k, rfl⟩ : ∃ m, k = m + 1 := ⟨k - 1, by omega⟩
  unfold recur_explicit.f
  rw [slices_Clone_int_int_f a (by omega), Option.bind_some, slices_Clone_int_int_f b (by omega), Option.bind_some, slices_Clone_int_int_f c (by omega), Option.bind_some]
  simp only [len_some]
  unfold expl
  by_cases h1 : a = []
  · rw [if_neg (fun h => h h1)]
    by_cases h2 : b = []
    · rw [if_pos ⟨h1, h2⟩, decide_eq_false (fun h => h h2)]
      simp only [recur_explicit.j0]
      rw [if_neg (by decide), line_Date_f fr k (by omega), if_pos hf, Option.bind_some]
      simp only [len_zero]
      by_cases u2 : u = 2
      · rw [if_pos u2, if_pos u2, w64_id (by omega) (by omega), whole_Mod_f (by decide) (by decide), Option.bind_some]
      rw [if_neg u2, if_neg u2]
      by_cases u3 : u = 3
      · rw [if_pos u3, if_pos u3]
      rw [if_neg u3, if_neg u3]
      by_cases u4 : u = 4
      · rw [if_pos u4, if_pos u4, Option.bind_some]
        by_cases h3 : c = []
        · rw [if_pos h3]; simp only [if_pos h3]
        · rw [if_neg h3]; simp only [if_neg h3]
      · rw [if_neg u4, if_neg u4]
    · rw [if_neg (fun h => h2 h.2), decide_eq_true h2]
      simp only [recur_explicit.j0]
      rw [if_pos trivial]
  · rw [if_pos h1, if_neg (fun h => h1 h.1)]
    simp only [recur_explicit.j0]
    rw [if_pos trivial]

theorem ephemerisref1_In_f (x lo hi : Int) : ephemerisref1_In.f x lo hi = some (decide (lo ≤ x ∧ x ≤ hi)) := by
  unfold ephemerisref1_In.f
  by_cases h : x ≥ lo
  · rw [if_pos h]; congr 1; simp; omega
  · rw [if_neg h]; congr 1; simp; omega

theorem ephemerisref1_Day_f (x : Int) : ephemerisref1_Day.f x = some (decide (-4000000 ≤ x ∧ x ≤ 4000000)) := by
  unfold ephemerisref1_Day.f
  rw [ephemerisref1_In_f]; rfl

/-- The fault r, or what follows. -/
def orGo (r : Int) (x : Option Int) : Option Int := if r = 0 then x else some r
/-- One list of the reference: the earlier places are looked at one by one. -/
theorem recurError_l2 (x3 : Int) (x4 : List Int) (x5 x6 x8 : Int) (x50 : List (List Int)) (x51 x52 : Int) (x68 : List Int) (x69 x70 : Int) (q : List Int) (hq : q.length ≤ 31) : ∀ (d i k : Nat), i + d = q.length →
    ephemerisref1_RecurError.l2 (k + d + 1) x3 x4 x5 x6 x8 x50 x51 x52 x68 x69 x70 q (q.length : Int) (i : Int) = (if x8 ∈ q.drop i then some 7 else ephemerisref1_RecurError.l2 (k + 1) x3 x4 x5 x6 x8 x50 x51 x52 x68 x69 x70 q (q.length : Int) (q.length : Int)) := by
  intro d
  induction d with
  | zero =>
    intro i k hi
    obtain rfl : i = q.length := by omega
    rw [List.drop_of_length_le (by omega), if_neg (by simp)]
  | succ d ih =>
    intro i k hi
    have hlt : i < q.length := by omega
    rw [show k + (d + 1) + 1 = (k + d + 1) + 1 from by omega]
    conv => lhs; unfold ephemerisref1_RecurError.l2
    rw [if_pos (by omega), if_pos (by omega), if_pos (by omega), rd_get q i hlt, List.drop_eq_getElem_cons hlt]
    by_cases c : q[i] = x8
    · rw [if_pos c, if_pos (by rw [c]; exact List.mem_cons_self)]
    · rw [if_neg c, w64_id (by omega) (by omega)]
      have := ih (i + 1) k (by omega)
      rw [show ((i + 1 : Nat) : Int) = (i : Int) + 1 from by omega] at this
      rw [this]
      by_cases c2 : x8 ∈ q.drop (i + 1)
      · rw [if_pos c2, if_pos (List.mem_cons_of_mem _ c2)]
      · rw [if_neg c2, if_neg (fun h => (List.mem_cons.1 h).elim (fun h => c h.symm) c2)]
theorem recurError_l1 (x3 : Int) (l : List Int) (lo hi : Int) (x50 : List (List Int)) (x51 x52 : Int) (hl : l.length ≤ 31) : ∀ (d i k : Nat), i + d = l.length → 40 * d + 40 < k →
    ∃ k', k ≤ k' + 40 * d + 40 ∧ ephemerisref1_RecurError.l1 k x3 l lo hi x50 x51 x52 l (l.length : Int) (i : Int) = orGo (listFrom (x3 == 1) lo hi (l.take i) (l.drop i)) (ephemerisref1_RecurError.l0 k' x50 x51 (wrap64 (x52 + 1))) := by
  intro d
  induction d with
  | zero =>
    intro i k hi' hk
    obtain ⟨k, rfl⟩ : ∃ m, k = m + 1 := ⟨k - 1, by omega⟩
    refine ⟨k, by omega, ?_⟩
    conv => lhs; unfold ephemerisref1_RecurError.l1
    rw [if_neg (by omega), List.drop_of_length_le (by omega)]
    rfl
  | succ d ih =>
    intro i k hi' hk
    obtain ⟨k, rfl⟩ : ∃ m, k = m + 2 := ⟨k - 2, by omega⟩
    have hlt : i < l.length := by omega
    have hj : ((ephemerisref1_In.f (rd l (i : Int)) lo hi).bind fun t132 => (if t132 = true then (if x3 = 1 then (ephemerisref1_RecurError.j3 (k + 1) x3 l lo hi (i : Int) (rd l (i : Int)) x50 x51 x52 l (l.length : Int) (i : Int) ((rd l (i : Int)) == 0)) else (ephemerisref1_RecurError.j3 (k + 1) x3 l lo hi (i : Int) (rd l (i : Int)) x50 x51 x52 l (l.length : Int) (i : Int) false)) else (ephemerisref1_RecurError.j3 (k + 1) x3 l lo hi (i : Int) (rd l (i : Int)) x50 x51 x52 l (l.length : Int) (i : Int) true)))
        = ephemerisref1_RecurError.j3 (k + 1) x3 l lo hi (i : Int) l[i] x50 x51 x52 l (l.length : Int) (i : Int) (decide (¬ ((lo ≤ l[i] ∧ l[i] ≤ hi) ∧ ¬ ((x3 == 1) = true ∧ l[i] = 0)))) := by
      rw [rd_get l i hlt, ephemerisref1_In_f]
      simp only [Option.bind_some, decide_eq_true_eq, beq_iff_eq]
      by_cases c1 : lo ≤ l[i] ∧ l[i] ≤ hi
      · rw [if_pos c1]
        by_cases c2 : x3 = 1
        · rw [if_pos c2]
          by_cases c3 : l[i] = 0
          · rw [beq_iff_eq.2 c3, dec_not_true (fun h => h.2 ⟨c2, c3⟩)]
          · rw [beq_eq_false_iff_ne.2 c3, dec_not_false ⟨c1, fun h' => c3 h'.2⟩]
        · rw [if_neg c2, dec_not_false ⟨c1, fun h' => c2 h'.1⟩]
      · rw [if_neg c1, dec_not_true (fun h => c1 h.1)]
    rw [show k + 2 = (k + 1) + 1 from rfl]
    conv => enter [1, k', 2, 1]; unfold ephemerisref1_RecurError.l1
    rw [if_pos (by omega), if_pos (by omega), if_pos (by omega), hj, List.drop_eq_getElem_cons hlt]
    simp only [ephemerisref1_RecurError.j3, decide_eq_true_eq]
    by_cases c : (lo ≤ l[i] ∧ l[i] ≤ hi) ∧ ¬ ((x3 == 1) = true ∧ l[i] = 0)
    · have hs : listFrom (x3 == 1) lo hi (l.take i) (l[i] :: l.drop (i + 1)) = if l[i] ∈ l.take i then 7 else listFrom (x3 == 1) lo hi (l.take i ++ [l[i]]) (l.drop (i + 1)) := by
        conv => lhs; unfold listFrom
        rw [if_pos c]
      rw [if_neg (fun h => h c), hs, if_pos (by omega), if_pos (by omega), show ((i : Int).toNat) = i from by omega]
      have hlen : (l.take i).length = i := by rw [List.length_take]; omega
      obtain ⟨k2, rfl⟩ : ∃ m, k = m + i + 1 := ⟨k - i - 1, by omega⟩
      have h2 := recurError_l2 x3 l lo hi l[i] x50 x51 x52 l (l.length : Int) (i : Int) (l.take i) (by omega) i 0 k2 (by omega)
      rw [List.drop_zero] at h2
      rw [show ((0 : Nat) : Int) = 0 from rfl] at h2
      rw [h2]
      by_cases c2 : l[i] ∈ l.take i
      · rw [if_pos c2, if_pos c2]
        exact ⟨k2, by omega, rfl⟩
      · rw [if_neg c2, if_neg c2]
        conv => enter [1, k', 2, 1]; unfold ephemerisref1_RecurError.l2
        rw [if_neg (by omega), w64_id (n := (i : Int) + 1) (by omega) (by omega), take_snoc' l i hlt]
        obtain ⟨k', h1, h3⟩ := ih (i + 1) k2 (by omega) (by omega)
        exact ⟨k', by omega, h3⟩
    · have hs : listFrom (x3 == 1) lo hi (l.take i) (l[i] :: l.drop (i + 1)) = 3 := by unfold listFrom; rw [if_neg c]
      rw [if_pos c, hs]
      exact ⟨k, by omega, rfl⟩
theorem recurError_one (X : List (List Int)) (n i : Int) (li : List Int) (lo hi : Int) (z : Bool) (hz : (i == 1) = z) (k : Nat) (hk : 2000 ≤ k) :
    ∃ k', k ≤ k' + 1400 ∧ (if (li.length : Int) > 31 then some 2 else ephemerisref1_RecurError.l1 k i li lo hi X n i li (li.length : Int) 0) = orGo (listErr z lo hi li) (ephemerisref1_RecurError.l0 k' X n (wrap64 (i + 1))) := by
  by_cases c : (li.length : Int) > 31
  · refine ⟨k, by omega, ?_⟩
    have : listErr z lo hi li = 2 := by unfold listErr; rw [if_neg (by omega)]
    rw [if_pos c, this]; rfl
  · obtain ⟨k', h1, h2⟩ := recurError_l1 i li lo hi X n i (by omega) li.length 0 k (by omega) (by omega)
    refine ⟨k', by omega, ?_⟩
    have : listErr z lo hi li = listFrom z lo hi [] li := by unfold listErr; rw [if_pos (by omega)]
    rw [hz, List.drop_zero, List.take_zero, show ((0 : Nat) : Int) = 0 from rfl] at h2
    rw [if_neg c, this, h2]
theorem recurError_l0 (a b c : List Int) (k : Nat) (hk : 9000 ≤ k) : ephemerisref1_RecurError.l0 k [a, b, c] 3 0 = orGo (listErr false 0 6 a) (orGo (listErr true (-31) 31 b) (orGo (listErr false 1 12 c) (some 0))) := by
  obtain ⟨k, rfl⟩ : ∃ m, k = m + 1 := ⟨k - 1, by omega⟩
  obtain ⟨k1, h1, e1⟩ := recurError_one [a, b, c] 3 0 a 0 6 false rfl k (by omega)
  obtain ⟨k1, rfl⟩ : ∃ m, k1 = m + 1 := ⟨k1 - 1, by omega⟩
  obtain ⟨k2, h2, e2⟩ := recurError_one [a, b, c] 3 1 b (-31) 31 true rfl k1 (by omega)
  obtain ⟨k2, rfl⟩ : ∃ m, k2 = m + 1 := ⟨k2 - 1, by omega⟩
  obtain ⟨k3, h3, e3⟩ := recurError_one [a, b, c] 3 2 c 1 12 false rfl k2 (by omega)
  obtain ⟨k3, rfl⟩ : ∃ m, k3 = m + 1 := ⟨k3 - 1, by omega⟩
  rw [w64_id (by omega) (by omega)] at e1 e2 e3
  have l3 : ephemerisref1_RecurError.l0 (k3 + 1) [a, b, c] 3 (2 + 1) = some 0 := by
    conv => lhs; unfold ephemerisref1_RecurError.l0
    rw [if_neg (by omega)]
  have u : ∀ (j : Nat) (i : Int) (li : List Int) (lo hi : Int), (0 ≤ i ∧ i < 3) → rd_L1 [a, b, c] i = li → rd [0, (-31), 1] i = lo → rd [6, 31, 12] i = hi →
      ephemerisref1_RecurError.l0 (j + 1) [a, b, c] 3 i = (if (li.length : Int) > 31 then some 2 else ephemerisref1_RecurError.l1 j i li lo hi [a, b, c] 3 i li (li.length : Int) 0) := by
    intro j i li lo hi hi' e4 e5 e6
    conv => lhs; unfold ephemerisref1_RecurError.l0
    simp only [Option.bind_some, List.length_cons, List.length_nil]
    rw [if_pos (by omega), if_pos (by omega), if_pos (by omega), e4, e5, e6, if_pos (show i < ((0 + 1 + 1 + 1 : Nat) : Int) from by omega), if_pos (show i < ((0 + 1 + 1 + 1 : Nat) : Int) from by omega)]
  rw [u k 0 a 0 6 (by omega) rfl rfl rfl, e1, show (0 : Int) + 1 = 1 from rfl, u k1 1 b (-31) 31 (by omega) rfl rfl rfl, e2, show (1 : Int) + 1 = 2 from rfl, u k2 2 c 1 12 (by omega) rfl rfl rfl, e3, l3]
/-- What the reference tells. -/
def refErr (u ev fr ct un : Int) (a b c : List Int) : Option Int :=
  if 1 ≤ u ∧ u ≤ 4 then (if (1 ≤ ev ∧ ev ≤ 1000) ∧ (-4000000 ≤ fr ∧ fr ≤ 4000000) ∧ (-4000000 ≤ un ∧ un ≤ 4000000) ∧ fr ≤ un ∧ (0 ≤ ct ∧ ct ≤ 1000) then
    orGo (listErr false 0 6 a) (orGo (listErr true (-31) 31 b) (orGo (listErr false 1 12 c) (some 0))) else some 3) else some 1
theorem ephemerisref1_RecurError_f (u ev fr ct un : Int) (a b c : List Int) (k : Nat) (hk : 9001 ≤ k) : ephemerisref1_RecurError.f k u ev fr ct un a b c = refErr u ev fr ct un a b c := by
  obtain ⟨k, rfl⟩ : ∃ m, k = m + 1 := ⟨k - 1, by omega⟩
  have ht : ephemerisref1_RecurError.j0 (k + 1) true u ev fr ct un a b c = some 3 := by simp only [ephemerisref1_RecurError.j0, if_true]
  have hf : ephemerisref1_RecurError.j0 (k + 1) false u ev fr ct un a b c = ephemerisref1_RecurError.l0 k [a, b, c] 3 0 := by
    simp only [ephemerisref1_RecurError.j0, Bool.false_eq_true, if_false, Option.bind_some, List.length_cons, List.length_nil]
    rfl
  unfold ephemerisref1_RecurError.f refErr
  rw [ephemerisref1_In_f, ephemerisref1_In_f, ephemerisref1_Day_f, ephemerisref1_Day_f, ephemerisref1_In_f]
  simp only [Option.bind_some, decide_eq_true_eq]
  by_cases h1 : 1 ≤ u ∧ u ≤ 4
  · rw [if_pos h1, if_pos h1]
    by_cases h2 : 1 ≤ ev ∧ ev ≤ 1000
    · rw [if_pos h2]
      by_cases h3 : -4000000 ≤ fr ∧ fr ≤ 4000000
      · rw [if_pos h3]
        by_cases h4 : -4000000 ≤ un ∧ un ≤ 4000000
        · rw [if_pos h4]
          by_cases h5 : un < fr
          · have h9 : ¬ ((1 ≤ ev ∧ ev ≤ 1000) ∧ (-4000000 ≤ fr ∧ fr ≤ 4000000) ∧ (-4000000 ≤ un ∧ un ≤ 4000000) ∧ fr ≤ un ∧ (0 ≤ ct ∧ ct ≤ 1000)) := by omega
            rw [if_pos h5, ht, if_neg h9]
          · rw [if_neg h5]
            by_cases h6 : 0 ≤ ct ∧ ct ≤ 1000
            · have h9 : (1 ≤ ev ∧ ev ≤ 1000) ∧ (-4000000 ≤ fr ∧ fr ≤ 4000000) ∧ (-4000000 ≤ un ∧ un ≤ 4000000) ∧ fr ≤ un ∧ (0 ≤ ct ∧ ct ≤ 1000) := by omega
              rw [decide_eq_true h6, Bool.not_true, hf, if_pos h9, recurError_l0 a b c k (by omega)]
            · have h9 : ¬ ((1 ≤ ev ∧ ev ≤ 1000) ∧ (-4000000 ≤ fr ∧ fr ≤ 4000000) ∧ (-4000000 ≤ un ∧ un ≤ 4000000) ∧ fr ≤ un ∧ (0 ≤ ct ∧ ct ≤ 1000)) := by omega
              rw [decide_eq_false h6, Bool.not_false, ht, if_neg h9]
        · have h9 : ¬ ((1 ≤ ev ∧ ev ≤ 1000) ∧ (-4000000 ≤ fr ∧ fr ≤ 4000000) ∧ (-4000000 ≤ un ∧ un ≤ 4000000) ∧ fr ≤ un ∧ (0 ≤ ct ∧ ct ≤ 1000)) := by omega
          rw [if_neg h4, ht, if_neg h9]
      · have h9 : ¬ ((1 ≤ ev ∧ ev ≤ 1000) ∧ (-4000000 ≤ fr ∧ fr ≤ 4000000) ∧ (-4000000 ≤ un ∧ un ≤ 4000000) ∧ fr ≤ un ∧ (0 ≤ ct ∧ ct ≤ 1000)) := by omega
        rw [if_neg h3, ht, if_neg h9]
    · have h9 : ¬ ((1 ≤ ev ∧ ev ≤ 1000) ∧ (-4000000 ≤ fr ∧ fr ≤ 4000000) ∧ (-4000000 ≤ un ∧ un ≤ 4000000) ∧ fr ≤ un ∧ (0 ≤ ct ∧ ct ≤ 1000)) := by omega
      rw [if_neg h2, ht, if_neg h9]
  · rw [if_neg h1, if_neg h1]

theorem listErr_lenN {z : Bool} {lo hi : Int} {l : List Int} (h : listErr z lo hi l = 0) : l.length ≤ 31 := by
  unfold listErr at h
  split at h
  · assumption
  · cases h
theorem recErr_okN {u ev fr ct un : Int} {a b c : List Int} (h : recErr u ev fr ct un a b c = 0) : (1 ≤ u ∧ u ≤ 4) ∧ (1 ≤ ev ∧ ev ≤ 1000) ∧ (-4000000 ≤ fr ∧ fr ≤ 4000000) ∧ (-4000000 ≤ un ∧ un ≤ 4000000) ∧ fr ≤ un ∧ (0 ≤ ct ∧ ct ≤ 1000) ∧ a.length ≤ 31 ∧ b.length ≤ 31 ∧ c.length ≤ 31 := by
  unfold recErr at h
  by_cases h1 : 1 ≤ u ∧ u ≤ 4
  · rw [if_pos h1] at h
    by_cases h2 : (1 ≤ ev ∧ ev ≤ 1000) ∧ (-4000000 ≤ fr ∧ fr ≤ 4000000) ∧ (-4000000 ≤ un ∧ un ≤ 4000000) ∧ fr ≤ un ∧ (0 ≤ ct ∧ ct ≤ 1000)
    · rw [if_pos h2] at h
      by_cases h3 : listErr false 0 6 a = 0
      · rw [if_pos h3] at h
        by_cases h4 : listErr true (-31) 31 b = 0
        · rw [if_pos h4] at h
          exact ⟨h1, h2.1, h2.2.1, h2.2.2.1, h2.2.2.2.1, h2.2.2.2.2, listErr_lenN h3, listErr_lenN h4, listErr_lenN h⟩
        · rw [if_neg h4] at h; exact absurd h h4
      · rw [if_neg h3] at h; exact absurd h h3
    · rw [if_neg h2] at h; cases h
  · rw [if_neg h1] at h; cases h
theorem refErr_recN (u ev fr ct un : Int) (a b c : List Int) : refErr u ev fr ct un a b c = some (recErr u ev fr ct un a b c) := by
  unfold refErr recErr orGo
  by_cases h1 : 1 ≤ u ∧ u ≤ 4
  · rw [if_pos h1, if_pos h1]
    by_cases h2 : (1 ≤ ev ∧ ev ≤ 1000) ∧ (-4000000 ≤ fr ∧ fr ≤ 4000000) ∧ (-4000000 ≤ un ∧ un ≤ 4000000) ∧ fr ≤ un ∧ (0 ≤ ct ∧ ct ≤ 1000)
    · rw [if_pos h2, if_pos h2]
      by_cases h3 : listErr false 0 6 a = 0
      · rw [if_pos h3, if_pos h3]
        by_cases h4 : listErr true (-31) 31 b = 0
        · rw [if_pos h4, if_pos h4]
          by_cases h5 : listErr false 1 12 c = 0
          · rw [if_pos h5, h5]
          · rw [if_neg h5]
        · rw [if_neg h4, if_neg h4]
      · rw [if_neg h3, if_neg h3]
    · rw [if_neg h2, if_neg h2]
  · rw [if_neg h1, if_neg h1]
/-- Do the days come week by week? -/
def byWeek (u ev fr : Int) (a : List Int) : Bool := decide (u = 1 ∧ Int.tmod ev 7 = 0 ∧ (a = [] ∨ (fr - 1) % 7 ∈ a))
/-- A recurrence's numbers and lists, brought into the one form; no error. -/
def normT (u ev fr ct un : Int) (a b c : List Int) : Int × Int × Int × Int × Int × List Int × List Int × List Int × Int :=
  if byWeek u ev fr a = true then (2, Int.tdiv ev 7, fr, ct, un, rising [(fr - 1) % 7], rising b, rising c, 0)
  else (u, ev, fr, ct, un, rising a, rising b, rising c, 0)

theorem recur_Normal_j0 (w : Int) (t : Bool) (u ev fr ct un : Int) (a b c : List Int) (hev : 1 ≤ ev ∧ ev ≤ 1000) (ha : a.length ≤ 31) (hb : b.length ≤ 31) (hc : c.length ≤ 31) (k : Nat) :
    recur_Normal.j0 (k + 1) w t u ev fr ct un a b c = some (if t = true then (2, Int.tdiv ev 7, fr, ct, un, rising [w], rising b, rising c, 0) else (u, ev, fr, ct, un, rising a, rising b, rising c, 0)) := by
  simp only [recur_Normal.j0]
  have hq : Int.tdiv ev 7 = ev / 7 := Int.tdiv_eq_ediv_of_nonneg (by omega)
  rw [slices_Sort_int_int_f [w] (by simp), slices_Sort_int_int_f a (by omega), slices_Sort_int_int_f b (by omega), slices_Sort_int_int_f c (by omega), w64_id (by omega) (by omega)]
  cases t
  · rfl
  · rfl
theorem recur_Normal_f (u ev fr ct un : Int) (a b c : List Int) (k : Nat) (hk : 200 ≤ k) :
    recur_Normal.f k u ev fr ct un a b c = some (if recErr u ev fr ct un a b c = 0 then normT u ev fr ct un (expl u fr a b c).1 (expl u fr a b c).2.1 (expl u fr a b c).2.2 else (0, 0, 0, 0, 0, [], [], [], recErr u ev fr ct un a b c)) := by
  obtain ⟨k, rfl⟩ : ∃ m, k = m + 1 := ⟨k - 1, by omega⟩
  unfold recur_Normal.f
  rw [recur_Check_f u ev fr ct un a b c (k + 1) (by omega), Option.bind_some]
  by_cases h0 : recErr u ev fr ct un a b c = 0
  · obtain ⟨hu, hev, hf, hun, hfu, hct, ha, hb, hc⟩ := recErr_okN h0
    obtain ⟨la, lb, lc⟩ := expl_len u fr a b c ha hb hc
    rw [if_pos h0, if_pos h0, recur_explicit_f u ev fr ct un a b c hf ha hb hc (k + 1) (by omega), Option.bind_some]
    generalize expl u fr a b c = e at la lb lc
    obtain ⟨x, y, z⟩ := e
    simp only at la lb lc ⊢
    rw [w64_id (by omega) (by omega), whole_Mod_f (by decide) (by decide), Option.bind_some]
    unfold normT byWeek
    by_cases c1 : u = 1
    · rw [if_pos c1]
      by_cases c2 : Int.tmod ev 7 = 0
      · rw [if_pos c2]
        by_cases c3 : x = []
        · rw [if_pos (by rw [c3]; rfl), recur_Normal_j0 _ _ _ _ _ _ _ _ _ _ hev la lb lc, decide_eq_true ⟨c1, c2, .inl c3⟩]
        · rw [if_neg (fun h => c3 (List.eq_nil_of_length_eq_zero (by omega))), slices_Contains_f x _ (by omega) (k + 1) (by omega), Option.bind_some, recur_Normal_j0 _ _ _ _ _ _ _ _ _ _ hev la lb lc]
          congr 1
          by_cases c4 : (fr - 1) % 7 ∈ x
          · rw [decide_eq_true c4, decide_eq_true ⟨c1, c2, .inr c4⟩]
          · rw [decide_eq_false c4, decide_eq_false (fun h => h.2.2.elim c3 c4)]
      · rw [if_neg c2, recur_Normal_j0 _ _ _ _ _ _ _ _ _ _ hev la lb lc, decide_eq_false (fun h => c2 h.2.1)]
    · rw [if_neg c1, recur_Normal_j0 _ _ _ _ _ _ _ _ _ _ hev la lb lc, decide_eq_false (fun h => c1 h.1)]
  · rw [if_neg h0, if_neg h0]

theorem ephemerisref1_SameRecur_refl (u ev fr ct un : Int) (a b c : List Int) (ha : a.length ≤ 31) (hb : b.length ≤ 31) (hc : c.length ≤ 31) (k : Nat) (hk : 40 ≤ k) :
    ephemerisref1_SameRecur.f k u ev fr ct un a b c u ev fr ct un a b c = some true := by
  unfold ephemerisref1_SameRecur.f
  rw [if_pos rfl, if_pos rfl, if_pos rfl, if_pos rfl, if_pos rfl, ephemerisref1_SameInts_f a a (by omega) k (by omega), ephemerisref1_SameInts_f b b (by omega) k (by omega), ephemerisref1_SameInts_f c c (by omega) k (by omega)]
  simp

theorem ephemerisref1_Size_f {a : Int} (h0 : -9223372036854775808 ≤ a) (h1 : a ≤ 9223372036854775807) : ephemerisref1_Size.f a = some (ab a) := by
  unfold ephemerisref1_Size.f ab
  by_cases c : a < 0
  · rw [if_pos c, if_pos c, w64_id (n := a + 1) (by omega) (by omega), w64_id (n := -(a + 1)) (by omega) (by omega), u64_id (n := -(a + 1)) (by omega) (by omega), u64_id (by omega) (by omega)]
    congr 1; omega
  · rw [if_neg c, if_neg c, u64_id (by omega) (by omega)]

theorem ephemerisref1_Div_l0 (X Y : Int) (hX : 0 ≤ X) (hX1 : X < 18446744073709551616) (hY : 0 < Y) (hY1 : Y ≤ 9223372036854775808) :
    ∀ (n k : Nat), n ≤ 64 → n < k → ephemerisref1_Div.l0 k X Y (X / 2 ^ n / Y * 2 ^ n) (X / 2 ^ n % Y) ((n : Int) - 1) = some (X / Y, X % Y) := by
  intro n
  induction n with
  | zero =>
    intro k _ hk
    obtain ⟨k, rfl⟩ : ∃ m, k = m + 1 := ⟨k - 1, by omega⟩
    simp only [ephemerisref1_Div.l0]
    rw [if_neg (by omega)]
    simp
  | succ n ih =>
    intro k hn hk
    obtain ⟨k, rfl⟩ : ∃ m, k = m + 1 := ⟨k - 1, by omega⟩
    have ih := ih k (by omega) (by omega)
    have hhp := half_pow X n
    have hpow : (2 : Int) ^ (n + 1) = 2 * 2 ^ n := by rw [Int.pow_succ, Int.mul_comm]
    have hpp := pow_pos' n
    have hp63 := pow_le_63 n (by omega)
    have hd1 := div_pow_le X Y (n + 1) hX hY
    have hd0 := div_pow_le X Y n hX hY
    have hz : 0 ≤ X / 2 ^ n := Int.ediv_nonneg hX (by omega)
    obtain ⟨s1, s2⟩ := long_step (X / 2 ^ n) Y hz hY
    rw [← hhp] at s1 s2
    have r0 := Int.emod_nonneg (X / 2 ^ (n + 1)) (b := Y) (by omega)
    have r1 := Int.emod_lt_of_pos (X / 2 ^ (n + 1)) hY
    have hshr : shr .u64 X ((n : Int) + 1 - 1) = X / 2 ^ n := by
      rw [show (n : Int) + 1 - 1 = n from by omega]; exact shr_pow X n (by omega)
    have hshl : shl .u64 1 ((n : Int) + 1 - 1) = 2 ^ n := by
      rw [show (n : Int) + 1 - 1 = n from by omega]; exact shl_one n (by omega)
    have hzx : X / 2 ^ n ≤ X := Int.ediv_le_self _ hX
    have hmod : (X / 2 ^ (n + 1) / Y * 2 ^ (n + 1)) % 2 ^ (n + 1) = 0 := Int.mul_emod_left _ _
    have hor : Go.bits .or .u64 (X / 2 ^ (n + 1) / Y * 2 ^ (n + 1)) (2 ^ n) = X / 2 ^ (n + 1) / Y * 2 ^ (n + 1) + 2 ^ n :=
      or_join (n + 1) _ _ hd1.1 (by omega) hmod (by omega) (by omega) (by omega)
    have q2 : X / 2 ^ (n + 1) / Y * 2 ^ (n + 1) = 2 * (X / 2 ^ (n + 1) / Y) * 2 ^ n := by
      rw [hpow, Int.mul_comm 2 (X / (2 * 2 ^ n) / Y), Int.mul_assoc]
    generalize hR : X / 2 ^ (n + 1) % Y = R at *
    generalize hQ : X / 2 ^ (n + 1) / Y * 2 ^ (n + 1) = Q at *
    simp only [ephemerisref1_Div.l0]
    rw [show (((n + 1 : Nat) : Int) - 1) = (n : Int) + 1 - 1 from by omega]
    rw [if_pos (by omega), hshr, hshl, hor, w64_id (n := (n : Int) + 1 - 1 - 1) (by omega) (by omega), show (n : Int) + 1 - 1 - 1 = (n : Int) - 1 from by omega]
    rw [Go.Proofs.Ytgcmclnjnimolaa.M.and_one _ hz (by omega), u64_id (n := R * 2) (by omega) (by omega)]
    have hbit := Int.emod_nonneg (X / 2 ^ n) (b := 2) (by omega)
    have hbit1 := Int.emod_lt_of_pos (X / 2 ^ n) (b := 2) (by omega)
    rw [or_join 1 (R * 2) _ (by omega) (by omega) (by simp only [Int.reducePow]; omega) hbit (by simp only [Int.reducePow]; omega) (by omega)]
    rw [if_neg (by omega)]
    rw [show R * 2 + X / 2 ^ n % 2 = 2 * R + X / 2 ^ n % 2 from by omega]
    by_cases c : Y ≤ 2 * R + X / 2 ^ n % 2
    · rw [if_pos c, u64_id (by omega) (by omega)]
      have e := s1 c
      rw [e.1, e.2, Int.add_mul, Int.one_mul, ← q2] at ih
      exact ih
    · rw [if_neg c]
      have e := s2 c
      rw [e.1, e.2, ← q2] at ih
      exact ih
theorem ephemerisref1_Div_f {a b : Int} (k : Nat) (hk : 65 ≤ k) (ha : -9223372036854775808 ≤ a) (ha1 : a ≤ 9223372036854775807) (hb : -9223372036854775808 ≤ b) (hb1 : b ≤ 9223372036854775807) : ephemerisref1_Div.f k a b = some (divs a b) := by
  unfold ephemerisref1_Div.f
  by_cases c : b = 0
  · rw [if_pos c]; unfold divs; rw [if_pos c]
  rw [if_neg c, ephemerisref1_Size_f ha ha1, ephemerisref1_Size_f hb hb1]
  simp only [Option.bind_some]
  have hX := ab_nonneg a
  have hX1 := ab_le ha ha1
  have hY1 := ab_le hb hb1
  have hY : 0 < ab b := by unfold ab; split <;> omega
  have h64 := ephemerisref1_Div_l0 (ab a) (ab b) hX (by omega) hY hY1 64 k (by omega) (by omega)
  have hz : ab a / 2 ^ 64 = 0 := Int.ediv_eq_zero_of_lt hX (by simp only [Int.reducePow]; omega)
  rw [hz] at h64
  simp only [Int.zero_ediv, Int.zero_mul, Int.zero_emod] at h64
  rw [show (((64 : Nat) : Int) - 1) = 63 from by omega] at h64
  rw [h64]
  simp only [Option.bind_some, Option.some.injEq]
  have h1 := Int.mul_ediv_add_emod (ab a) (ab b)
  have h2 := Int.emod_nonneg (ab a) (b := ab b) (by omega)
  have h3 := Int.emod_lt_of_pos (ab a) hY
  have h4 : ab a / ab b ≤ ab a := Int.ediv_le_self _ hX
  have h5 : 0 ≤ ab a / ab b := Int.ediv_nonneg hX (by omega)
  have h6 : 2 ≤ ab b → ab a / ab b ≤ 4611686018427387904 := fun h => by
    have : ab a / ab b ≤ ab a / 2 := by
      have := Int.ediv_le_ediv (c := 2) (by omega) (a := ab a / ab b * 2) (b := ab a) (by
        have : ab a / ab b * 2 ≤ ab a / ab b * ab b := Int.mul_le_mul_of_nonneg_left h h5
        rw [Int.mul_comm (ab b)] at h1
        omega)
      omega
    omega
  have h7 : ab b = 1 → ab a / ab b = ab a ∧ ab a % ab b = 0 := fun h => by rw [h]; omega
  have uniq : ∀ {q r : Int}, a = b * q + r → (0 < b → 0 ≤ r ∧ r < b) → (b < 0 → b < r ∧ r ≤ 0) → ¬ (a = -9223372036854775808 ∧ b = -1) → divs a b = (q, r, 0) := by
    intro q r e1 e2 e3 e4
    have := fd_uniq e1 e2 e3 c
    unfold divs
    rw [if_neg c, if_neg e4, this.1, this.2]
  generalize hq : ab a / ab b = q at *
  generalize hr : ab a % ab b = r at *
  clear h64 hz
  have eY : ∀ s : Int, (-(ab b)) * s = -(ab b * s) := fun s => by rw [Int.neg_mul]
  by_cases sa : a < 0 <;> by_cases sb : b < 0
  · have xa : a = -(ab a) := by unfold ab; rw [if_pos sa]; omega
    have xb : b = -(ab b) := by unfold ab; rw [if_pos sb]; omega
    simp only [ephemerisref1_Div.e0, ephemerisref1_Div.e1, sa, sb, decide_true, bne_self_eq_false, Bool.false_eq_true, false_and, if_false, true_and, if_true]
    by_cases c2 : q > 9223372036854775807
    · rw [if_pos c2]
      unfold divs
      have : ab b = 1 := by
        by_cases h : 2 ≤ ab b
        · have := h6 h; omega
        · omega
      rw [if_neg c, if_pos (by omega)]
    · rw [if_neg c2, w64_id (by omega) (by omega), u64_def, w64_def]
      rw [uniq (q := q) (r := -r) (by rw [xb, eY]; omega) (by omega) (by omega) (fun h => by have := h7 (by omega); omega)]
      congr 2; omega
  · have xa : a = -(ab a) := by unfold ab; rw [if_pos sa]; omega
    have xb : b = ab b := by unfold ab; rw [if_neg sb]
    simp only [ephemerisref1_Div.e0, ephemerisref1_Div.e1, sa, sb, decide_true, decide_false, Bool.bne_false, Bool.false_eq_true, true_and, if_true, Bool.true_eq_false, false_and, if_false]
    by_cases c2 : r = 0
    · rw [if_neg (fun h => h c2), u64_def, w64_def, w64_id (by omega) (by omega)]
      rw [uniq (q := -q) (r := 0) (by rw [xb, Int.mul_neg]; omega) (by omega) (by omega) (by omega)]
      rw [c2]
      congr 1; omega
    · rw [if_pos c2, u64_id (n := q + 1) (by omega) (by omega), u64_id (n := ab b - r) (by omega) (by omega), u64_def, w64_def, w64_id (by omega) (by omega)]
      have : q ≤ 9223372036854775807 := by
        by_cases h : 2 ≤ ab b
        · have := h6 h; omega
        · have := h7 (by omega); omega
      have eb : b * q = ab b * q := by rw [← xb]
      rw [uniq (q := -(q + 1)) (r := ab b - r) (by rw [Int.mul_neg, Int.mul_add, Int.mul_one, eb]; omega) (by omega) (by omega) (by omega)]
      congr 1; omega
  · have xa : a = ab a := by unfold ab; rw [if_neg sa]
    have xb : b = -(ab b) := by unfold ab; rw [if_pos sb]; omega
    simp only [ephemerisref1_Div.e0, ephemerisref1_Div.e1, sa, sb, decide_true, decide_false, Bool.bne_true, Bool.not_false, Bool.false_eq_true, true_and, if_true, Bool.true_eq_false, false_and, if_false]
    by_cases c2 : r = 0
    · rw [if_neg (fun h => h c2), u64_def, w64_def, u64_def, w64_def]
      rw [uniq (q := -q) (r := 0) (by rw [xb, eY, Int.mul_neg]; omega) (by omega) (by omega) (by omega)]
      rw [c2]
      congr 1
      omega
    · rw [if_pos c2, u64_id (n := q + 1) (by omega) (by omega), u64_id (n := ab b - r) (by omega) (by omega), u64_def, w64_def, u64_def, w64_def]
      have eb := eY q
      rw [← xb] at eb
      rw [uniq (q := -(q + 1)) (r := -(ab b - r)) (by rw [Int.mul_neg, Int.mul_add, Int.mul_one, eb]; omega) (by omega) (by omega) (by omega)]
      congr 1
      · omega
      · congr 1; omega
  · have xa : a = ab a := by unfold ab; rw [if_neg sa]
    have xb : b = ab b := by unfold ab; rw [if_neg sb]
    simp only [ephemerisref1_Div.e0, ephemerisref1_Div.e1, sa, sb, decide_false, bne_self_eq_false, Bool.false_eq_true, false_and, if_false, true_and]
    rw [if_neg (by omega), w64_id (by omega) (by omega), w64_id (by omega) (by omega)]
    rw [uniq (q := q) (r := r) (by rw [xb]; omega) (by omega) (by omega) (by omega)]

theorem ephemerisref1_Floor_f {a b : Int} (k : Nat) (hk : 65 ≤ k) (ha : -9223372036854775808 ≤ a) (ha1 : a ≤ 9223372036854775807) (hb : 0 < b) (hb1 : b ≤ 9223372036854775807) : ephemerisref1_Floor.f k a b = some (a / b) := by
  unfold ephemerisref1_Floor.f
  rw [ephemerisref1_Div_f k hk ha ha1 (by omega) hb1, divs_pos hb]
  rfl

theorem ephemerisref1_Greg_f (day : Int) (h : -1000000000000 ≤ day ∧ day ≤ 1000000000000) (k : Nat) (hk : 65 ≤ k) : ephemerisref1_Greg.f k day = some (greg day) := by
  obtain ⟨e, he⟩ : ∃ e, e = (day + 305) / 146097 := ⟨_, rfl⟩
  obtain ⟨n, hn⟩ : ∃ n, n = (day + 305) % 146097 := ⟨_, rfl⟩
  have hen : day + 305 - e * 146097 = n := by omega
  have hb : (0 ≤ n ∧ n ≤ 146096) ∧ (-10000000 ≤ e ∧ e ≤ 10000000) := by omega
  obtain ⟨⟨n0, n1⟩, e0, e1⟩ := hb
  obtain ⟨d, q, y3, s, b1, b2, b3, h1, h2, h3, h4, hy⟩ := era_split n n0 n1
  have hr := march_rest n d q y3 s b1 b2 b3 h1
  unfold ephemerisref1_Greg.f greg
  rw [w64_id (n := day + 305) (by omega) (by omega), ephemerisref1_Floor_f k hk (by omega) (by omega) (by omega) (by omega), Option.bind_some]
  simp only [← he, ← hn]
  have g2 : wrap64 (e * 146097) = e * 146097 := w64_id (by omega) (by omega)
  have g3 : wrap64 (day + 305 - e * 146097) = n := by rw [hen]; exact w64_id (by omega) (by omega)
  clear he hn
  rw [g2, g3]
  have t1 : Int.tdiv n 1460 = n / 1460 := Int.tdiv_eq_ediv_of_nonneg n0
  have t2 : Int.tdiv n 36524 = n / 36524 := Int.tdiv_eq_ediv_of_nonneg n0
  have t3 : Int.tdiv n 146096 = n / 146096 := Int.tdiv_eq_ediv_of_nonneg n0
  have q1 : 0 ≤ n / 1460 ∧ n / 1460 ≤ 101 := by clear hy hr; omega
  have q2 : 0 ≤ n / 36524 ∧ n / 36524 ≤ 4 := by clear hy hr; omega
  have q3 : 0 ≤ n / 146096 ∧ n / 146096 ≤ 1 := by clear hy hr; omega
  have q4 : 0 ≤ n - n / 1460 + n / 36524 - n / 146096 := by clear hy hr; omega
  rw [t1, t2, t3]
  generalize n / 1460 = c1 at *
  generalize n / 36524 = c2 at *
  generalize n / 146096 = c3 at *
  clear t1 t2 t3
  have w1 : wrap64 c1 = c1 := w64_id (by omega) (by omega)
  have w2 : wrap64 c2 = c2 := w64_id (by omega) (by omega)
  have w3 : wrap64 c3 = c3 := w64_id (by omega) (by omega)
  have w4 : wrap64 (n - c1) = n - c1 := w64_id (by omega) (by omega)
  have w5 : wrap64 (n - c1 + c2) = n - c1 + c2 := w64_id (by omega) (by omega)
  have w6 : wrap64 (n - c1 + c2 - c3) = n - c1 + c2 - c3 := w64_id (by omega) (by omega)
  have t4 : Int.tdiv (n - c1 + c2 - c3) 365 = 100 * d + 4 * q + y3 := by rw [Int.tdiv_eq_ediv_of_nonneg q4, hy]
  rw [w1, w2, w3, w4, w5, w6, t4]
  simp only [hy]
  clear w1 w2 w3 w4 w5 w6 t4 hy q1 q2 q3 q4
  generalize hY : 100 * d + 4 * q + y3 = Y at *
  have hY0 : 0 ≤ Y ∧ Y ≤ 399 := by omega
  have t5 : Int.tdiv Y 4 = Y / 4 := Int.tdiv_eq_ediv_of_nonneg hY0.1
  have t6 : Int.tdiv Y 100 = Y / 100 := Int.tdiv_eq_ediv_of_nonneg hY0.1
  have v1 : wrap64 Y = Y := w64_id (by omega) (by omega)
  have v2 : wrap64 (365 * Y) = 365 * Y := w64_id (by omega) (by omega)
  have v3 : wrap64 (Y / 4) = Y / 4 := w64_id (by omega) (by omega)
  have v4 : wrap64 (Y / 100) = Y / 100 := w64_id (by omega) (by omega)
  have v5 : wrap64 (365 * Y + Y / 4) = 365 * Y + Y / 4 := w64_id (by omega) (by omega)
  have v6 : wrap64 (365 * Y + Y / 4 - Y / 100) = 365 * Y + Y / 4 - Y / 100 := w64_id (by omega) (by omega)
  have v7 : wrap64 (n - (365 * Y + Y / 4 - Y / 100)) = s := by rw [hr]; exact w64_id (by omega) (by omega)
  rw [v1, v2, t5, t6, v3, v4, v5, v6, v7, hr]
  clear v1 v2 v3 v4 v5 v6 v7 hr t5 t6
  obtain ⟨m, hm⟩ : ∃ m, m = (5 * s + 2) / 153 := ⟨_, rfl⟩
  obtain ⟨hm0, hms⟩ := march_month s m h2 h3 hm
  have x1 : wrap64 (5 * s) = 5 * s := w64_id (by omega) (by omega)
  have x2 : wrap64 (5 * s + 2) = 5 * s + 2 := w64_id (by omega) (by omega)
  have x3 : Int.tdiv (5 * s + 2) 153 = m := by rw [hm]; exact Int.tdiv_eq_ediv_of_nonneg (by omega)
  have x4 : wrap64 m = m := w64_id (by omega) (by omega)
  have x5 : wrap64 (m + 3) = m + 3 := w64_id (by omega) (by omega)
  have x6 : wrap64 (153 * m) = 153 * m := w64_id (by omega) (by omega)
  have x7 : wrap64 (153 * m + 2) = 153 * m + 2 := w64_id (by omega) (by omega)
  have x8 : Int.tdiv (153 * m + 2) 5 = (153 * m + 2) / 5 := Int.tdiv_eq_ediv_of_nonneg (by omega)
  have x9 : wrap64 ((153 * m + 2) / 5) = (153 * m + 2) / 5 := w64_id (by omega) (by omega)
  have x10 : wrap64 (s - (153 * m + 2) / 5) = s - (153 * m + 2) / 5 := w64_id (by omega) (by omega)
  have x11 : wrap64 (s - (153 * m + 2) / 5 + 1) = s - (153 * m + 2) / 5 + 1 := w64_id (by omega) (by omega)
  have x12 : wrap64 (400 * e) = 400 * e := w64_id (by omega) (by omega)
  have x13 : wrap64 (Y + 400 * e) = Y + 400 * e := w64_id (by omega) (by omega)
  have x14 : wrap64 (Y + 400 * e + 1) = Y + 400 * e + 1 := w64_id (by omega) (by omega)
  have x15 : wrap64 (m + 3 - 12) = m + 3 - 12 := w64_id (by omega) (by omega)
  rw [← hm]
  clear hm
  simp only [x1, x2, x3, x4, x5, x6, x7, x8, x9, x10, x11, x12, x13, x14, x15]
  by_cases c : m + 3 > 12
  · rw [if_pos c, if_pos c]
  · rw [if_neg c, if_neg c]

theorem ephemerisref1_Mod_f {a b : Int} (k : Nat) (hk : 65 ≤ k) (ha : -9223372036854775808 ≤ a) (ha1 : a ≤ 9223372036854775807) (hb : 0 < b) (hb1 : b ≤ 9223372036854775807) : ephemerisref1_Mod.f k a b = some (a % b) := by
  unfold ephemerisref1_Mod.f
  rw [ephemerisref1_Div_f k hk ha ha1 (by omega) hb1, divs_pos hb]
  rfl

theorem ephemerisref1_Week_f {x : Int} (k : Nat) (hk : 65 ≤ k) (h0 : -4000000000000 ≤ x) (h1 : x ≤ 4000000000000) : ephemerisref1_Week.f k x = some ((x + 6) % 7) := by
  unfold ephemerisref1_Week.f
  rw [w64_id (by omega) (by omega), ephemerisref1_Mod_f k hk (by omega) (by omega) (by omega) (by omega)]
  rfl

theorem norm_j5 (x6 : Int) (u ev fr ct un u2 ev2 fr2 ct2 un2 : Int) (p q r a b c : List Int) (ha : a.length ≤ 31) (hb : b.length ≤ 31) (hc : c.length ≤ 31) (hx : x6 = 0) (h : (u, ev, fr, ct, un, p, q, r) = (u2, ev2, fr2, ct2, un2, rising a, rising b, rising c)) (k : Nat) (hk : 40 ≤ k) :
    ephemerislaw1_RecurNormals.j5 (k + 1) x6 u ev fr ct un p q r u2 ev2 fr2 ct2 un2 a b c = some true := by
  simp only [Prod.mk.injEq] at h
  obtain ⟨rfl, rfl, rfl, rfl, rfl, rfl, rfl, rfl⟩ := h
  simp only [ephemerislaw1_RecurNormals.j5]
  rw [slices_Sort_int_int_f a (by omega), slices_Sort_int_int_f b (by omega), slices_Sort_int_int_f c (by omega), Option.bind_some, Option.bind_some, Option.bind_some, if_pos hx,
    ephemerisref1_SameRecur_refl _ _ _ _ _ _ _ _ (by rw [rising_len]; exact ha) (by rw [rising_len]; exact hb) (by rw [rising_len]; exact hc) k hk]
  rfl
theorem norm_j3 (u ev fr ct un : Int) (a b c x y z : List Int) (hev : 1 ≤ ev ∧ ev ≤ 1000) (hf : -4000000 ≤ fr ∧ fr ≤ 4000000) (lx : x.length ≤ 31) (ly : y.length ≤ 31) (lz : z.length ≤ 31) (hx : u = 1 → x = a) (k : Nat) (hk : 100 ≤ k) (T) (hT : T = normT u ev fr ct un x y z) :
    ephemerislaw1_RecurNormals.j3 (k + 3) T.2.2.2.2.2.2.2.2 u ev fr ct un a b c T.1 T.2.1 T.2.2.1 T.2.2.2.1 T.2.2.2.2.1 T.2.2.2.2.2.1 T.2.2.2.2.2.2.1 T.2.2.2.2.2.2.2.1 u ev fr ct un x y z = some true := by
  have hq : Int.tdiv ev 7 = ev / 7 := Int.tdiv_eq_ediv_of_nonneg (by omega)
  have hj4 : ∀ t, t = byWeek u ev fr x → ephemerislaw1_RecurNormals.j4 (k + 2) T.2.2.2.2.2.2.2.2 t u ev fr ct un a b c T.1 T.2.1 T.2.2.1 T.2.2.2.1 T.2.2.2.2.1 T.2.2.2.2.2.1 T.2.2.2.2.2.2.1 T.2.2.2.2.2.2.2.1 u ev fr ct un x y z = some true := by
    intro t ht
    simp only [ephemerislaw1_RecurNormals.j4]
    subst hT
    unfold normT
    rw [← ht]
    cases t
    · rw [if_neg (by decide), if_neg (by decide)]
      exact norm_j5 _ _ _ _ _ _ _ _ _ _ _ _ _ _ _ _ _ lx ly lz rfl rfl k (by omega)
    · rw [if_pos rfl, if_pos rfl, ephemerisref1_Week_f (k + 1) (by omega) (by omega) (by omega), Option.bind_some, w64_id (by omega) (by omega), show (fr + 6) % 7 = (fr - 1) % 7 from by omega]
      exact norm_j5 _ _ _ _ _ _ _ _ _ _ _ _ _ _ _ _ _ (by simp) ly lz rfl rfl k (by omega)
  simp only [ephemerislaw1_RecurNormals.j3]
  by_cases c1 : u = 1
  · obtain rfl := hx c1
    rw [if_pos c1]
    by_cases c2 : Int.tmod ev 7 = 0
    · rw [if_pos c2]
      by_cases c3 : x = []
      · rw [if_pos (by rw [c3]; rfl)]
        exact hj4 _ (by unfold byWeek; rw [decide_eq_true ⟨c1, c2, .inl c3⟩])
      · rw [if_neg (fun h => c3 (List.eq_nil_of_length_eq_zero (by omega))), ephemerisref1_Week_f (k + 2) (by omega) (by omega) (by omega), Option.bind_some, show (fr + 6) % 7 = (fr - 1) % 7 from by omega, slices_Contains_f x _ (by omega) (k + 2) (by omega), Option.bind_some]
        refine hj4 _ ?_
        unfold byWeek
        by_cases c4 : (fr - 1) % 7 ∈ x
        · rw [decide_eq_true c4, decide_eq_true ⟨c1, c2, .inr c4⟩]
        · rw [decide_eq_false c4, decide_eq_false (fun h => h.2.2.elim c3 c4)]
    · rw [if_neg c2]
      exact hj4 _ (by unfold byWeek; rw [decide_eq_false (fun h => c2 h.2.1)])
  · rw [if_neg c1]
    exact hj4 _ (by unfold byWeek; rw [decide_eq_false (fun h => c1 h.1)])
theorem RecurNormals : ephemerislaw1_RecurNormals.Pure := by
  intro u ev fr ct un a b c _ _ _ _ _ _ _ _
  obtain ⟨K, hK⟩ : ∃ K : Nat, 10000 ≤ K := ⟨_, Nat.le_refl _⟩
  refine ⟨K, ?_⟩
  unfold ephemerislaw1_RecurNormals.f
  rw [recur_Normal_f _ _ _ _ _ _ _ _ K (by omega), show recErr 1 14 1 0 100 [] [] [] = 0 from by decide, if_pos rfl, show expl 1 1 [] [] [] = ([], [], []) from by decide, Option.bind_some]
  rw [show normT 1 14 1 0 100 (([], [], []) : List Int × List Int × List Int).1 (([], [], []) : List Int × List Int × List Int).2.1 (([], [], []) : List Int × List Int × List Int).2.2 = (2, 2, 1, 0, 100, [0], [], [], 0) from by unfold normT; rw [if_pos (show byWeek 1 14 1 [] = true from by decide)]; simp [rising]]
  simp only
  rw [if_pos trivial, if_pos trivial, if_pos trivial, ephemerisref1_SameInts_f _ _ (by decide) K (by simp only [List.length_cons, List.length_nil]; omega), Option.bind_some, show (!decide (([0] : List Int) = [0])) = false from by decide]
  obtain ⟨k, rfl⟩ : ∃ m, K = m + 6 := ⟨K - 6, by omega⟩
  rw [show k + 6 = (k + 5) + 1 from rfl]
  simp only [ephemerislaw1_RecurNormals.j0]
  rw [if_neg (by decide), recur_Normal_f _ _ _ _ _ _ _ _ _ (by omega), Option.bind_some, ephemerisref1_RecurError_f _ _ _ _ _ _ _ _ _ (by omega), refErr_recN, Option.bind_some]
  by_cases h0 : recErr u ev fr ct un a b c = 0
  · obtain ⟨hu, hev, hf, hun, hfu, hct, ha, hb, hc⟩ := recErr_okN h0
    rw [if_pos h0, if_pos h0, slices_Clone_int_int_f a (by omega), slices_Clone_int_int_f b (by omega), slices_Clone_int_int_f c (by omega), Option.bind_some, Option.bind_some, Option.bind_some, ephemerisref1_Greg_f fr (by omega) _ (by omega), Option.bind_some, w64_id (by omega) (by omega)]
    obtain ⟨T, hT⟩ : ∃ T, T = normT u ev fr ct un (expl u fr a b c).1 (expl u fr a b c).2.1 (expl u fr a b c).2.2 := ⟨_, rfl⟩
    rw [← hT]
    obtain ⟨lx, ly, lz⟩ := expl_len u fr a b c ha hb hc
    have key : ∀ x y z, expl u fr a b c = (x, y, z) → (u = 1 → x = a) → ∀ m, 100 ≤ m → ephemerislaw1_RecurNormals.j3 (m + 3) T.2.2.2.2.2.2.2.2 u ev fr ct un a b c T.1 T.2.1 T.2.2.1 T.2.2.2.1 T.2.2.2.2.1 T.2.2.2.2.2.1 T.2.2.2.2.2.2.1 T.2.2.2.2.2.2.2.1 u ev fr ct un x y z = some true := by
      intro x y z he hx m hm
      rw [he] at lx ly lz hT
      exact norm_j3 u ev fr ct un a b c x y z hev hf lx ly lz hx m hm T hT
    clear hT
    have hw : (fr + 6) % 7 = (fr - 1) % 7 := by omega
    unfold expl at key
    by_cases cab : a = [] ∧ b = []
    · obtain ⟨rfl, rfl⟩ := cab
      rw [if_pos (by decide)]
      rw [if_pos ⟨rfl, rfl⟩] at key
      by_cases u2 : u = 2
      · rw [if_pos u2, ephemerisref1_Week_f _ (by omega) (by omega) (by omega), Option.bind_some, hw]
        rw [if_pos u2] at key
        rw [show k + 5 = (k + 4) + 1 from rfl]
        simp only [ephemerislaw1_RecurNormals.j1]
        rw [if_neg (by omega), beq_eq_false_iff_ne.2 (show u ≠ 4 by omega)]
        simp only [ephemerislaw1_RecurNormals.j2]
        rw [if_neg (by decide), if_neg (by omega)]
        exact key _ _ _ rfl (by omega) k (by omega)
      rw [if_neg u2]
      rw [if_neg u2] at key
      rw [show k + 5 = (k + 4) + 1 from rfl]
      simp only [ephemerislaw1_RecurNormals.j1]
      by_cases u3 : u = 3
      · rw [if_pos u3]
        rw [if_pos u3] at key
        simp only [ephemerislaw1_RecurNormals.j2]
        rw [if_pos trivial, Option.bind_some, if_neg (by omega)]
        exact key _ _ _ rfl (by omega) k (by omega)
      rw [if_neg u3]
      rw [if_neg u3] at key
      by_cases u4 : u = 4
      · rw [beq_iff_eq.2 u4]
        rw [if_pos u4] at key
        simp only [ephemerislaw1_RecurNormals.j2]
        rw [if_pos trivial, Option.bind_some, if_pos u4]
        by_cases h3 : c = []
        · rw [if_pos (by rw [h3]; rfl)]
          rw [if_pos h3] at key
          exact key _ _ _ rfl (by omega) k (by omega)
        · rw [if_neg (fun h => h3 (List.eq_nil_of_length_eq_zero (by omega)))]
          rw [if_neg h3] at key
          exact key _ _ _ rfl (by omega) k (by omega)
      · rw [beq_eq_false_iff_ne.2 u4]
        rw [if_neg u4] at key
        simp only [ephemerislaw1_RecurNormals.j2]
        rw [if_neg (by decide), if_neg u4]
        exact key _ _ _ rfl (fun _ => rfl) k (by omega)
    · rw [if_neg (by intro h; apply cab; exact ⟨List.eq_nil_of_length_eq_zero (by omega), List.eq_nil_of_length_eq_zero (by omega)⟩)]
      rw [if_neg cab] at key
      exact key _ _ _ rfl (fun _ => rfl) (k + 2) (by omega)
  · rw [if_neg h0, if_neg h0, ephemerisref1_SameRecur_refl _ _ _ _ _ _ _ _ (by simp) (by simp) (by simp) _ (by omega)]
    simp
end Go.Proofs.Ytgcmclnjnimolaa.Pure
