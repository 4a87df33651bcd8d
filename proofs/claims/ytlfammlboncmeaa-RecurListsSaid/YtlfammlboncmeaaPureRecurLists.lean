/- The law RecurLists over numbers and lists: what the law's functions tell, and that the law holds. -/
import Derived.Test.YtlfammlboncmeaaPRecurListsx12
import Derived.Test.YtlfammlboncmeaaM
import Derived.Test.YtlfammlboncmeaaL
import Derived.Test.YtlfammlboncmeaaG
import Derived.Test.YtlfammlboncmeaaO
namespace Go.Proofs.Ytlfammlboncmeaa.Pure
open Go.RowKit Go.Proofs.Ytlfammlboncmeaa.PRecurLists Go.Proofs.YtlfammlboncmeaaW.PrintWords Go.Proofs.YtlfammlboncmeaaW.PrintLast Go.Proofs.Ytlfammlboncmeaa.M Go.Proofs.Ytlfammlboncmeaa.L Go.Proofs.Ytlfammlboncmeaa.G Go.Proofs.Ytlfammlboncmeaa.O
set_option linter.unusedVariables false
set_option linter.unusedSimpArgs false
/-- The law over numbers and lists. -/
def ephemerislaw1_RecurLists.Pure : Prop := ∀ (a0_0 : Int) (a0_1 : Int) (a0_2 : Int) (a0_3 : Int) (a0_4 : Int) (l0_5 : List (Int)) (l0_6 : List (Int)) (l0_7 : List (Int)) (a1 : Int) (a2 : Int), (Lit.int .i64 a0_0).wf = true → (Lit.int .i64 a0_1).wf = true → (Lit.int .i64 a0_2).wf = true → (Lit.int .i64 a0_3).wf = true → (Lit.int .i64 a0_4).wf = true → (l0_5.length * 8 ≤ 140737488351232 ∧ l0_5.length ≤ 9223372036854775807 ∧ ∀ v ∈ l0_5, (Lit.int .i64 v).wf = true) → (l0_6.length * 8 ≤ 140737488351232 ∧ l0_6.length ≤ 9223372036854775807 ∧ ∀ v ∈ l0_6, (Lit.int .i64 v).wf = true) → (l0_7.length * 8 ≤ 140737488351232 ∧ l0_7.length ≤ 9223372036854775807 ∧ ∀ v ∈ l0_7, (Lit.int .i64 v).wf = true) → (Lit.int .i64 a1).wf = true → (Lit.int .i64 a2).wf = true → ∃ k, ephemerislaw1_RecurLists.f k a0_0 a0_1 a0_2 a0_3 a0_4 l0_5 l0_6 l0_7 a1 a2 = some true

theorem line_Check_f (x : Int) : line_Check.f x = some (if -4000000 ≤ x ∧ x ≤ 4000000 then 0 else 3) := by
  unfold line_Check.f
  by_cases h : x < -4000000
  · rw [if_pos h, if_neg (by omega)]
  · rw [if_neg h]
    by_cases h2 : x > 4000000
    · rw [if_pos h2, if_neg (by omega)]
    · rw [if_neg h2, if_pos (by omega)]

theorem slices_Index_l0 (l : List Int) (x : Int) (hl : l.length ≤ 9223372036854775806) : ∀ (d i k : Nat), i + d = l.length → d < k →
    ∃ r, slices_Index_int_int.l0 k l x (l.length : Int) (i : Int) = some r ∧ (x ∈ l.drop i → 0 ≤ r) ∧ (¬ x ∈ l.drop i → r = -1) := by
  intro d
  induction d with
  | zero =>
    intro i k hi hk
    obtain ⟨k, rfl⟩ : ∃ m, k = m + 1 := ⟨k - 1, by omega⟩
    refine ⟨-1, ?_, ?_, fun _ => rfl⟩
    · simp only [slices_Index_int_int.l0]; rw [if_neg (by omega)]
    · rw [List.drop_of_length_le (by omega)]; intro h; cases h
  | succ d ih =>
    intro i k hi hk
    obtain ⟨k, rfl⟩ : ∃ m, k = m + 1 := ⟨k - 1, by omega⟩
    simp only [slices_Index_int_int.l0]
    rw [if_pos (by omega), if_pos (by omega), if_pos (by omega), rd_get l i (by omega), List.drop_eq_getElem_cons (show i < l.length by omega)]
    by_cases c : x = l[i]
    · exact ⟨i, by rw [if_pos c], fun _ => by omega, fun h => absurd (c ▸ List.mem_cons_self) h⟩
    · rw [if_neg c, w64_id (by omega) (by omega)]
      obtain ⟨r, h1, h2, h3⟩ := ih (i + 1) k (by omega) (by omega)
      exact ⟨r, h1, fun h => h2 ((List.mem_cons.1 h).resolve_left c), fun h => h3 (fun h' => h (List.mem_cons_of_mem _ h'))⟩

theorem slices_Contains_f (l : List Int) (x : Int) (hl : l.length ≤ 9223372036854775806) (k : Nat) (hk : l.length < k) : slices_Contains_int_int.f k l x = some (decide (x ∈ l)) := by
  unfold slices_Contains_int_int.f slices_Index_int_int.f
  obtain ⟨r, h1, h2, h3⟩ := slices_Index_l0 l x hl l.length 0 k (by omega) hk
  rw [List.drop_zero] at h2 h3
  rw [show ((0 : Nat) : Int) = 0 from rfl] at h1
  rw [h1]
  simp only [Option.bind_some]
  congr 1
  by_cases c : x ∈ l
  · rw [decide_eq_true c, decide_eq_true (h2 c)]
  · rw [decide_eq_false c, decide_eq_false (by rw [h3 c]; omega)]

theorem recur_list_l0 (l : List Int) (lo hi : Int) (hl : l.length ≤ 31) : ∀ (d i k : Nat), i + d = l.length → 2 * d + 40 < k →
    recur_list.l0 k l lo hi l (l.length : Int) (i : Int) = some (listFrom (decide (lo < 0)) lo hi (l.take i) (l.drop i)) := by
  intro d
  induction d with
  | zero =>
    intro i k hi' hk
    obtain ⟨k, rfl⟩ : ∃ m, k = m + 1 := ⟨k - 1, by omega⟩
    simp only [recur_list.l0]
    rw [if_neg (by omega), List.drop_of_length_le (by omega)]; rfl
  | succ d ih =>
    intro i k hi' hk
    obtain ⟨k, rfl⟩ : ∃ m, k = m + 2 := ⟨k - 2, by omega⟩
    have hlt : i < l.length := by omega
    have hj : (if l[i] < lo then (recur_list.j1 (k + 1) l lo hi (i : Int) l[i] l (l.length : Int) (i : Int) true) else (if l[i] > hi then (recur_list.j1 (k + 1) l lo hi (i : Int) l[i] l (l.length : Int) (i : Int) true) else (if lo < 0 then (recur_list.j1 (k + 1) l lo hi (i : Int) l[i] l (l.length : Int) (i : Int) (l[i] == 0)) else (recur_list.j1 (k + 1) l lo hi (i : Int) l[i] l (l.length : Int) (i : Int) false))))
        = recur_list.j1 (k + 1) l lo hi (i : Int) l[i] l (l.length : Int) (i : Int) (decide (¬ ((lo ≤ l[i] ∧ l[i] ≤ hi) ∧ ¬ (decide (lo < 0) = true ∧ l[i] = 0)))) := by
      by_cases c1 : l[i] < lo
      · rw [if_pos c1, dec_not_true (fun h => by omega)]
      rw [if_neg c1]
      by_cases c2 : l[i] > hi
      · rw [if_pos c2, dec_not_true (fun h => by omega)]
      rw [if_neg c2]
      by_cases c3 : lo < 0
      · rw [if_pos c3]
        by_cases c4 : l[i] = 0
        · rw [beq_iff_eq.2 c4, dec_not_true (fun h => h.2 ⟨decide_eq_true c3, c4⟩)]
        · rw [beq_eq_false_iff_ne.2 c4, dec_not_false ⟨by omega, fun h' => c4 h'.2⟩]
      · rw [if_neg c3, dec_not_false ⟨by omega, fun h' => c3 (of_decide_eq_true h'.1)⟩]
    rw [show k + 2 = (k + 1) + 1 from rfl]
    conv => lhs; unfold recur_list.l0
    rw [if_pos (by omega), if_pos (by omega), if_pos (by omega), rd_get l i hlt, hj, List.drop_eq_getElem_cons hlt]
    simp only [recur_list.j1, decide_eq_true_eq, listFrom]
    by_cases c : (lo ≤ l[i] ∧ l[i] ≤ hi) ∧ ¬ (lo < 0 ∧ l[i] = 0)
    · rw [if_neg (fun h => h c), if_pos c, if_pos (by omega), if_pos (by omega), show ((i : Int).toNat) = i from by omega, slices_Contains_f _ _ (by rw [List.length_take]; omega) k (by rw [List.length_take]; omega)]
      simp only [Option.bind_some, decide_eq_true_eq]
      by_cases c2 : l[i] ∈ l.take i
      · rw [if_pos c2, if_pos c2]
      · rw [if_neg c2, if_neg c2, w64_id (by omega) (by omega), take_snoc' l i hlt]
        exact ih (i + 1) k (by omega) (by omega)
    · rw [if_pos c, if_neg c]
theorem recur_list_f (l : List Int) (lo hi : Int) (k : Nat) (hk : 150 ≤ k) : recur_list.f k l lo hi = some (listErr (decide (lo < 0)) lo hi l) := by
  unfold recur_list.f listErr
  by_cases c : (l.length : Int) > 31
  · rw [if_pos c, if_neg (by omega)]
  · rw [if_neg c, if_pos (by omega)]
    exact recur_list_l0 l lo hi (by omega) l.length 0 k (by omega) (by omega)

/-- What Check of recurrences tells. -/
def recErr (u ev fr ct un : Int) (a b c : List Int) : Int :=
  if 1 ≤ u ∧ u ≤ 4 then (if (1 ≤ ev ∧ ev ≤ 1000) ∧ (-4000000 ≤ fr ∧ fr ≤ 4000000) ∧ (-4000000 ≤ un ∧ un ≤ 4000000) ∧ fr ≤ un ∧ (0 ≤ ct ∧ ct ≤ 1000) then
    (if listErr false 0 6 a = 0 then (if listErr true (-31) 31 b = 0 then listErr false 1 12 c else listErr true (-31) 31 b) else listErr false 0 6 a) else 3) else 1
theorem recur_Check_f (u ev fr ct un : Int) (a b c : List Int) (k : Nat) (hk : 200 ≤ k) : recur_Check.f k u ev fr ct un a b c = some (recErr u ev fr ct un a b c) := by
  obtain ⟨k, rfl⟩ : ∃ m, k = m + 2 := ⟨k - 2, by omega⟩
  have hj : recur_Check.f (k + 2) u ev fr ct un a b c = recur_Check.j0 (k + 2) (decide (¬ (1 ≤ u ∧ u ≤ 4))) u ev fr ct un a b c := by
    unfold recur_Check.f
    by_cases c1 : u < 1
    · rw [if_pos c1, decide_eq_true (by omega)]
    rw [if_neg c1]
    by_cases c2 : u > 4
    · rw [decide_eq_true c2, decide_eq_true (by omega)]
    · rw [decide_eq_false c2, decide_eq_false (by omega)]
  rw [hj]
  simp only [recur_Check.j0]
  unfold recErr
  by_cases h1 : 1 ≤ u ∧ u ≤ 4
  · rw [dec_not_false h1, if_neg (by decide), if_pos h1]
    have ht : recur_Check.j1 (k + 1) true u ev fr ct un a b c = some 3 := by simp only [recur_Check.j1, if_true]
    by_cases h2 : (1 ≤ ev ∧ ev ≤ 1000) ∧ (-4000000 ≤ fr ∧ fr ≤ 4000000) ∧ (-4000000 ≤ un ∧ un ≤ 4000000) ∧ fr ≤ un ∧ (0 ≤ ct ∧ ct ≤ 1000)
    · rw [if_pos h2, if_neg (show ¬ ev < 1 by omega), if_neg (show ¬ ev > 1000 by omega), line_Check_f, if_pos h2.2.1, Option.bind_some, if_pos rfl, line_Check_f, if_pos h2.2.2.1, Option.bind_some, if_pos rfl, if_neg (show ¬ un < fr by omega), if_neg (show ¬ ct < 0 by omega), decide_eq_false (show ¬ ct > 1000 by omega)]
      simp only [recur_Check.j1, Bool.false_eq_true, if_false]
      rw [recur_list_f a 0 6 k (by omega), recur_list_f b (-31) 31 k (by omega), recur_list_f c 1 12 k (by omega)]
      simp only [Option.bind_some, show decide ((0 : Int) < 0) = false from rfl, show decide ((-31 : Int) < 0) = true from rfl, show decide ((1 : Int) < 0) = false from rfl]
      by_cases h3 : listErr false 0 6 a = 0
      · rw [if_pos h3, if_pos h3]
        by_cases h4 : listErr true (-31) 31 b = 0
        · rw [if_pos h4, if_pos h4]
        · rw [if_neg h4, if_neg h4]
      · rw [if_neg h3, if_neg h3]
    · rw [if_neg h2]
      by_cases d1 : ev < 1
      · rw [if_pos d1, ht]
      rw [if_neg d1]
      by_cases d2 : ev > 1000
      · rw [if_pos d2, ht]
      rw [if_neg d2, line_Check_f]
      by_cases d3 : -4000000 ≤ fr ∧ fr ≤ 4000000
      · rw [if_pos d3, Option.bind_some, if_pos rfl, line_Check_f]
        by_cases d4 : -4000000 ≤ un ∧ un ≤ 4000000
        · rw [if_pos d4, Option.bind_some, if_pos rfl]
          by_cases d5 : un < fr
          · rw [if_pos d5, ht]
          rw [if_neg d5]
          by_cases d6 : ct < 0
          · rw [if_pos d6, ht]
          rw [if_neg d6, decide_eq_true (show ct > 1000 by omega), ht]
        · rw [if_neg d4, Option.bind_some, if_neg (by omega), ht]
      · rw [if_neg d3, Option.bind_some, if_neg (by omega), ht]
  · rw [dec_not_true h1, if_pos rfl, if_neg h1]

theorem slices_Clone_int_int_f (l : List Int) (h : l.length < 17592186044416) : slices_Clone_int_int.f l = some l := by
  unfold slices_Clone_int_int.f
  rw [Option.bind_some, if_pos (by simpa using h)]
  simp

theorem whole_Div_f {a b : Int} (k : Nat) (hk : 1 ≤ k) (ha : -9223372036854775808 ≤ a) (ha1 : a ≤ 9223372036854775807) (hb : -9223372036854775808 ≤ b) (hb1 : b ≤ 9223372036854775807) : whole_Div.f k a b = some (divs a b) := by
  obtain ⟨k, rfl⟩ : ∃ m, k = m + 1 := ⟨k - 1, by omega⟩
  unfold whole_Div.f divs
  by_cases c : b = 0
  · rw [if_pos c, if_pos c]
  rw [if_neg c, if_neg c]
  by_cases d : a = -9223372036854775808 ∧ b = -1
  · rw [if_pos d.1, if_pos d, d.2]; simp [whole_Div.j0]
  have e : (if a = (-9223372036854775808) then (whole_Div.j0 (k + 1) a b (b == (-1))) else (whole_Div.j0 (k + 1) a b false)) = whole_Div.j0 (k + 1) a b false := by
    by_cases c1 : a = -9223372036854775808
    · rw [if_pos c1, show (b == -1) = false from beq_eq_false_iff_ne.2 (fun h => d ⟨c1, h⟩)]
    · rw [if_neg c1]
  rw [e, if_neg d]
  simp only [whole_Div.j0, Bool.false_eq_true, if_false]
  rw [if_neg c]
  obtain ⟨b1, b2⟩ := tdiv_bound a b c ha ha1 d
  obtain ⟨g1, g2, g3⟩ := fd_of_t a b c
  obtain ⟨t0, t1, t2, t3, t4⟩ := tdm a b c
  rw [w64_id b1 b2]
  by_cases hz : Int.tmod a b = 0
  · rw [if_pos hz, (g1 hz).1, (g1 hz).2, hz]
  · rw [if_neg hz]
    cases hs : (decide (Int.tmod a b < 0) != decide (b < 0)) with
    | true =>
      have hq : fd a b = Int.tdiv a b - 1 := (g2 hz hs).1
      have hfs := fd_spec a b c
      have hlow : -9223372036854775808 ≤ Int.tdiv a b - 1 := by
        by_cases hm : Int.tdiv a b = -9223372036854775808
        · exfalso
          have h9 : (Int.tdiv a b).natAbs = a.natAbs / b.natAbs := Int.natAbs_tdiv a b
          rw [hm] at h9
          have h10 : a.natAbs / b.natAbs ≤ a.natAbs := Nat.div_le_self _ _
          by_cases hb2 : b.natAbs = 1
          · have : b = 1 ∨ b = -1 := by omega
            rcases this with rfl | rfl
            · exact hz (by rw [Int.tmod_one])
            · exact hz (by rw [Int.tmod_neg, Int.tmod_one])
          · have : a.natAbs / b.natAbs ≤ a.natAbs / 2 := Nat.div_le_div_left (by omega) (by omega)
            omega
        · omega
      have hss : (Int.tmod a b < 0 ∧ 0 < b) ∨ (0 < Int.tmod a b ∧ b < 0) := by
        by_cases hx : Int.tmod a b < 0 <;> by_cases hy : b < 0 <;> simp [hx, hy] at hs
        · exact .inl ⟨hx, by omega⟩
        · exact .inr ⟨by omega, hy⟩
      simp only [if_true]
      rw [(g2 hz hs).1, (g2 hz hs).2, w64_id hlow (by omega), w64_id (n := Int.tmod a b + b) (by omega) (by omega)]
    | false =>
      simp only [Bool.false_eq_true, if_false]
      rw [(g3 hz hs).1, (g3 hz hs).2]

theorem line_begin_f (y : Int) (h : -1000000000000 ≤ y ∧ y ≤ 1000000000000) (k : Nat) (hk : 1 ≤ k) : line_begin.f k y = some (beg y) := by
  unfold line_begin.f beg
  rw [w64_id (n := y - 1) (by omega) (by omega)]
  rw [whole_Div_f k hk (by omega) (by omega) (by omega) (by omega), whole_Div_f k hk (by omega) (by omega) (by omega) (by omega), whole_Div_f k hk (by omega) (by omega) (by omega) (by omega), divs_pos (by omega), divs_pos (by omega), divs_pos (by omega)]
  rw [Option.bind_some, Option.bind_some, Option.bind_some]
  simp only
  have b1 : 365 * (y - 1) + (y - 1) / 4 = 365 * (y - 1) + (y - 1) / 4 := rfl
  rw [w64_id (n := 365 * (y - 1)) (by omega) (by omega), w64_id (n := 365 * (y - 1) + (y - 1) / 4) (by omega) (by omega), w64_id (n := 365 * (y - 1) + (y - 1) / 4 - (y - 1) / 100) (by omega) (by omega), w64_id (n := 365 * (y - 1) + (y - 1) / 4 - (y - 1) / 100 + (y - 1) / 400) (by omega) (by omega)]

theorem line_leap_f (y : Int) : line_leap.f y = some (leapY y) := by
  unfold line_leap.f leapY
  have h4 := tmod_zero_iff y (g := 4) (by omega)
  have h100 := tmod_zero_iff y (g := 100) (by omega)
  have h400 := tmod_zero_iff y (g := 400) (by omega)
  by_cases c4 : y % 4 = 0
  · rw [if_pos (h4.2 c4)]
    by_cases c1 : y % 100 = 0
    · rw [if_pos (h100.2 c1)]
      congr 1
      by_cases c0 : y % 400 = 0
      · rw [beq_iff_eq.2 (h400.2 c0), decide_eq_true ⟨c4, .inr c0⟩]
      · rw [beq_eq_false_iff_ne.2 (fun h => c0 (h400.1 h)), decide_eq_false (fun h => h.2.elim (fun x => x c1) c0)]
    · rw [if_neg (fun h => c1 (h100.1 h)), decide_eq_true ⟨c4, .inl c1⟩]
  · rw [if_neg (fun h => c4 (h4.1 h)), decide_eq_false (fun h => c4 h.1)]

theorem line_length_f (y m : Int) : line_length.f y m = some (lenM y m) := by
  unfold line_length.f lenM
  by_cases c2 : m = 2
  · rw [if_pos c2, if_pos c2, line_leap_f, Option.bind_some]
    cases leapY y <;> rfl
  rw [if_neg c2, if_neg c2]
  by_cases c4 : m = 4
  · rw [if_pos c4, if_pos (.inl c4)]
  rw [if_neg c4]
  by_cases c6 : m = 6
  · rw [if_pos c6, if_pos (.inr (.inl c6))]
  rw [if_neg c6]
  by_cases c9 : m = 9
  · rw [if_pos c9, if_pos (.inr (.inr (.inl c9)))]
  rw [if_neg c9]
  by_cases c11 : m = 11
  · rw [if_pos c11, if_pos (.inr (.inr (.inr c11)))]
  rw [if_neg c11, if_neg (fun h => h.elim c4 (fun h => h.elim c6 (fun h => h.elim c9 c11)))]

theorem line_Date_l2 (x Y : Int) (hx : -4000000 ≤ x ∧ x ≤ 4000000) (hY : -100000 ≤ Y ∧ Y ≤ 100000) : ∀ (d k : Nat) (m : Int), m + d = 12 → 1 ≤ m → d < k → 1 ≤ x - beg Y - cumM Y m → x - beg Y ≤ (if leapY Y = true then 366 else 365) →
    ∃ m' r, line_Date.l2 k Y (x - beg Y - cumM Y m) m = some (Y, m', r, 0) ∧ okDate Y m' r ∧ dayOf Y m' r = x := by
  intro d
  induction d with
  | zero =>
    intro k m hm h1 hk hr hle
    obtain ⟨k, rfl⟩ : ∃ m, k = m + 1 := ⟨k - 1, by omega⟩
    obtain rfl : m = 12 := by omega
    have he := cum_end Y
    conv => enter [1, m', 1, r, 1]; unfold line_Date.l2
    rw [line_length_f, Option.bind_some, if_neg (by omega)]
    exact ⟨12, _, rfl, ⟨by omega, by omega⟩, by unfold dayOf; omega⟩
  | succ d ih =>
    intro k m hm h1 hk hr hle
    obtain ⟨k, rfl⟩ : ∃ m, k = m + 1 := ⟨k - 1, by omega⟩
    have hs := cum_succ Y m h1 (by omega)
    have hl := len_pos Y m
    have hc := cum_le Y m h1 (by omega)
    have h366 : (if leapY Y = true then (366 : Int) else 365) ≤ 366 := by split <;> omega
    conv => enter [1, m', 1, r, 1]; unfold line_Date.l2
    rw [line_length_f, Option.bind_some]
    by_cases c : x - beg Y - cumM Y m > lenM Y m
    · rw [if_pos c, Option.bind_some, w64_id (n := x - beg Y - cumM Y m - lenM Y m) (by omega) (by omega), w64_id (n := m + 1) (by omega) (by omega), show x - beg Y - cumM Y m - lenM Y m = x - beg Y - cumM Y (m + 1) from by omega]
      exact ih k (m + 1) (by omega) (by omega) (by omega) (by omega) hle
    · rw [if_neg c]
      exact ⟨m, _, rfl, ⟨by omega, by omega⟩, by unfold dayOf; omega⟩
theorem beg_low (y : Int) : 400 * beg y ≤ 146097 * (y - 1) + 396 := by unfold beg; omega
theorem beg_high (y : Int) : 146097 * (y - 1) - 699 ≤ 400 * beg y := by unfold beg; omega
theorem line_Date_l1 (x Y : Int) (hx : -4000000 ≤ x ∧ x ≤ 4000000) (hY : -100000 ≤ Y ∧ Y ≤ 100000) (k : Nat) (hk : 30 ≤ k) (h0 : beg Y < x) (h1 : x ≤ beg (Y + 1)) :
    ∃ m' r, line_Date.l1 k x Y = some (Y, m', r, 0) ∧ okDate Y m' r ∧ dayOf Y m' r = x := by
  obtain ⟨k, rfl⟩ : ∃ m, k = m + 1 := ⟨k - 1, by omega⟩
  have hb := beg_low Y
  have hb' := beg_high Y
  have hs := beg_succ Y
  have hc0 : cumM Y 1 = 0 := by unfold cumM; rw [if_pos (by omega)]
  conv => enter [1, m', 1, r, 1]; unfold line_Date.l1
  rw [w64_id (n := Y + 1) (by omega) (by omega), line_begin_f _ (by omega) k (by omega), line_begin_f _ (by omega) k (by omega), Option.bind_some, if_neg (by omega), Option.bind_some, w64_id (n := x - beg Y) (by omega) (by omega)]
  have := line_Date_l2 x Y hx hY 11 k 1 (by omega) (by omega) (by omega) (by omega) (by omega)
  rw [hc0, Int.sub_zero] at this
  exact this
theorem line_Date_f (x : Int) (k : Nat) (hk : 50 ≤ k) : line_Date.f k x = some (if -4000000 ≤ x ∧ x ≤ 4000000 then ((greg x).1, (greg x).2.1, (greg x).2.2, 0) else (0, 0, 0, 3)) := by
  unfold line_Date.f
  rw [line_Check_f, Option.bind_some]
  by_cases hx : -4000000 ≤ x ∧ x ≤ 4000000
  · rw [if_pos hx, if_pos rfl, if_pos hx, w64_id (n := x - 1) (by omega) (by omega), w64_id (n := 400 * (x - 1)) (by omega) (by omega), whole_Div_f k (by omega) (by omega) (by omega) (by omega) (by omega), divs_pos (by omega), Option.bind_some]
    simp only
    obtain ⟨g, hg⟩ : ∃ g, g = 400 * (x - 1) / 146097 + 1 := ⟨_, rfl⟩
    have hgb : 146097 * (g - 1) ≤ 400 * (x - 1) ∧ 400 * (x - 1) < 146097 * g := by omega
    rw [← hg, w64_id (n := g) (by omega) (by omega)]
    clear hg
    have fin : ∀ Y : Int, (∃ m' r, line_Date.l0 k x g = some (Y, m', r, 0) ∧ okDate Y m' r ∧ dayOf Y m' r = x) → line_Date.l0 k x g = some ((greg x).1, (greg x).2.1, (greg x).2.2, 0) := by
      rintro Y ⟨m', r, h1, h2, h3⟩
      have := dayOf_greg h2
      rw [h3] at this
      rw [h1, this]
    obtain ⟨k, rfl⟩ : ∃ m, k = m + 2 := ⟨k - 2, by omega⟩
    have low1 := beg_low (g - 1)
    have low0 := beg_low g
    have high0 := beg_high g
    have high1 := beg_high (g + 1)
    have high2 := beg_high (g + 2)
    have st : ∀ (j : Nat) (Y : Int), 1 ≤ j → -100000 ≤ Y → Y ≤ 100000 → beg Y < x → line_Date.l0 (j + 1) x Y = line_Date.l1 j x Y := by
      intro j Y hj hY0 hY1 h
      conv => lhs; unfold line_Date.l0
      rw [line_begin_f _ (by omega) j hj, Option.bind_some, if_neg (by omega)]
    by_cases c0 : beg g ≥ x
    · apply fin (g - 1)
      have e : line_Date.l0 (k + 2) x g = line_Date.l1 k x (g - 1) := by
        rw [show k + 2 = (k + 1) + 1 from rfl]
        conv => lhs; unfold line_Date.l0
        rw [line_begin_f _ (by omega) (k + 1) (by omega), Option.bind_some, if_pos c0, w64_id (n := g - 1) (by omega) (by omega)]
        exact st k (g - 1) (by omega) (by omega) (by omega) (by omega)
      rw [e]
      exact line_Date_l1 x (g - 1) hx (by omega) k (by omega) (by omega) (by rw [show g - 1 + 1 = g from by omega]; omega)
    · have e : line_Date.l0 (k + 2) x g = line_Date.l1 (k + 1) x g := st (k + 1) g (by omega) (by omega) (by omega) (by omega)
      by_cases c1 : beg (g + 1) < x
      · apply fin (g + 1)
        rw [e]
        have e2 : line_Date.l1 (k + 1) x g = line_Date.l1 k x (g + 1) := by
          conv => lhs; unfold line_Date.l1
          rw [w64_id (n := g + 1) (by omega) (by omega), line_begin_f _ (by omega) k (by omega), Option.bind_some, if_pos c1]
        rw [e2]
        exact line_Date_l1 x (g + 1) hx (by omega) k (by omega) c1 (by rw [show g + 1 + 1 = g + 2 from by omega]; omega)
      · apply fin g
        rw [e]
        exact line_Date_l1 x g hx (by omega) (k + 1) (by omega) (by omega) (by omega)
  · rw [if_neg hx, if_neg (by omega), if_neg hx]

theorem whole_Mod_f {a m : Int} (hm : 0 < m) (hm1 : m ≤ 9223372036854775807) : whole_Mod.f a m = some (a % m) := by
  unfold whole_Mod.f
  rw [if_neg (by omega)]
  obtain ⟨h1, h2⟩ := tmod_emod a m hm
  have h3 := Int.emod_nonneg a (b := m) (by omega)
  have h4 := Int.emod_lt_of_pos a hm
  by_cases c : Int.tmod a m < 0
  · rw [if_pos c, h1 c, w64_id (by omega) (by omega)]
  · rw [if_neg c, h2 c]

/-- The additional conditions as lists. -/
def expl (u fr : Int) (a b c : List Int) : List Int × List Int × List Int :=
  if a = [] ∧ b = [] then (if u = 2 then ([(fr - 1) % 7], b, c) else if u = 3 then (a, [(greg fr).2.2], c) else if u = 4 then (a, [(greg fr).2.2], if c = [] then [(greg fr).2.1] else c) else (a, b, c)) else (a, b, c)
theorem expl_len (u fr : Int) (a b c : List Int) (ha : a.length ≤ 31) (hb : b.length ≤ 31) (hc : c.length ≤ 31) : (expl u fr a b c).1.length ≤ 31 ∧ (expl u fr a b c).2.1.length ≤ 31 ∧ (expl u fr a b c).2.2.length ≤ 31 := by
  unfold expl
  split
  · split
    · simp only [List.length_cons, List.length_nil]; omega
    · split
      · simp only [List.length_cons, List.length_nil]; omega
      · split
        · refine ⟨by simp only; omega, by simp only [List.length_cons, List.length_nil]; omega, ?_⟩
          show (if c = [] then [(greg fr).2.1] else c).length ≤ 31
          split
          · simp only [List.length_cons, List.length_nil]; omega
          · omega
        · exact ⟨ha, hb, hc⟩
  · exact ⟨ha, hb, hc⟩
theorem len_zero (l : List Int) : ((l.length : Int) = 0) = (l = []) := by
  apply propext
  constructor
  · intro h; exact List.eq_nil_of_length_eq_zero (by omega)
  · intro h; subst h; rfl
theorem len_some (l : List Int) : ((l.length : Int) > 0) = ¬ (l = []) := by
  apply propext
  constructor
  · intro h g; subst g; simp at h
  · intro h
    have : l.length ≠ 0 := fun g => h (List.eq_nil_of_length_eq_zero g)
    omega
theorem recur_explicit_f (u ev fr ct un : Int) (a b c : List Int) (hf : -4000000 ≤ fr ∧ fr ≤ 4000000) (ha : a.length ≤ 31) (hb : b.length ≤ 31) (hc : c.length ≤ 31) (k : Nat) (hk : 60 ≤ k) :
    recur_explicit.f k u ev fr ct un a b c = some (u, ev, fr, ct, un, (expl u fr a b c).1, (expl u fr a b c).2.1, (expl u fr a b c).2.2) := by
  obtain ⟨k, rfl⟩ : ∃ m, k = m + 1 := ⟨k - 1, by omega⟩
  unfold recur_explicit.f
  rw [slices_Clone_int_int_f a (by omega), Option.bind_some, slices_Clone_int_int_f b (by omega), Option.bind_some, slices_Clone_int_int_f c (by omega), Option.bind_some]
  simp only [len_some]
  unfold expl
  by_cases h1 : a = []
  · rw [if_neg (fun h => h h1)]
    by_cases h2 : b = []
    · rw [if_pos ⟨h1, h2⟩, decide_eq_false (fun h => h h2)]
      simp only [recur_explicit.j0]
      rw [if_neg (by decide), line_Date_f fr k (by omega), if_pos hf, Option.bind_some]
      simp only [len_zero]
      by_cases u2 : u = 2
      · rw [if_pos u2, if_pos u2, w64_id (by omega) (by omega), whole_Mod_f (by decide) (by decide), Option.bind_some]
      rw [if_neg u2, if_neg u2]
      by_cases u3 : u = 3
      · rw [if_pos u3, if_pos u3]
      rw [if_neg u3, if_neg u3]
      by_cases u4 : u = 4
      · rw [if_pos u4, if_pos u4, Option.bind_some]
        by_cases h3 : c = []
        · rw [if_pos h3]; simp only [if_pos h3]
        · rw [if_neg h3]; simp only [if_neg h3]
      · rw [if_neg u4, if_neg u4]
    · rw [if_neg (fun h => h2 h.2), decide_eq_true h2]
      simp only [recur_explicit.j0]
      rw [if_pos trivial]
  · rw [if_pos h1, if_neg (fun h => h1 h.1)]
    simp only [recur_explicit.j0]
    rw [if_pos trivial]

theorem recur_length_f (y m d : Int) : recur_length.f y m d = some (lenM y m) := by
  unfold recur_length.f lenM leapY
  simp only [decide_eq_true_eq, tmod_zero_iff y (show (0 : Int) < 4 by decide), tmod_zero_iff y (show (0 : Int) < 100 by decide), tmod_zero_iff y (show (0 : Int) < 400 by decide)]
  grind

theorem recur_week_f (x : Int) (h : -4000002 ≤ x ∧ x ≤ 4000002) (k : Nat) (hk : 1 ≤ k) : recur_week.f k x = some ((x - 1) / 7) := by
  unfold recur_week.f
  rw [w64_id (by omega) (by omega), whole_Div_f k hk (by omega) (by omega) (by omega) (by omega), divs_pos (by omega), Option.bind_some]

/-- The number of units between the first day and a day. -/
def unitN (u day fr y0 m0 y m : Int) : Int := if u = 1 then day - fr else if u = 2 then (day - 1) / 7 - (fr - 1) / 7 else if u = 3 then 12 * (y - y0) + m - m0 else y - y0
def fitsB (u ev fr un : Int) (a b c : List Int) (y0 m0 y m d day len : Int) : Bool :=
  decide (fr ≤ day ∧ day ≤ un) && (decide (unitN u day fr y0 m0 y m % ev = 0) && (decide (c = [] ∨ m ∈ c) && (decide (a = [] ∨ (day - 1) % 7 ∈ a) && decide (b = [] ∨ d ∈ b ∨ d - len - 1 ∈ b))))
theorem recur_fits_j3 (u ev fr ct un : Int) (a b c : List Int) (y m d len : Int) (z : Bool) (hd : 0 ≤ d ∧ d ≤ 100) (hl : 0 ≤ len ∧ len ≤ 100) (hb : b.length ≤ 31) (k : Nat) (hk : 40 ≤ k) :
    recur_fits.j3 (k + 1) len z u ev fr ct un a b c y m d = some (!z && decide (b = [] ∨ d ∈ b ∨ d - len - 1 ∈ b)) := by
  simp only [recur_fits.j3, len_zero]
  cases z with
  | true => simp
  | false =>
    rw [if_neg (by decide), Bool.not_false, Bool.true_and]
    by_cases h : b = []
    · rw [if_pos h, decide_eq_true (.inl h)]
    · rw [if_neg h, slices_Contains_f b d (by omega) k (by omega), Option.bind_some]
      by_cases g : d ∈ b
      · rw [decide_eq_true g, if_pos rfl, decide_eq_true (.inr (.inl g))]
      · rw [decide_eq_false g, if_neg (by decide), w64_id (n := d - len) (by omega) (by omega), w64_id (by omega) (by omega), slices_Contains_f b _ (by omega) k (by omega), Option.bind_some]
        congr 1
        simp only [decide_eq_decide]
        exact ⟨fun x => .inr (.inr x), fun x => x.elim (fun y => absurd y h) (fun y => y.elim (fun z => absurd z g) id)⟩
theorem recur_fits_j2 (u ev fr ct un : Int) (a b c : List Int) (y m d day len : Int) (z : Bool) (hd : 0 ≤ d ∧ d ≤ 100) (hl : 0 ≤ len ∧ len ≤ 100) (hy : -4000002 ≤ day ∧ day ≤ 4000002) (ha : a.length ≤ 31) (hb : b.length ≤ 31) (k : Nat) (hk : 41 ≤ k) :
    recur_fits.j2 (k + 1) day len z u ev fr ct un a b c y m d = some (!z && (decide (a = [] ∨ (day - 1) % 7 ∈ a) && decide (b = [] ∨ d ∈ b ∨ d - len - 1 ∈ b))) := by
  obtain ⟨k, rfl⟩ : ∃ m, k = m + 1 := ⟨k - 1, by omega⟩
  simp only [recur_fits.j2, len_some]
  cases z with
  | true => simp
  | false =>
    rw [if_neg (by decide), Bool.not_false, Bool.true_and]
    by_cases h : a = []
    · rw [if_neg (fun g => g h), recur_fits_j3 u ev fr ct un a b c y m d len false hd hl hb k (by omega), decide_eq_true (p := a = [] ∨ (day - 1) % 7 ∈ a) (.inl h)]; rfl
    · rw [if_pos h, w64_id (by omega) (by omega), whole_Mod_f (by decide) (by decide), Option.bind_some, slices_Contains_f a _ (by omega) (k + 1) (by omega), Option.bind_some, recur_fits_j3 u ev fr ct un a b c y m d len _ hd hl hb k (by omega), Bool.not_not]
      congr 2
      simp [h]
theorem recur_fits_j1 (u ev fr ct un : Int) (a b c : List Int) (n y m d day len : Int) (he : 1 ≤ ev) (hd : 0 ≤ d ∧ d ≤ 100) (hl : 0 ≤ len ∧ len ≤ 100) (hy : -4000002 ≤ day ∧ day ≤ 4000002) (ha : a.length ≤ 31) (hb : b.length ≤ 31) (hc : c.length ≤ 31) (k : Nat) (hk : 42 ≤ k) :
    recur_fits.j1 (k + 1) day len n u ev fr ct un a b c y m d = some (decide (n % ev = 0) && (decide (c = [] ∨ m ∈ c) && (decide (a = [] ∨ (day - 1) % 7 ∈ a) && decide (b = [] ∨ d ∈ b ∨ d - len - 1 ∈ b)))) := by
  obtain ⟨k, rfl⟩ : ∃ m, k = m + 1 := ⟨k - 1, by omega⟩
  simp only [recur_fits.j1, len_some, tmod_zero_iff n (show 0 < ev by omega)]
  rw [if_neg (by omega)]
  by_cases h0 : n % ev = 0
  · rw [if_pos h0, decide_eq_true h0, Bool.true_and]
    by_cases h : c = []
    · rw [if_neg (fun g => g h), recur_fits_j2 u ev fr ct un a b c y m d day len false hd hl hy ha hb k (by omega), decide_eq_true (p := c = [] ∨ m ∈ c) (.inl h)]; rfl
    · rw [if_pos h, slices_Contains_f c _ (by omega) (k + 1) (by omega), Option.bind_some, recur_fits_j2 u ev fr ct un a b c y m d day len _ hd hl hy ha hb k (by omega), Bool.not_not]
      congr 2
      simp [h]
  · rw [if_neg h0, decide_eq_false h0, Bool.false_and]
theorem recur_fits_f (u ev fr ct un : Int) (a b c : List Int) (y0 m0 d0 y m d day len : Int) (hu : 1 ≤ u ∧ u ≤ 4) (he : 1 ≤ ev) (hf : -4000000 ≤ fr ∧ fr ≤ 4000000) (hd : 0 ≤ d ∧ d ≤ 100) (hl : 0 ≤ len ∧ len ≤ 100) (hy : -4000002 ≤ day ∧ day ≤ 4000002)
    (hyy : (-1000000 ≤ y ∧ y ≤ 1000000) ∧ (-1000000 ≤ y0 ∧ y0 ≤ 1000000) ∧ (0 ≤ m ∧ m ≤ 100) ∧ (0 ≤ m0 ∧ m0 ≤ 100)) (ha : a.length ≤ 31) (hb : b.length ≤ 31) (hc : c.length ≤ 31) (k : Nat) (hk : 50 ≤ k) :
    recur_fits.f k u ev fr ct un a b c y0 m0 d0 y m d day len = some (fitsB u ev fr un a b c y0 m0 y m d day len) := by
  obtain ⟨k, rfl⟩ : ∃ m, k = m + 2 := ⟨k - 2, by omega⟩
  have hj : recur_fits.f (k + 2) u ev fr ct un a b c y0 m0 d0 y m d day len = recur_fits.j0 (k + 2) day len (!decide (fr ≤ day ∧ day ≤ un)) u ev fr ct un a b c y0 m0 d0 y m d := by
    unfold recur_fits.f
    by_cases h : day < fr
    · rw [if_pos h, decide_eq_false (p := fr ≤ day ∧ day ≤ un) (by omega)]; rfl
    · rw [if_neg h]
      by_cases g : day ≤ un
      · rw [decide_eq_true (p := fr ≤ day ∧ day ≤ un) ⟨by omega, g⟩, decide_eq_false (by omega)]; rfl
      · rw [decide_eq_false (p := fr ≤ day ∧ day ≤ un) (by omega), decide_eq_true (by omega)]; rfl
  rw [hj]
  unfold fitsB
  have e2 : k + 2 = (k + 1) + 1 := rfl
  rw [e2]
  simp only [recur_fits.j0]
  cases decide (fr ≤ day ∧ day ≤ un) with
  | false => simp
  | true =>
    rw [Bool.not_true, if_neg (by decide), Bool.true_and]
    unfold unitN
    by_cases u1 : u = 1
    · rw [if_pos u1, if_pos u1, w64_id (by omega) (by omega)]
      exact recur_fits_j1 u ev fr ct un a b c _ y m d day len he hd hl hy ha hb hc k (by omega)
    rw [if_neg u1, if_neg u1]
    by_cases u2 : u = 2
    · rw [if_pos u2, if_pos u2, recur_week_f day hy (k + 1) (by omega), Option.bind_some, recur_week_f fr (by omega) (k + 1) (by omega), Option.bind_some, w64_id (by omega) (by omega)]
      exact recur_fits_j1 u ev fr ct un a b c _ y m d day len he hd hl hy ha hb hc k (by omega)
    rw [if_neg u2, if_neg u2]
    by_cases u3 : u = 3
    · rw [if_pos u3, if_pos u3, w64_id (n := y - y0) (by omega) (by omega), w64_id (n := 12 * (y - y0)) (by omega) (by omega), w64_id (n := 12 * (y - y0) + m) (by omega) (by omega), w64_id (by omega) (by omega)]
      exact recur_fits_j1 u ev fr ct un a b c _ y m d day len he hd hl hy ha hb hc k (by omega)
    rw [if_neg u3, if_neg u3, if_pos (show u = 4 by omega), w64_id (by omega) (by omega)]
    exact recur_fits_j1 u ev fr ct un a b c _ y m d day len he hd hl hy ha hb hc k (by omega)

theorem greg_in (day j : Int) (h0 : 0 ≤ j) (h : (greg day).2.2 + j ≤ lenM (greg day).1 (greg day).2.1) : greg (day + j) = ((greg day).1, (greg day).2.1, (greg day).2.2 + j) := by
  have ok := greg_ok day
  have h1 : okDate (greg day).1 (greg day).2.1 ((greg day).2.2 + j) := ⟨ok.1.1, by have := ok.1.2; omega⟩
  have h2 := dayOf_greg h1
  have h3 : dayOf (greg day).1 (greg day).2.1 ((greg day).2.2 + j) = day + j := by have := ok.2; unfold dayOf at this ⊢; omega
  rw [h3] at h2
  exact h2
theorem greg_end (day : Int) : (greg (day + (lenM (greg day).1 (greg day).2.1 - (greg day).2.2) + 1)).2.1 ≠ (greg day).2.1 := by
  have ok := greg_ok day
  obtain ⟨⟨⟨m1, m2⟩, d1, d2⟩, e⟩ := ok
  generalize (greg day).1 = y at *
  generalize (greg day).2.1 = m at *
  generalize (greg day).2.2 = d at *
  unfold dayOf at e
  by_cases c : m ≤ 11
  · have hs := cum_succ y m m1 c
    have hl := len_pos y (m + 1)
    have h2 := dayOf_greg (y := y) (m := m + 1) (d := 1) ⟨⟨by omega, by omega⟩, by omega, by omega⟩
    rw [show dayOf y (m + 1) 1 = day + (lenM y m - d) + 1 from by unfold dayOf; omega] at h2
    rw [h2]
    simp only
    omega
  · have hm : m = 12 := by omega
    subst hm
    have hs := beg_succ y
    have he := cum_end y
    have hl := len_pos (y + 1) 1
    have h2 := dayOf_greg (y := y + 1) (m := 1) (d := 1) ⟨⟨by omega, by omega⟩, by omega, by omega⟩
    rw [show dayOf (y + 1) 1 1 = day + (lenM y 12 - d) + 1 from by unfold dayOf; rw [show cumM (y + 1) 1 = 0 from by unfold cumM; rw [if_pos (by omega)]]; omega] at h2
    rw [h2]
    simp only
    omega
theorem greg_bounds (day : Int) (h : -5000000 ≤ day ∧ day ≤ 5000000) : (-100000 ≤ (greg day).1 ∧ (greg day).1 ≤ 100000) ∧ (1 ≤ (greg day).2.1 ∧ (greg day).2.1 ≤ 12) ∧ (1 ≤ (greg day).2.2 ∧ (greg day).2.2 ≤ lenM (greg day).1 (greg day).2.1) ∧ (28 ≤ lenM (greg day).1 (greg day).2.1 ∧ lenM (greg day).1 (greg day).2.1 ≤ 31) := by
  have ok := greg_ok day
  obtain ⟨⟨⟨m1, m2⟩, d1, d2⟩, e⟩ := ok
  generalize (greg day).1 = y at *
  generalize (greg day).2.1 = m at *
  generalize (greg day).2.2 = d at *
  have hl := len_pos y m
  have hc := cum_le y m m1 m2
  have h366 : (if leapY y = true then (366 : Int) else 365) ≤ 366 := by split <;> omega
  refine ⟨?_, ⟨m1, m2⟩, ⟨d1, d2⟩, hl⟩
  unfold dayOf beg at e
  omega

/-- The days of a recurrence out of a number of days, one after the other; it ends where the count is passed. -/
def pickD (fit : Int → Bool) (ct lo : Int) : Nat → Int → Int → List Int
  | 0, _, _ => []
  | d + 1, day, n => if fit day = true then (if 0 < ct ∧ ct < n + 1 then [] else (if lo ≤ day then day :: pickD fit ct lo d (day + 1) (n + 1) else pickD fit ct lo d (day + 1) (n + 1))) else pickD fit ct lo d (day + 1) n
def dayFit (u ev fr un : Int) (a b c : List Int) (day : Int) : Bool :=
  fitsB u ev fr un a b c (greg fr).1 (greg fr).2.1 (greg day).1 (greg day).2.1 (greg day).2.2 day (lenM (greg day).1 (greg day).2.1)
theorem recur_Days_l0 (x1 x2 u ev fr ct un : Int) (a b c : List Int) (hu : 1 ≤ u ∧ u ≤ 4) (he : 1 ≤ ev) (hf : -4000000 ≤ fr ∧ fr ≤ 4000000) (ha : a.length ≤ 31) (hb : b.length ≤ 31) (hc : c.length ≤ 31) (hct : 0 ≤ ct ∧ ct ≤ 1000)
    (top : Int) (htop : mn x2 un = top) (ht : top ≤ 4000000) :
    ∀ (D : Nat) (k : Nat) (out : List Int) (n len day y m d : Int), -4000000 ≤ day → day + D = top + 1 ∨ (D = 0 ∧ top < day) → day ≤ 4000001 → (day ≤ 4000000 → (y, m, d) = greg day ∧ len = lenM y m) → (0 ≤ n ∧ n + D ≤ 100000) → out.length + D ≤ 100000 → 3 * D + 200 ≤ k →
    recur_Days.l0 k x1 x2 out n len day u ev fr ct un a b c (greg fr).1 (greg fr).2.1 (greg fr).2.2 y m d = some (out ++ pickD (dayFit u ev fr un a b c) ct x1 D day n, 0) := by
  have gf := greg_bounds fr (by omega)
  intro D
  induction D with
  | zero =>
    intro k out n len day y m d hd hD hd1 hg hn ho hk
    obtain ⟨k, rfl⟩ : ∃ m, k = m + 1 := ⟨k - 1, by omega⟩
    simp only [recur_Days.l0]
    rw [htop, if_neg (by omega)]
    unfold pickD
    rw [List.append_nil]
  | succ D ih =>
    intro k out n len day y m d hd hD hd1 hg hn ho hk
    obtain ⟨k, rfl⟩ : ∃ m, k = m + 3 := ⟨k - 3, by omega⟩
    have hday : day ≤ top := by omega
    obtain ⟨hg1, hg2⟩ := hg (by omega)
    have e1 : (greg day).1 = y := by rw [← hg1]
    have e2 : (greg day).2.1 = m := by rw [← hg1]
    have e3 : (greg day).2.2 = d := by rw [← hg1]
    have gb := greg_bounds day (by omega)
    have hfit : dayFit u ev fr un a b c day = fitsB u ev fr un a b c (greg fr).1 (greg fr).2.1 y m d day len := by unfold dayFit; rw [e1, e2, e3, hg2]
    rw [e1, e2, e3, ← hg2] at gb
    -- the step to the next day
    have h5 : ∀ (q : Nat) (out' : List Int) (n' : Int), 3 * D + 200 ≤ q → (0 ≤ n' ∧ n' + D ≤ 100000) → out'.length + D ≤ 100000 →
        recur_Days.j5 (q + 1) x1 x2 out' n' len day u ev fr ct un a b c (greg fr).1 (greg fr).2.1 (greg fr).2.2 y m d = some (out' ++ pickD (dayFit u ev fr un a b c) ct x1 D (day + 1) n', 0) := by
      intro q out' n' hq hn' ho'
      simp only [recur_Days.j5]
      rw [w64_id (n := d + 1) (by omega) (by omega), w64_id (n := day + 1) (by omega) (by omega)]
      by_cases cd : d + 1 > len
      · rw [if_pos cd, line_Date_f _ q (by omega)]
        have hmn : -4000000 ≤ mn (day + 1) 4000000 ∧ mn (day + 1) 4000000 ≤ 4000000 := by unfold mn; omega
        rw [if_pos hmn, Option.bind_some, recur_length_f, Option.bind_some]
        refine ih q out' n' _ (day + 1) _ _ _ (by omega) ?_ (by omega) ?_ hn' ho' (by omega)
        · omega
        · intro hle
          rw [show mn (day + 1) 4000000 = day + 1 from by unfold mn; omega]
          exact ⟨rfl, rfl⟩
      · rw [if_neg cd]
        refine ih q out' n' len (day + 1) y m (d + 1) (by omega) (by omega) (by omega) ?_ hn' ho' (by omega)
        intro hle
        have := greg_in day 1 (by omega) (by rw [e1, e2, e3, ← hg2]; omega)
        rw [this, e1, e2, e3]
        exact ⟨rfl, hg2⟩
    conv => lhs; unfold recur_Days.l0
    rw [htop, if_pos hday, recur_fits_f u ev fr ct un a b c (greg fr).1 (greg fr).2.1 (greg fr).2.2 y m d day len hu he hf (by omega) (by omega) (by omega) ⟨by omega, by omega, by omega, by omega⟩ ha hb hc (k + 2) (by omega), Option.bind_some, ← hfit]
    unfold pickD
    cases hfd : dayFit u ev fr un a b c day with
    | false =>
      rw [if_neg (by decide), if_neg (by decide)]
      exact h5 (k + 1) out n (by omega) (by omega) (by omega)
    | true =>
      rw [if_pos rfl, if_pos rfl, w64_id (n := n + 1) (by omega) (by omega)]
      have hj : (if ct > 0 then (recur_Days.j4 (k + 2) x1 x2 out (n + 1) len day (decide ((n + 1) > ct)) u ev fr ct un a b c (greg fr).1 (greg fr).2.1 (greg fr).2.2 y m d) else (recur_Days.j4 (k + 2) x1 x2 out (n + 1) len day false u ev fr ct un a b c (greg fr).1 (greg fr).2.1 (greg fr).2.2 y m d))
          = recur_Days.j4 (k + 2) x1 x2 out (n + 1) len day (decide (0 < ct ∧ ct < n + 1)) u ev fr ct un a b c (greg fr).1 (greg fr).2.1 (greg fr).2.2 y m d := by
        by_cases c0 : ct > 0
        · rw [if_pos c0]; congr 1; simp only [decide_eq_decide]; exact ⟨fun h => ⟨c0, h⟩, fun h => h.2⟩
        · rw [if_neg c0, decide_eq_false (p := 0 < ct ∧ ct < n + 1) (fun h => c0 h.1)]
      rw [hj, show k + 2 = (k + 1) + 1 from rfl]
      simp only [recur_Days.j4, decide_eq_true_eq]
      by_cases c1 : 0 < ct ∧ ct < n + 1
      · rw [if_pos c1, if_pos c1, List.append_nil]
      · rw [if_neg c1, if_neg c1]
        by_cases c2 : day ≥ x1
        · rw [if_pos c2, if_pos (by omega), if_pos c2, h5 k (out ++ [day]) (n + 1) (by omega) (by omega) (by rw [List.length_append, List.length_singleton]; omega), List.append_assoc]
          rfl
        · rw [if_neg c2, if_neg c2]
          exact h5 k out (n + 1) (by omega) (by omega) (by omega)
/-- The first error of the arguments of Days. -/
def daysErr (e lo hi fr : Int) : Int := if e = 0 then (if (-4000000 ≤ lo ∧ lo ≤ 4000000) ∧ (-4000000 ≤ hi ∧ hi ≤ 4000000) then (if lo > hi then 9 else if hi > fr + 40000 ∨ hi - lo > 3000 then 2 else 0) else 3) else e
def daysL (u ev fr ct un : Int) (a b c : List Int) (lo hi : Int) : List Int :=
  pickD (dayFit u ev fr un (expl u fr a b c).1 (expl u fr a b c).2.1 (expl u fr a b c).2.2) ct lo (mn hi un + 1 - (if ct > 0 then fr else mx lo fr)).toNat (if ct > 0 then fr else mx lo fr) 0
theorem listErr_len {z : Bool} {lo hi : Int} {l : List Int} (h : listErr z lo hi l = 0) : l.length ≤ 31 := by
  unfold listErr at h
  split at h
  · assumption
  · cases h
theorem recErr_ok {u ev fr ct un : Int} {a b c : List Int} (h : recErr u ev fr ct un a b c = 0) : (1 ≤ u ∧ u ≤ 4) ∧ (1 ≤ ev ∧ ev ≤ 1000) ∧ (-4000000 ≤ fr ∧ fr ≤ 4000000) ∧ (-4000000 ≤ un ∧ un ≤ 4000000) ∧ fr ≤ un ∧ (0 ≤ ct ∧ ct ≤ 1000) ∧ a.length ≤ 31 ∧ b.length ≤ 31 ∧ c.length ≤ 31 := by
  unfold recErr at h
  by_cases h1 : 1 ≤ u ∧ u ≤ 4
  · rw [if_pos h1] at h
    by_cases h2 : (1 ≤ ev ∧ ev ≤ 1000) ∧ (-4000000 ≤ fr ∧ fr ≤ 4000000) ∧ (-4000000 ≤ un ∧ un ≤ 4000000) ∧ fr ≤ un ∧ (0 ≤ ct ∧ ct ≤ 1000)
    · rw [if_pos h2] at h
      by_cases h3 : listErr false 0 6 a = 0
      · rw [if_pos h3] at h
        by_cases h4 : listErr true (-31) 31 b = 0
        · rw [if_pos h4] at h
          exact ⟨h1, h2.1, h2.2.1, h2.2.2.1, h2.2.2.2.1, h2.2.2.2.2, listErr_len h3, listErr_len h4, listErr_len h⟩
        · rw [if_neg h4] at h; exact absurd h h4
      · rw [if_neg h3] at h; exact absurd h h3
    · rw [if_neg h2] at h; cases h
  · rw [if_neg h1] at h; cases h
theorem recur_Days_f (u ev fr ct un : Int) (a b c : List Int) (lo hi : Int) (k : Nat) (hk : 200000 ≤ k) :
    recur_Days.f k u ev fr ct un a b c lo hi = some (if daysErr (recErr u ev fr ct un a b c) lo hi fr = 0 then (daysL u ev fr ct un a b c lo hi, 0) else ([], daysErr (recErr u ev fr ct un a b c) lo hi fr)) := by
  unfold recur_Days.f
  rw [recur_Check_f u ev fr ct un a b c k (by omega), Option.bind_some]
  unfold daysErr
  by_cases h0 : recErr u ev fr ct un a b c = 0
  · obtain ⟨hu, hev, hf, hun, hfu, hct, ha, hb, hc⟩ := recErr_ok h0
    rw [if_pos h0, if_pos h0, line_Check_f, line_Check_f, Option.bind_some]
    have hr : (if (if -4000000 ≤ lo ∧ lo ≤ 4000000 then (0 : Int) else 3) = 0 then ((some (if -4000000 ≤ hi ∧ hi ≤ 4000000 then (0 : Int) else 3)).bind fun t184 => (recur_Days.j0 k lo hi (t184 != 0) u ev fr ct un a b c)) else (recur_Days.j0 k lo hi true u ev fr ct un a b c))
        = recur_Days.j0 k lo hi (decide (¬ ((-4000000 ≤ lo ∧ lo ≤ 4000000) ∧ (-4000000 ≤ hi ∧ hi ≤ 4000000)))) u ev fr ct un a b c := by
      by_cases c1 : -4000000 ≤ lo ∧ lo ≤ 4000000
      · rw [if_pos (by rw [if_pos c1]), Option.bind_some]
        by_cases c2 : -4000000 ≤ hi ∧ hi ≤ 4000000
        · rw [if_pos c2, dec_not_false ⟨c1, c2⟩]; rfl
        · rw [if_neg c2, dec_not_true (fun h => c2 h.2)]; rfl
      · rw [if_neg (by rw [if_neg c1]; decide), dec_not_true (fun h => c1 h.1)]
    rw [hr]
    obtain ⟨k, rfl⟩ : ∃ m, k = m + 3 := ⟨k - 3, by omega⟩
    rw [show k + 3 = (k + 2) + 1 from rfl]
    simp only [recur_Days.j0, decide_eq_true_eq]
    by_cases c3 : (-4000000 ≤ lo ∧ lo ≤ 4000000) ∧ (-4000000 ≤ hi ∧ hi ≤ 4000000)
    · rw [if_neg (fun h => h c3), if_pos c3]
      by_cases c4 : lo > hi
      · rw [if_pos c4, if_pos c4, if_neg (by decide)]
      · rw [if_neg c4, if_neg c4, w64_id (by omega) (by omega), w64_id (n := hi - lo) (by omega) (by omega)]
        have hj : (if hi > fr + 40000 then (recur_Days.j1 (k + 2) lo hi true u ev fr ct un a b c) else (recur_Days.j1 (k + 2) lo hi (decide (hi - lo > 3000)) u ev fr ct un a b c)) = recur_Days.j1 (k + 2) lo hi (decide (hi > fr + 40000 ∨ hi - lo > 3000)) u ev fr ct un a b c := by
          by_cases c5 : hi > fr + 40000
          · rw [if_pos c5, decide_eq_true (p := hi > fr + 40000 ∨ hi - lo > 3000) (.inl c5)]
          · rw [if_neg c5]; congr 1; simp only [decide_eq_decide]; exact ⟨.inr, fun h => h.elim (fun h => absurd h c5) id⟩
        rw [hj, show k + 2 = (k + 1) + 1 from rfl]
        simp only [recur_Days.j1, decide_eq_true_eq]
        by_cases c6 : hi > fr + 40000 ∨ hi - lo > 3000
        · rw [if_pos c6, if_pos c6, if_neg (by decide)]
        · rw [if_neg c6, if_neg c6, if_pos rfl, recur_explicit_f u ev fr ct un a b c hf ha hb hc (k + 1) (by omega), Option.bind_some]
          obtain ⟨la, lb, lc⟩ := expl_len u fr a b c ha hb hc
          have h2 : ∀ s : Int, (-4000000 ≤ s ∧ s ≤ 4000000) → mn hi un - s ≤ 40000 → recur_Days.j2 (k + 1) lo hi s u ev fr ct un (expl u fr a b c).1 (expl u fr a b c).2.1 (expl u fr a b c).2.2 = some (pickD (dayFit u ev fr un (expl u fr a b c).1 (expl u fr a b c).2.1 (expl u fr a b c).2.2) ct lo (mn hi un + 1 - s).toNat s 0, 0) := by
            intro s hs hsd
            simp only [recur_Days.j2]
            rw [line_Date_f fr k (by omega), if_pos hf, Option.bind_some, line_Date_f s k (by omega), if_pos hs, Option.bind_some, recur_length_f, Option.bind_some]
            have hmn : mn hi un ≤ 4000000 := by unfold mn; omega
            exact recur_Days_l0 lo hi u ev fr ct un _ _ _ hu hev.1 hf la lb lc hct (mn hi un) rfl hmn (mn hi un + 1 - s).toNat k [] 0 _ s _ _ _ hs.1 (by omega) (by omega) (fun _ => ⟨rfl, rfl⟩) (by omega) (by simp only [List.length_nil]; omega) (by omega)
          unfold daysL
          have hmm : mn hi un ≤ hi ∧ mn hi un ≤ un := by unfold mn; omega
          have hmx : mx lo fr ≤ 4000000 ∧ lo ≤ mx lo fr ∧ fr ≤ mx lo fr := by unfold mx; omega
          by_cases c7 : ct > 0
          · rw [if_pos c7, if_pos c7]
            exact h2 fr hf (by omega)
          · rw [if_neg c7, if_neg c7]
            exact h2 (mx lo fr) (by omega) (by omega)
    · rw [if_pos c3, if_neg c3, if_neg (by decide)]
  · rw [if_neg h0, if_neg h0, if_neg h0]

theorem ephemerisref1_SameInts_l0 (a b : List Int) (hl : a.length = b.length) (hm : a.length ≤ 9223372036854775807) : ∀ (d i k : Nat), i + d = a.length → d < k →
    ephemerisref1_SameInts.l0 k a b (a.length : Int) (i : Int) = some (decide (a.drop i = b.drop i)) := by
  intro d
  induction d with
  | zero =>
    intro i k hi hk
    obtain ⟨k, rfl⟩ : ∃ m, k = m + 1 := ⟨k - 1, by omega⟩
    conv => lhs; unfold ephemerisref1_SameInts.l0
    rw [if_neg (by omega), List.drop_of_length_le (by omega), List.drop_of_length_le (by omega)]; rfl
  | succ d ih =>
    intro i k hi hk
    obtain ⟨k, rfl⟩ : ∃ m, k = m + 1 := ⟨k - 1, by omega⟩
    have h1 : i < a.length := by omega
    have h2 : i < b.length := by omega
    conv => lhs; unfold ephemerisref1_SameInts.l0
    rw [if_pos (by omega), if_pos (by omega), if_pos (by omega), if_pos (by omega), rd_get a i h1, rd_get b i h2, List.drop_eq_getElem_cons h1, List.drop_eq_getElem_cons h2]
    by_cases c : a[i] = b[i]
    · rw [if_pos c, w64_id (n := (i : Int) + 1) (by omega) (by omega)]
      have := ih (i + 1) k (by omega) (by omega)
      rw [show ((i + 1 : Nat) : Int) = (i : Int) + 1 from by omega] at this
      rw [this]
      congr 1
      apply decide_eq_decide.2
      constructor
      · intro h; rw [c, h]
      · intro h; exact (List.cons.inj h).2
    · rw [if_neg c]
      congr 1
      symm
      exact decide_eq_false (fun h => c (List.cons.inj h).1)
theorem ephemerisref1_SameInts_f (a b : List Int) (hm : a.length ≤ 9223372036854775807) (k : Nat) (hk : a.length < k) : ephemerisref1_SameInts.f k a b = some (decide (a = b)) := by
  unfold ephemerisref1_SameInts.f
  by_cases c : a.length = b.length
  · rw [if_pos (by omega)]
    exact ephemerisref1_SameInts_l0 a b c hm a.length 0 k (by omega) hk
  · rw [if_neg (by omega)]
    congr 1
    symm
    exact decide_eq_false (fun h => c (by rw [h]))

theorem ephemerisref1_In_f (x lo hi : Int) : ephemerisref1_In.f x lo hi = some (decide (lo ≤ x ∧ x ≤ hi)) := by
  unfold ephemerisref1_In.f
  by_cases h : x ≥ lo
  · rw [if_pos h]; congr 1; simp; omega
  · rw [if_neg h]; congr 1; simp; omega

theorem ephemerisref1_Day_f (x : Int) : ephemerisref1_Day.f x = some (decide (-4000000 ≤ x ∧ x ≤ 4000000)) := by
  unfold ephemerisref1_Day.f
  rw [ephemerisref1_In_f]; rfl

/-- The fault r, or what follows. -/
def orGo (r : Int) (x : Option Int) : Option Int := if r = 0 then x else some r
/-- One list of the reference: the earlier places are looked at one by one. -/
theorem recurError_l2 (x3 : Int) (x4 : List Int) (x5 x6 x8 : Int) (x50 : List (List Int)) (x51 x52 : Int) (x68 : List Int) (x69 x70 : Int) (q : List Int) (hq : q.length ≤ 31) : ∀ (d i k : Nat), i + d = q.length →
    ephemerisref1_RecurError.l2 (k + d + 1) x3 x4 x5 x6 x8 x50 x51 x52 x68 x69 x70 q (q.length : Int) (i : Int) = (if x8 ∈ q.drop i then some 7 else ephemerisref1_RecurError.l2 (k + 1) x3 x4 x5 x6 x8 x50 x51 x52 x68 x69 x70 q (q.length : Int) (q.length : Int)) := by
  intro d
  induction d with
  | zero =>
    intro i k hi
    obtain rfl : i = q.length := by omega
    rw [List.drop_of_length_le (by omega), if_neg (by simp)]
  | succ d ih =>
    intro i k hi
    have hlt : i < q.length := by omega
    rw [show k + (d + 1) + 1 = (k + d + 1) + 1 from by omega]
    conv => lhs; unfold ephemerisref1_RecurError.l2
    rw [if_pos (by omega), if_pos (by omega), if_pos (by omega), rd_get q i hlt, List.drop_eq_getElem_cons hlt]
    by_cases c : q[i] = x8
    · rw [if_pos c, if_pos (by rw [c]; exact List.mem_cons_self)]
    · rw [if_neg c, w64_id (by omega) (by omega)]
      have := ih (i + 1) k (by omega)
      rw [show ((i + 1 : Nat) : Int) = (i : Int) + 1 from by omega] at this
      rw [this]
      by_cases c2 : x8 ∈ q.drop (i + 1)
      · rw [if_pos c2, if_pos (List.mem_cons_of_mem _ c2)]
      · rw [if_neg c2, if_neg (fun h => (List.mem_cons.1 h).elim (fun h => c h.symm) c2)]
theorem recurError_l1 (x3 : Int) (l : List Int) (lo hi : Int) (x50 : List (List Int)) (x51 x52 : Int) (hl : l.length ≤ 31) : ∀ (d i k : Nat), i + d = l.length → 40 * d + 40 < k →
    ∃ k', k ≤ k' + 40 * d + 40 ∧ ephemerisref1_RecurError.l1 k x3 l lo hi x50 x51 x52 l (l.length : Int) (i : Int) = orGo (listFrom (x3 == 1) lo hi (l.take i) (l.drop i)) (ephemerisref1_RecurError.l0 k' x50 x51 (wrap64 (x52 + 1))) := by
  intro d
  induction d with
  | zero =>
    intro i k hi' hk
    obtain ⟨k, rfl⟩ : ∃ m, k = m + 1 := ⟨k - 1, by omega⟩
    refine ⟨k, by omega, ?_⟩
    conv => lhs; unfold ephemerisref1_RecurError.l1
    rw [if_neg (by omega), List.drop_of_length_le (by omega)]
    rfl
  | succ d ih =>
    intro i k hi' hk
    obtain ⟨k, rfl⟩ : ∃ m, k = m + 2 := ⟨k - 2, by omega⟩
    have hlt : i < l.length := by omega
    have hj : ((ephemerisref1_In.f (rd l (i : Int)) lo hi).bind fun t132 => (if t132 = true then (if x3 = 1 then (ephemerisref1_RecurError.j3 (k + 1) x3 l lo hi (i : Int) (rd l (i : Int)) x50 x51 x52 l (l.length : Int) (i : Int) ((rd l (i : Int)) == 0)) else (ephemerisref1_RecurError.j3 (k + 1) x3 l lo hi (i : Int) (rd l (i : Int)) x50 x51 x52 l (l.length : Int) (i : Int) false)) else (ephemerisref1_RecurError.j3 (k + 1) x3 l lo hi (i : Int) (rd l (i : Int)) x50 x51 x52 l (l.length : Int) (i : Int) true)))
        = ephemerisref1_RecurError.j3 (k + 1) x3 l lo hi (i : Int) l[i] x50 x51 x52 l (l.length : Int) (i : Int) (decide (¬ ((lo ≤ l[i] ∧ l[i] ≤ hi) ∧ ¬ ((x3 == 1) = true ∧ l[i] = 0)))) := by
      rw [rd_get l i hlt, ephemerisref1_In_f]
      simp only [Option.bind_some, decide_eq_true_eq, beq_iff_eq]
      by_cases c1 : lo ≤ l[i] ∧ l[i] ≤ hi
      · rw [if_pos c1]
        by_cases c2 : x3 = 1
        · rw [if_pos c2]
          by_cases c3 : l[i] = 0
          · rw [beq_iff_eq.2 c3, dec_not_true (fun h => h.2 ⟨c2, c3⟩)]
          · rw [beq_eq_false_iff_ne.2 c3, dec_not_false ⟨c1, fun h' => c3 h'.2⟩]
        · rw [if_neg c2, dec_not_false ⟨c1, fun h' => c2 h'.1⟩]
      · rw [if_neg c1, dec_not_true (fun h => c1 h.1)]
    rw [show k + 2 = (k + 1) + 1 from rfl]
    conv => enter [1, k', 2, 1]; unfold ephemerisref1_RecurError.l1
    rw [if_pos (by omega), if_pos (by omega), if_pos (by omega), hj, List.drop_eq_getElem_cons hlt]
    simp only [ephemerisref1_RecurError.j3, decide_eq_true_eq]
    by_cases c : (lo ≤ l[i] ∧ l[i] ≤ hi) ∧ ¬ ((x3 == 1) = true ∧ l[i] = 0)
    · have hs : listFrom (x3 == 1) lo hi (l.take i) (l[i] :: l.drop (i + 1)) = if l[i] ∈ l.take i then 7 else listFrom (x3 == 1) lo hi (l.take i ++ [l[i]]) (l.drop (i + 1)) := by
        conv => lhs; unfold listFrom
        rw [if_pos c]
      rw [if_neg (fun h => h c), hs, if_pos (by omega), if_pos (by omega), show ((i : Int).toNat) = i from by omega]
      have hlen : (l.take i).length = i := by rw [List.length_take]; omega
      obtain ⟨k2, rfl⟩ : ∃ m, k = m + i + 1 := ⟨k - i - 1, by omega⟩
      have h2 := recurError_l2 x3 l lo hi l[i] x50 x51 x52 l (l.length : Int) (i : Int) (l.take i) (by omega) i 0 k2 (by omega)
      rw [List.drop_zero] at h2
      rw [show ((0 : Nat) : Int) = 0 from rfl] at h2
      rw [h2]
      by_cases c2 : l[i] ∈ l.take i
      · rw [if_pos c2, if_pos c2]
        exact ⟨k2, by omega, rfl⟩
      · rw [if_neg c2, if_neg c2]
        conv => enter [1, k', 2, 1]; unfold ephemerisref1_RecurError.l2
        rw [if_neg (by omega), w64_id (n := (i : Int) + 1) (by omega) (by omega), take_snoc' l i hlt]
        obtain ⟨k', h1, h3⟩ := ih (i + 1) k2 (by omega) (by omega)
        exact ⟨k', by omega, h3⟩
    · have hs : listFrom (x3 == 1) lo hi (l.take i) (l[i] :: l.drop (i + 1)) = 3 := by unfold listFrom; rw [if_neg c]
      rw [if_pos c, hs]
      exact ⟨k, by omega, rfl⟩
theorem recurError_one (X : List (List Int)) (n i : Int) (li : List Int) (lo hi : Int) (z : Bool) (hz : (i == 1) = z) (k : Nat) (hk : 2000 ≤ k) :
    ∃ k', k ≤ k' + 1400 ∧ (if (li.length : Int) > 31 then some 2 else ephemerisref1_RecurError.l1 k i li lo hi X n i li (li.length : Int) 0) = orGo (listErr z lo hi li) (ephemerisref1_RecurError.l0 k' X n (wrap64 (i + 1))) := by
  by_cases c : (li.length : Int) > 31
  · refine ⟨k, by omega, ?_⟩
    have : listErr z lo hi li = 2 := by unfold listErr; rw [if_neg (by omega)]
    rw [if_pos c, this]; rfl
  · obtain ⟨k', h1, h2⟩ := recurError_l1 i li lo hi X n i (by omega) li.length 0 k (by omega) (by omega)
    refine ⟨k', by omega, ?_⟩
    have : listErr z lo hi li = listFrom z lo hi [] li := by unfold listErr; rw [if_pos (by omega)]
    rw [hz, List.drop_zero, List.take_zero, show ((0 : Nat) : Int) = 0 from rfl] at h2
    rw [if_neg c, this, h2]
theorem recurError_l0 (a b c : List Int) (k : Nat) (hk : 9000 ≤ k) : ephemerisref1_RecurError.l0 k [a, b, c] 3 0 = orGo (listErr false 0 6 a) (orGo (listErr true (-31) 31 b) (orGo (listErr false 1 12 c) (some 0))) := by
  obtain ⟨k, rfl⟩ : ∃ m, k = m + 1 := ⟨k - 1, by omega⟩
  obtain ⟨k1, h1, e1⟩ := recurError_one [a, b, c] 3 0 a 0 6 false rfl k (by omega)
  obtain ⟨k1, rfl⟩ : ∃ m, k1 = m + 1 := ⟨k1 - 1, by omega⟩
  obtain ⟨k2, h2, e2⟩ := recurError_one [a, b, c] 3 1 b (-31) 31 true rfl k1 (by omega)
  obtain ⟨k2, rfl⟩ : ∃ m, k2 = m + 1 := ⟨k2 - 1, by omega⟩
  obtain ⟨k3, h3, e3⟩ := recurError_one [a, b, c] 3 2 c 1 12 false rfl k2 (by omega)
  obtain ⟨k3, rfl⟩ : ∃ m, k3 = m + 1 := ⟨k3 - 1, by omega⟩
  rw [w64_id (by omega) (by omega)] at e1 e2 e3
  have l3 : ephemerisref1_RecurError.l0 (k3 + 1) [a, b, c] 3 (2 + 1) = some 0 := by
    conv => lhs; unfold ephemerisref1_RecurError.l0
    rw [if_neg (by omega)]
  have u : ∀ (j : Nat) (i : Int) (li : List Int) (lo hi : Int), (0 ≤ i ∧ i < 3) → rd_L1 [a, b, c] i = li → rd [0, (-31), 1] i = lo → rd [6, 31, 12] i = hi →
      ephemerisref1_RecurError.l0 (j + 1) [a, b, c] 3 i = (if (li.length : Int) > 31 then some 2 else ephemerisref1_RecurError.l1 j i li lo hi [a, b, c] 3 i li (li.length : Int) 0) := by
    intro j i li lo hi hi' e4 e5 e6
    conv => lhs; unfold ephemerisref1_RecurError.l0
    simp only [Option.bind_some, List.length_cons, List.length_nil]
    rw [if_pos (by omega), if_pos (by omega), if_pos (by omega), e4, e5, e6, if_pos (show i < ((0 + 1 + 1 + 1 : Nat) : Int) from by omega), if_pos (show i < ((0 + 1 + 1 + 1 : Nat) : Int) from by omega)]
  rw [u k 0 a 0 6 (by omega) rfl rfl rfl, e1, show (0 : Int) + 1 = 1 from rfl, u k1 1 b (-31) 31 (by omega) rfl rfl rfl, e2, show (1 : Int) + 1 = 2 from rfl, u k2 2 c 1 12 (by omega) rfl rfl rfl, e3, l3]
/-- What the reference tells. -/
def refErr (u ev fr ct un : Int) (a b c : List Int) : Option Int :=
  if 1 ≤ u ∧ u ≤ 4 then (if (1 ≤ ev ∧ ev ≤ 1000) ∧ (-4000000 ≤ fr ∧ fr ≤ 4000000) ∧ (-4000000 ≤ un ∧ un ≤ 4000000) ∧ fr ≤ un ∧ (0 ≤ ct ∧ ct ≤ 1000) then
    orGo (listErr false 0 6 a) (orGo (listErr true (-31) 31 b) (orGo (listErr false 1 12 c) (some 0))) else some 3) else some 1
theorem ephemerisref1_RecurError_f (u ev fr ct un : Int) (a b c : List Int) (k : Nat) (hk : 9001 ≤ k) : ephemerisref1_RecurError.f k u ev fr ct un a b c = refErr u ev fr ct un a b c := by
  obtain ⟨k, rfl⟩ : ∃ m, k = m + 1 := ⟨k - 1, by omega⟩
  have ht : ephemerisref1_RecurError.j0 (k + 1) true u ev fr ct un a b c = some 3 := by simp only [ephemerisref1_RecurError.j0, if_true]
  have hf : ephemerisref1_RecurError.j0 (k + 1) false u ev fr ct un a b c = ephemerisref1_RecurError.l0 k [a, b, c] 3 0 := by
    simp only [ephemerisref1_RecurError.j0, Bool.false_eq_true, if_false, Option.bind_some, List.length_cons, List.length_nil]
    rfl
  unfold ephemerisref1_RecurError.f refErr
  rw [ephemerisref1_In_f, ephemerisref1_In_f, ephemerisref1_Day_f, ephemerisref1_Day_f, ephemerisref1_In_f]
  simp only [Option.bind_some, decide_eq_true_eq]
  by_cases h1 : 1 ≤ u ∧ u ≤ 4
  · rw [if_pos h1, if_pos h1]
    by_cases h2 : 1 ≤ ev ∧ ev ≤ 1000
    · rw [if_pos h2]
      by_cases h3 : -4000000 ≤ fr ∧ fr ≤ 4000000
      · rw [if_pos h3]
        by_cases h4 : -4000000 ≤ un ∧ un ≤ 4000000
        · rw [if_pos h4]
          by_cases h5 : un < fr
          · have h9 : ¬ ((1 ≤ ev ∧ ev ≤ 1000) ∧ (-4000000 ≤ fr ∧ fr ≤ 4000000) ∧ (-4000000 ≤ un ∧ un ≤ 4000000) ∧ fr ≤ un ∧ (0 ≤ ct ∧ ct ≤ 1000)) := by omega
            rw [if_pos h5, ht, if_neg h9]
          · rw [if_neg h5]
            by_cases h6 : 0 ≤ ct ∧ ct ≤ 1000
            · have h9 : (1 ≤ ev ∧ ev ≤ 1000) ∧ (-4000000 ≤ fr ∧ fr ≤ 4000000) ∧ (-4000000 ≤ un ∧ un ≤ 4000000) ∧ fr ≤ un ∧ (0 ≤ ct ∧ ct ≤ 1000) := by omega
              rw [decide_eq_true h6, Bool.not_true, hf, if_pos h9, recurError_l0 a b c k (by omega)]
            · have h9 : ¬ ((1 ≤ ev ∧ ev ≤ 1000) ∧ (-4000000 ≤ fr ∧ fr ≤ 4000000) ∧ (-4000000 ≤ un ∧ un ≤ 4000000) ∧ fr ≤ un ∧ (0 ≤ ct ∧ ct ≤ 1000)) := by omega
              rw [decide_eq_false h6, Bool.not_false, ht, if_neg h9]
        · have h9 : ¬ ((1 ≤ ev ∧ ev ≤ 1000) ∧ (-4000000 ≤ fr ∧ fr ≤ 4000000) ∧ (-4000000 ≤ un ∧ un ≤ 4000000) ∧ fr ≤ un ∧ (0 ≤ ct ∧ ct ≤ 1000)) := by omega
          rw [if_neg h4, ht, if_neg h9]
      · have h9 : ¬ ((1 ≤ ev ∧ ev ≤ 1000) ∧ (-4000000 ≤ fr ∧ fr ≤ 4000000) ∧ (-4000000 ≤ un ∧ un ≤ 4000000) ∧ fr ≤ un ∧ (0 ≤ ct ∧ ct ≤ 1000)) := by omega
        rw [if_neg h3, ht, if_neg h9]
    · have h9 : ¬ ((1 ≤ ev ∧ ev ≤ 1000) ∧ (-4000000 ≤ fr ∧ fr ≤ 4000000) ∧ (-4000000 ≤ un ∧ un ≤ 4000000) ∧ fr ≤ un ∧ (0 ≤ ct ∧ ct ≤ 1000)) := by omega
      rw [if_neg h2, ht, if_neg h9]
  · rw [if_neg h1, if_neg h1]

theorem refErr_rec (u ev fr ct un : Int) (a b c : List Int) : refErr u ev fr ct un a b c = some (recErr u ev fr ct un a b c) := by
  unfold refErr recErr orGo
  by_cases h1 : 1 ≤ u ∧ u ≤ 4
  · rw [if_pos h1, if_pos h1]
    by_cases h2 : (1 ≤ ev ∧ ev ≤ 1000) ∧ (-4000000 ≤ fr ∧ fr ≤ 4000000) ∧ (-4000000 ≤ un ∧ un ≤ 4000000) ∧ fr ≤ un ∧ (0 ≤ ct ∧ ct ≤ 1000)
    · rw [if_pos h2, if_pos h2]
      by_cases h3 : listErr false 0 6 a = 0
      · rw [if_pos h3, if_pos h3]
        by_cases h4 : listErr true (-31) 31 b = 0
        · rw [if_pos h4, if_pos h4]
          by_cases h5 : listErr false 1 12 c = 0
          · rw [if_pos h5, h5]
          · rw [if_neg h5]
        · rw [if_neg h4, if_neg h4]
      · rw [if_neg h3, if_neg h3]
    · rw [if_neg h2, if_neg h2]
  · rw [if_neg h1, if_neg h1]
theorem ephemerislaw1_recurError_f (u ev fr ct un : Int) (a b c : List Int) (lo hi : Int) (k : Nat) (hk : 9010 ≤ k) : ephemerislaw1_recurError.f k u ev fr ct un a b c lo hi = some (daysErr (recErr u ev fr ct un a b c) lo hi fr) := by
  obtain ⟨k, rfl⟩ : ∃ m, k = m + 1 := ⟨k - 1, by omega⟩
  unfold ephemerislaw1_recurError.f daysErr
  rw [ephemerisref1_RecurError_f u ev fr ct un a b c (k + 1) (by omega), refErr_rec, Option.bind_some, Option.bind_some, ephemerisref1_Day_f, ephemerisref1_Day_f, Option.bind_some, Option.bind_some]
  by_cases h0 : recErr u ev fr ct un a b c = 0
  · obtain ⟨hu, hev, hf, hun, hfu, hct, ha, hb, hc⟩ := recErr_ok h0
    rw [if_pos h0, if_pos h0]
    by_cases c1 : -4000000 ≤ lo ∧ lo ≤ 4000000
    · rw [decide_eq_true c1, if_pos rfl]
      by_cases c2 : -4000000 ≤ hi ∧ hi ≤ 4000000
      · rw [decide_eq_true c2, if_pos ⟨c1, c2⟩]
        simp only [ephemerislaw1_recurError.j0]
        rw [if_neg (by decide), w64_id (by omega) (by omega), w64_id (n := hi - lo) (by omega) (by omega)]
        by_cases c4 : lo > hi
        · rw [if_pos c4, if_pos c4]
        · rw [if_neg c4, if_neg c4]
          by_cases c5 : hi > fr + 40000
          · rw [if_pos c5, if_pos (.inl c5)]
          · rw [if_neg c5]
            by_cases c6 : hi - lo > 3000
            · rw [if_pos c6, if_pos (.inr c6)]
            · rw [if_neg c6, if_neg (fun h => h.elim c5 c6)]
      · rw [decide_eq_false c2, if_neg (fun h => c2 h.2)]
        simp only [ephemerislaw1_recurError.j0]
        rfl
    · rw [decide_eq_false c1, if_neg (c := (-4000000 ≤ lo ∧ lo ≤ 4000000) ∧ (-4000000 ≤ hi ∧ hi ≤ 4000000)) (fun h => c1 h.1), if_neg (by decide)]
      simp only [ephemerislaw1_recurError.j0]
      rfl
  · rw [if_neg h0, if_neg h0]

/-- The days between which the law asks. -/
theorem ephemerislaw1_near_f (u ev fr ct un : Int) (a b c : List Int) (lo hi : Int) (k : Nat) (hk : 9010 ≤ k) : ∃ p : Int × Int, ephemerislaw1_near.f k u ev fr ct un a b c lo hi = some p := by
  unfold ephemerislaw1_near.f
  rw [ephemerislaw1_recurError_f u ev fr ct un a b c lo hi k hk, Option.bind_some]
  split
  · split
    · exact ⟨_, rfl⟩
    · exact ⟨_, rfl⟩
  · exact ⟨_, rfl⟩

theorem ephemerisref1_Size_f {a : Int} (h0 : -9223372036854775808 ≤ a) (h1 : a ≤ 9223372036854775807) : ephemerisref1_Size.f a = some (ab a) := by
  unfold ephemerisref1_Size.f ab
  by_cases c : a < 0
  · rw [if_pos c, if_pos c, w64_id (n := a + 1) (by omega) (by omega), w64_id (n := -(a + 1)) (by omega) (by omega), u64_id (n := -(a + 1)) (by omega) (by omega), u64_id (by omega) (by omega)]
    congr 1; omega
  · rw [if_neg c, if_neg c, u64_id (by omega) (by omega)]

theorem ephemerisref1_Div_l0 (X Y : Int) (hX : 0 ≤ X) (hX1 : X < 18446744073709551616) (hY : 0 < Y) (hY1 : Y ≤ 9223372036854775808) :
    ∀ (n k : Nat), n ≤ 64 → n < k → ephemerisref1_Div.l0 k X Y (X / 2 ^ n / Y * 2 ^ n) (X / 2 ^ n % Y) ((n : Int) - 1) = some (X / Y, X % Y) := by
  intro n
  induction n with
  | zero =>
    intro k _ hk
    obtain ⟨k, rfl⟩ : ∃ m, k = m + 1 := ⟨k - 1, by omega⟩
    simp only [ephemerisref1_Div.l0]
    rw [if_neg (by omega)]
    simp
  | succ n ih =>
    intro k hn hk
    obtain ⟨k, rfl⟩ : ∃ m, k = m + 1 := ⟨k - 1, by omega⟩
    have ih := ih k (by omega) (by omega)
    have hhp := half_pow X n
    have hpow : (2 : Int) ^ (n + 1) = 2 * 2 ^ n := by rw [Int.pow_succ, Int.mul_comm]
    have hpp := pow_pos' n
    have hp63 := pow_le_63 n (by omega)
    have hd1 := div_pow_le X Y (n + 1) hX hY
    have hd0 := div_pow_le X Y n hX hY
    have hz : 0 ≤ X / 2 ^ n := Int.ediv_nonneg hX (by omega)
    obtain ⟨s1, s2⟩ := long_step (X / 2 ^ n) Y hz hY
    rw [← hhp] at s1 s2
    have r0 := Int.emod_nonneg (X / 2 ^ (n + 1)) (b := Y) (by omega)
    have r1 := Int.emod_lt_of_pos (X / 2 ^ (n + 1)) hY
    have hshr : shr .u64 X ((n : Int) + 1 - 1) = X / 2 ^ n := by
      rw [show (n : Int) + 1 - 1 = n from by omega]; exact shr_pow X n (by omega)
    have hshl : shl .u64 1 ((n : Int) + 1 - 1) = 2 ^ n := by
      rw [show (n : Int) + 1 - 1 = n from by omega]; exact shl_one n (by omega)
    have hzx : X / 2 ^ n ≤ X := Int.ediv_le_self _ hX
    have hmod : (X / 2 ^ (n + 1) / Y * 2 ^ (n + 1)) % 2 ^ (n + 1) = 0 := Int.mul_emod_left _ _
    have hor : Go.bits .or .u64 (X / 2 ^ (n + 1) / Y * 2 ^ (n + 1)) (2 ^ n) = X / 2 ^ (n + 1) / Y * 2 ^ (n + 1) + 2 ^ n :=
      or_join (n + 1) _ _ hd1.1 (by omega) hmod (by omega) (by omega) (by omega)
    have q2 : X / 2 ^ (n + 1) / Y * 2 ^ (n + 1) = 2 * (X / 2 ^ (n + 1) / Y) * 2 ^ n := by
      rw [hpow, Int.mul_comm 2 (X / (2 * 2 ^ n) / Y), Int.mul_assoc]
    generalize hR : X / 2 ^ (n + 1) % Y = R at *
    generalize hQ : X / 2 ^ (n + 1) / Y * 2 ^ (n + 1) = Q at *
    simp only [ephemerisref1_Div.l0]
    rw [show (((n + 1 : Nat) : Int) - 1) = (n : Int) + 1 - 1 from by omega]
    rw [if_pos (by omega), hshr, hshl, hor, w64_id (n := (n : Int) + 1 - 1 - 1) (by omega) (by omega), show (n : Int) + 1 - 1 - 1 = (n : Int) - 1 from by omega]
    rw [and_one _ hz (by omega), u64_id (n := R * 2) (by omega) (by omega)]
    have hbit := Int.emod_nonneg (X / 2 ^ n) (b := 2) (by omega)
    have hbit1 := Int.emod_lt_of_pos (X / 2 ^ n) (b := 2) (by omega)
    rw [or_join 1 (R * 2) _ (by omega) (by omega) (by simp only [Int.reducePow]; omega) hbit (by simp only [Int.reducePow]; omega) (by omega)]
    rw [if_neg (by omega)]
    rw [show R * 2 + X / 2 ^ n % 2 = 2 * R + X / 2 ^ n % 2 from by omega]
    by_cases c : Y ≤ 2 * R + X / 2 ^ n % 2
    · rw [if_pos c, u64_id (by omega) (by omega)]
      have e := s1 c
      rw [e.1, e.2, Int.add_mul, Int.one_mul, ← q2] at ih
      exact ih
    · rw [if_neg c]
      have e := s2 c
      rw [e.1, e.2, ← q2] at ih
      exact ih
theorem ephemerisref1_Div_f {a b : Int} (k : Nat) (hk : 65 ≤ k) (ha : -9223372036854775808 ≤ a) (ha1 : a ≤ 9223372036854775807) (hb : -9223372036854775808 ≤ b) (hb1 : b ≤ 9223372036854775807) : ephemerisref1_Div.f k a b = some (divs a b) := by
  unfold ephemerisref1_Div.f
  by_cases c : b = 0
  · rw [if_pos c]; unfold divs; rw [if_pos c]
  rw [if_neg c, ephemerisref1_Size_f ha ha1, ephemerisref1_Size_f hb hb1]
  simp only [Option.bind_some]
  have hX := ab_nonneg a
  have hX1 := ab_le ha ha1
  have hY1 := ab_le hb hb1
  have hY : 0 < ab b := by unfold ab; split <;> omega
  have h64 := ephemerisref1_Div_l0 (ab a) (ab b) hX (by omega) hY hY1 64 k (by omega) (by omega)
  have hz : ab a / 2 ^ 64 = 0 := Int.ediv_eq_zero_of_lt hX (by simp only [Int.reducePow]; omega)
  rw [hz] at h64
  simp only [Int.zero_ediv, Int.zero_mul, Int.zero_emod] at h64
  rw [show (((64 : Nat) : Int) - 1) = 63 from by omega] at h64
  rw [h64]
  simp only [Option.bind_some, Option.some.injEq]
  have h1 := Int.mul_ediv_add_emod (ab a) (ab b)
  have h2 := Int.emod_nonneg (ab a) (b := ab b) (by omega)
  have h3 := Int.emod_lt_of_pos (ab a) hY
  have h4 : ab a / ab b ≤ ab a := Int.ediv_le_self _ hX
  have h5 : 0 ≤ ab a / ab b := Int.ediv_nonneg hX (by omega)
  have h6 : 2 ≤ ab b → ab a / ab b ≤ 4611686018427387904 := fun h => by
    have : ab a / ab b ≤ ab a / 2 := by
      have := Int.ediv_le_ediv (c := 2) (by omega) (a := ab a / ab b * 2) (b := ab a) (by
        have : ab a / ab b * 2 ≤ ab a / ab b * ab b := Int.mul_le_mul_of_nonneg_left h h5
        rw [Int.mul_comm (ab b)] at h1
        omega)
      omega
    omega
  have h7 : ab b = 1 → ab a / ab b = ab a ∧ ab a % ab b = 0 := fun h => by rw [h]; omega
  have uniq : ∀ {q r : Int}, a = b * q + r → (0 < b → 0 ≤ r ∧ r < b) → (b < 0 → b < r ∧ r ≤ 0) → ¬ (a = -9223372036854775808 ∧ b = -1) → divs a b = (q, r, 0) := by
    intro q r e1 e2 e3 e4
    have := fd_uniq e1 e2 e3 c
    unfold divs
    rw [if_neg c, if_neg e4, this.1, this.2]
  generalize hq : ab a / ab b = q at *
  generalize hr : ab a % ab b = r at *
  clear h64 hz
  have eY : ∀ s : Int, (-(ab b)) * s = -(ab b * s) := fun s => by rw [Int.neg_mul]
  by_cases sa : a < 0 <;> by_cases sb : b < 0
  · have xa : a = -(ab a) := by unfold ab; rw [if_pos sa]; omega
    have xb : b = -(ab b) := by unfold ab; rw [if_pos sb]; omega
    simp only [ephemerisref1_Div.e0, ephemerisref1_Div.e1, sa, sb, decide_true, bne_self_eq_false, Bool.false_eq_true, false_and, if_false, true_and, if_true]
    by_cases c2 : q > 9223372036854775807
    · rw [if_pos c2]
      unfold divs
      have : ab b = 1 := by
        by_cases h : 2 ≤ ab b
        · have := h6 h; omega
        · omega
      rw [if_neg c, if_pos (by omega)]
    · rw [if_neg c2, w64_id (by omega) (by omega), u64_def, w64_def]
      rw [uniq (q := q) (r := -r) (by rw [xb, eY]; omega) (by omega) (by omega) (fun h => by have := h7 (by omega); omega)]
      congr 2; omega
  · have xa : a = -(ab a) := by unfold ab; rw [if_pos sa]; omega
    have xb : b = ab b := by unfold ab; rw [if_neg sb]
    simp only [ephemerisref1_Div.e0, ephemerisref1_Div.e1, sa, sb, decide_true, decide_false, Bool.bne_false, Bool.false_eq_true, true_and, if_true, Bool.true_eq_false, false_and, if_false]
    by_cases c2 : r = 0
    · rw [if_neg (fun h => h c2), u64_def, w64_def, w64_id (by omega) (by omega)]
      rw [uniq (q := -q) (r := 0) (by rw [xb, Int.mul_neg]; omega) (by omega) (by omega) (by omega)]
      rw [c2]
      congr 1; omega
    · rw [if_pos c2, u64_id (n := q + 1) (by omega) (by omega), u64_id (n := ab b - r) (by omega) (by omega), u64_def, w64_def, w64_id (by omega) (by omega)]
      have : q ≤ 9223372036854775807 := by
        by_cases h : 2 ≤ ab b
        · have := h6 h; omega
        · have := h7 (by omega); omega
      have eb : b * q = ab b * q := by rw [← xb]
      rw [uniq (q := -(q + 1)) (r := ab b - r) (by rw [Int.mul_neg, Int.mul_add, Int.mul_one, eb]; omega) (by omega) (by omega) (by omega)]
      congr 1; omega
  · have xa : a = ab a := by unfold ab; rw [if_neg sa]
    have xb : b = -(ab b) := by unfold ab; rw [if_pos sb]; omega
    simp only [ephemerisref1_Div.e0, ephemerisref1_Div.e1, sa, sb, decide_true, decide_false, Bool.bne_true, Bool.not_false, Bool.false_eq_true, true_and, if_true, Bool.true_eq_false, false_and, if_false]
    by_cases c2 : r = 0
    · rw [if_neg (fun h => h c2), u64_def, w64_def, u64_def, w64_def]
      rw [uniq (q := -q) (r := 0) (by rw [xb, eY, Int.mul_neg]; omega) (by omega) (by omega) (by omega)]
      rw [c2]
      congr 1
      omega
    · rw [if_pos c2, u64_id (n := q + 1) (by omega) (by omega), u64_id (n := ab b - r) (by omega) (by omega), u64_def, w64_def, u64_def, w64_def]
      have eb := eY q
      rw [← xb] at eb
      rw [uniq (q := -(q + 1)) (r := -(ab b - r)) (by rw [Int.mul_neg, Int.mul_add, Int.mul_one, eb]; omega) (by omega) (by omega) (by omega)]
      congr 1
      · omega
      · congr 1; omega
  · have xa : a = ab a := by unfold ab; rw [if_neg sa]
    have xb : b = ab b := by unfold ab; rw [if_neg sb]
    simp only [ephemerisref1_Div.e0, ephemerisref1_Div.e1, sa, sb, decide_false, bne_self_eq_false, Bool.false_eq_true, false_and, if_false, true_and]
    rw [if_neg (by omega), w64_id (by omega) (by omega), w64_id (by omega) (by omega)]
    rw [uniq (q := q) (r := r) (by rw [xb]; omega) (by omega) (by omega) (by omega)]

theorem ephemerisref1_Mod_f {a b : Int} (k : Nat) (hk : 65 ≤ k) (ha : -9223372036854775808 ≤ a) (ha1 : a ≤ 9223372036854775807) (hb : 0 < b) (hb1 : b ≤ 9223372036854775807) : ephemerisref1_Mod.f k a b = some (a % b) := by
  unfold ephemerisref1_Mod.f
  rw [ephemerisref1_Div_f k hk ha ha1 (by omega) hb1, divs_pos hb]
  rfl

theorem ephemerisref1_Floor_f {a b : Int} (k : Nat) (hk : 65 ≤ k) (ha : -9223372036854775808 ≤ a) (ha1 : a ≤ 9223372036854775807) (hb : 0 < b) (hb1 : b ≤ 9223372036854775807) : ephemerisref1_Floor.f k a b = some (a / b) := by
  unfold ephemerisref1_Floor.f
  rw [ephemerisref1_Div_f k hk ha ha1 (by omega) hb1, divs_pos hb]
  rfl

theorem ephemerisref1_Week_f {x : Int} (k : Nat) (hk : 65 ≤ k) (h0 : -4000000000000 ≤ x) (h1 : x ≤ 4000000000000) : ephemerisref1_Week.f k x = some ((x + 6) % 7) := by
  unfold ephemerisref1_Week.f
  rw [w64_id (by omega) (by omega), ephemerisref1_Mod_f k hk (by omega) (by omega) (by omega) (by omega)]
  rfl

theorem ephemerisref1_Greg_f (day : Int) (h : -1000000000000 ≤ day ∧ day ≤ 1000000000000) (k : Nat) (hk : 65 ≤ k) : ephemerisref1_Greg.f k day = some (greg day) := by
  obtain ⟨e, he⟩ : ∃ e, e = (day + 305) / 146097 := ⟨_, rfl⟩
  obtain ⟨n, hn⟩ : ∃ n, n = (day + 305) % 146097 := ⟨_, rfl⟩
  have hen : day + 305 - e * 146097 = n := by omega
  have hb : (0 ≤ n ∧ n ≤ 146096) ∧ (-10000000 ≤ e ∧ e ≤ 10000000) := by omega
  obtain ⟨⟨n0, n1⟩, e0, e1⟩ := hb
  obtain ⟨d, q, y3, s, b1, b2, b3, h1, h2, h3, h4, hy⟩ := era_split n n0 n1
  have hr := march_rest n d q y3 s b1 b2 b3 h1
  unfold ephemerisref1_Greg.f greg
  rw [w64_id (n := day + 305) (by omega) (by omega), ephemerisref1_Floor_f k hk (by omega) (by omega) (by omega) (by omega), Option.bind_some]
  simp only [← he, ← hn]
  have g2 : wrap64 (e * 146097) = e * 146097 := w64_id (by omega) (by omega)
  have g3 : wrap64 (day + 305 - e * 146097) = n := by rw [hen]; exact w64_id (by omega) (by omega)
  clear he hn
  rw [g2, g3]
  have t1 : Int.tdiv n 1460 = n / 1460 := Int.tdiv_eq_ediv_of_nonneg n0
  have t2 : Int.tdiv n 36524 = n / 36524 := Int.tdiv_eq_ediv_of_nonneg n0
  have t3 : Int.tdiv n 146096 = n / 146096 := Int.tdiv_eq_ediv_of_nonneg n0
  have q1 : 0 ≤ n / 1460 ∧ n / 1460 ≤ 101 := by clear hy hr; omega
  have q2 : 0 ≤ n / 36524 ∧ n / 36524 ≤ 4 := by clear hy hr; omega
  have q3 : 0 ≤ n / 146096 ∧ n / 146096 ≤ 1 := by clear hy hr; omega
  have q4 : 0 ≤ n - n / 1460 + n / 36524 - n / 146096 := by clear hy hr; omega
  rw [t1, t2, t3]
  generalize n / 1460 = c1 at *
  generalize n / 36524 = c2 at *
  generalize n / 146096 = c3 at *
  clear t1 t2 t3
  have w1 : wrap64 c1 = c1 := w64_id (by omega) (by omega)
  have w2 : wrap64 c2 = c2 := w64_id (by omega) (by omega)
  have w3 : wrap64 c3 = c3 := w64_id (by omega) (by omega)
  have w4 : wrap64 (n - c1) = n - c1 := w64_id (by omega) (by omega)
  have w5 : wrap64 (n - c1 + c2) = n - c1 + c2 := w64_id (by omega) (by omega)
  have w6 : wrap64 (n - c1 + c2 - c3) = n - c1 + c2 - c3 := w64_id (by omega) (by omega)
  have t4 : Int.tdiv (n - c1 + c2 - c3) 365 = 100 * d + 4 * q + y3 := by rw [Int.tdiv_eq_ediv_of_nonneg q4, hy]
  rw [w1, w2, w3, w4, w5, w6, t4]
  simp only [hy]
  clear w1 w2 w3 w4 w5 w6 t4 hy q1 q2 q3 q4
  generalize hY : 100 * d + 4 * q + y3 = Y at *
  have hY0 : 0 ≤ Y ∧ Y ≤ 399 := by omega
  have t5 : Int.tdiv Y 4 = Y / 4 := Int.tdiv_eq_ediv_of_nonneg hY0.1
  have t6 : Int.tdiv Y 100 = Y / 100 := Int.tdiv_eq_ediv_of_nonneg hY0.1
  have v1 : wrap64 Y = Y := w64_id (by omega) (by omega)
  have v2 : wrap64 (365 * Y) = 365 * Y := w64_id (by omega) (by omega)
  have v3 : wrap64 (Y / 4) = Y / 4 := w64_id (by omega) (by omega)
  have v4 : wrap64 (Y / 100) = Y / 100 := w64_id (by omega) (by omega)
  have v5 : wrap64 (365 * Y + Y / 4) = 365 * Y + Y / 4 := w64_id (by omega) (by omega)
  have v6 : wrap64 (365 * Y + Y / 4 - Y / 100) = 365 * Y + Y / 4 - Y / 100 := w64_id (by omega) (by omega)
  have v7 : wrap64 (n - (365 * Y + Y / 4 - Y / 100)) = s := by rw [hr]; exact w64_id (by omega) (by omega)
  rw [v1, v2, t5, t6, v3, v4, v5, v6, v7, hr]
  clear v1 v2 v3 v4 v5 v6 v7 hr t5 t6
  obtain ⟨m, hm⟩ : ∃ m, m = (5 * s + 2) / 153 := ⟨_, rfl⟩
  obtain ⟨hm0, hms⟩ := march_month s m h2 h3 hm
  have x1 : wrap64 (5 * s) = 5 * s := w64_id (by omega) (by omega)
  have x2 : wrap64 (5 * s + 2) = 5 * s + 2 := w64_id (by omega) (by omega)
  have x3 : Int.tdiv (5 * s + 2) 153 = m := by rw [hm]; exact Int.tdiv_eq_ediv_of_nonneg (by omega)
  have x4 : wrap64 m = m := w64_id (by omega) (by omega)
  have x5 : wrap64 (m + 3) = m + 3 := w64_id (by omega) (by omega)
  have x6 : wrap64 (153 * m) = 153 * m := w64_id (by omega) (by omega)
  have x7 : wrap64 (153 * m + 2) = 153 * m + 2 := w64_id (by omega) (by omega)
  have x8 : Int.tdiv (153 * m + 2) 5 = (153 * m + 2) / 5 := Int.tdiv_eq_ediv_of_nonneg (by omega)
  have x9 : wrap64 ((153 * m + 2) / 5) = (153 * m + 2) / 5 := w64_id (by omega) (by omega)
  have x10 : wrap64 (s - (153 * m + 2) / 5) = s - (153 * m + 2) / 5 := w64_id (by omega) (by omega)
  have x11 : wrap64 (s - (153 * m + 2) / 5 + 1) = s - (153 * m + 2) / 5 + 1 := w64_id (by omega) (by omega)
  have x12 : wrap64 (400 * e) = 400 * e := w64_id (by omega) (by omega)
  have x13 : wrap64 (Y + 400 * e) = Y + 400 * e := w64_id (by omega) (by omega)
  have x14 : wrap64 (Y + 400 * e + 1) = Y + 400 * e + 1 := w64_id (by omega) (by omega)
  have x15 : wrap64 (m + 3 - 12) = m + 3 - 12 := w64_id (by omega) (by omega)
  rw [← hm]
  clear hm
  simp only [x1, x2, x3, x4, x5, x6, x7, x8, x9, x10, x11, x12, x13, x14, x15]
  by_cases c : m + 3 > 12
  · rw [if_pos c, if_pos c]
  · rw [if_neg c, if_neg c]

theorem ephemerisref1_has_l0 (l : List Int) (x : Int) (hl : l.length ≤ 9223372036854775806) : ∀ (d i k : Nat), i + d = l.length → d < k →
    ephemerisref1_has.l0 k x l (l.length : Int) (i : Int) = some (decide (x ∈ l.drop i)) := by
  intro d
  induction d with
  | zero =>
    intro i k hi hk
    obtain ⟨k, rfl⟩ : ∃ m, k = m + 1 := ⟨k - 1, by omega⟩
    simp only [ephemerisref1_has.l0]
    rw [if_neg (by omega), List.drop_of_length_le (by omega)]; simp
  | succ d ih =>
    intro i k hi hk
    obtain ⟨k, rfl⟩ : ∃ m, k = m + 1 := ⟨k - 1, by omega⟩
    have hlt : i < l.length := by omega
    simp only [ephemerisref1_has.l0]
    rw [if_pos (by omega), if_pos (by omega), if_pos (by omega), rd_get l i hlt, List.drop_eq_getElem_cons hlt]
    by_cases c : l[i] = x
    · rw [if_pos c]; simp [c]
    · rw [if_neg c, w64_id (by omega) (by omega)]
      have := ih (i + 1) k (by omega) (by omega)
      rw [show ((i : Int) + 1) = ((i + 1 : Nat) : Int) from by omega, this]
      congr 1
      simp only [decide_eq_decide, List.mem_cons]
      exact ⟨.inr, fun h => h.elim (fun h => absurd h.symm c) id⟩
theorem ephemerisref1_has_f (l : List Int) (x : Int) (hl : l.length ≤ 9223372036854775806) (k : Nat) (hk : l.length < k) : ephemerisref1_has.f k l x = some (decide (x ∈ l)) := by
  unfold ephemerisref1_has.f
  have := ephemerisref1_has_l0 l x hl l.length 0 k (by omega) hk
  rw [List.drop_zero] at this
  exact this

/-- The last condition of the reference. -/
def tailB (u fr : Int) (a b c : List Int) (m0 d0 m d day len : Int) : Bool :=
  if b = [] then (if a = [] then (if u = 2 then decide ((day + 6) % 7 = (fr + 6) % 7) else if u = 3 then decide (d = d0) else if u = 4 then (if d = d0 then (if c = [] then decide (m = m0) else true) else false) else true) else true) else decide (d ∈ b ∨ d - len - 1 ∈ b)
theorem recurFits_l0 (day u ev fr ct un : Int) (a b c : List Int) (y0 m0 d0 : Int) (hy : -4000000 ≤ day ∧ day ≤ 4000000) (hf : -4000000 ≤ fr ∧ fr ≤ 4000000) (ha : a.length ≤ 31) (hb : b.length ≤ 31) :
    ∀ (r : Nat) (j : Int) (k : Nat), 0 ≤ j → (greg day).2.2 + j + r = lenM (greg day).1 (greg day).2.1 → r + 80 ≤ k →
    ephemerisref1_RecurFits.l0 k day (-1 - j) (day + 1 + j) u ev fr ct un a b c y0 m0 d0 (greg day).1 (greg day).2.1 (greg day).2.2 = some (tailB u fr a b c m0 d0 (greg day).2.1 (greg day).2.2 day (lenM (greg day).1 (greg day).2.1)) := by
  have gb := greg_bounds day (by omega)
  intro r
  induction r with
  | zero =>
    intro j k hj he hk
    obtain ⟨k, rfl⟩ : ∃ m, k = m + 1 := ⟨k - 1, by omega⟩
    have hne := greg_end day
    rw [show lenM (greg day).1 (greg day).2.1 - (greg day).2.2 = j from by omega, show day + j + 1 = day + 1 + j from by omega] at hne
    have e8 : -1 - j = (greg day).2.2 - lenM (greg day).1 (greg day).2.1 - 1 := by omega
    simp only [ephemerisref1_RecurFits.l0, len_some, ite_not]
    rw [ephemerisref1_Greg_f _ (by omega) k (by omega), Option.bind_some, if_neg hne, e8]
    unfold tailB
    by_cases hb0 : b = []
    · rw [if_pos hb0, if_pos hb0]
      by_cases ha0 : a = []
      · rw [if_pos ha0, if_pos ha0]
        by_cases u2 : u = 2
        · rw [if_pos u2, if_pos u2, ephemerisref1_Week_f k (by omega) (by omega) (by omega), Option.bind_some, ephemerisref1_Week_f k (by omega) (by omega) (by omega), Option.bind_some, beq_dec]
        rw [if_neg u2, if_neg u2]
        by_cases u3 : u = 3
        · rw [if_pos u3, if_pos u3, beq_dec]
        rw [if_neg u3, if_neg u3]
        by_cases u4 : u = 4
        · rw [if_pos u4, if_pos u4]
          by_cases hd : (greg day).2.2 = d0
          · rw [if_pos hd, if_pos hd]
            by_cases hc0 : c = []
            · rw [if_pos hc0, if_pos hc0, beq_dec]
            · rw [if_neg hc0, if_neg hc0]
          · rw [if_neg hd, if_neg hd]
        · rw [if_neg u4, if_neg u4]
      · rw [if_neg ha0, if_neg ha0]
    · rw [if_neg hb0, if_neg hb0, ephemerisref1_has_f b _ (by omega) k (by omega), Option.bind_some]
      by_cases g : (greg day).2.2 ∈ b
      · rw [decide_eq_true g, if_pos rfl, decide_eq_true (.inl g)]
      · rw [decide_eq_false g, if_neg (by decide), ephemerisref1_has_f b _ (by omega) k (by omega), Option.bind_some]
        congr 1
        simp only [decide_eq_decide]
        exact ⟨.inr, fun h => h.elim (fun h => absurd h g) id⟩
  | succ r ih =>
    intro j k hj he hk
    obtain ⟨k, rfl⟩ : ∃ m, k = m + 1 := ⟨k - 1, by omega⟩
    have hin := greg_in day (j + 1) (by omega) (by omega)
    rw [show day + (j + 1) = day + 1 + j from by omega] at hin
    conv => lhs; unfold ephemerisref1_RecurFits.l0
    rw [ephemerisref1_Greg_f _ (by omega) k (by omega), Option.bind_some, hin, if_pos rfl, w64_id (n := -1 - j - 1) (by omega) (by omega), w64_id (n := day + 1 + j + 1) (by omega) (by omega)]
    have := ih (j + 1) k (by omega) (by omega) (by omega)
    rw [show -1 - (j + 1) = -1 - j - 1 from by omega, show day + 1 + (j + 1) = day + 1 + j + 1 from by omega] at this
    exact this
/-- What the reference says of a day. -/
def refB (u ev fr un : Int) (a b c : List Int) (day : Int) : Bool :=
  decide (fr ≤ day ∧ day ≤ un) && (decide (unitN u day fr (greg fr).1 (greg fr).2.1 (greg day).1 (greg day).2.1 % ev = 0) && (decide (c = [] ∨ (greg day).2.1 ∈ c) && (decide (a = [] ∨ (day + 6) % 7 ∈ a) &&
    tailB u fr a b c (greg fr).2.1 (greg fr).2.2 (greg day).2.1 (greg day).2.2 day (lenM (greg day).1 (greg day).2.1))))
theorem recurFits_j0 (day u ev fr ct un : Int) (a b c : List Int) (y0 m0 d0 : Int) (z : Bool) (hy : -4000000 ≤ day ∧ day ≤ 4000000) (hf : -4000000 ≤ fr ∧ fr ≤ 4000000) (ha : a.length ≤ 31) (hb : b.length ≤ 31) (k : Nat) (hk : 150 ≤ k) :
    ephemerisref1_RecurFits.j0 k day z u ev fr ct un a b c y0 m0 d0 (greg day).1 (greg day).2.1 (greg day).2.2 = some (!z && tailB u fr a b c m0 d0 (greg day).2.1 (greg day).2.2 day (lenM (greg day).1 (greg day).2.1)) := by
  obtain ⟨k, rfl⟩ : ∃ m, k = m + 1 := ⟨k - 1, by omega⟩
  have gb := greg_bounds day (by omega)
  simp only [ephemerisref1_RecurFits.j0]
  cases z with
  | true => simp
  | false =>
    rw [if_neg (by decide), Bool.not_false, Bool.true_and, w64_id (by omega) (by omega)]
    have := recurFits_l0 day u ev fr ct un a b c y0 m0 d0 hy hf ha hb (lenM (greg day).1 (greg day).2.1 - (greg day).2.2).toNat 0 k (by omega) (by omega) (by omega)
    rw [show (-1 : Int) - 0 = -1 from rfl, Int.add_zero] at this
    exact this
theorem ephemerisref1_RecurFits_f (u ev fr ct un : Int) (a b c : List Int) (day : Int) (hu : 1 ≤ u ∧ u ≤ 4) (he : 1 ≤ ev ∧ ev ≤ 1000) (hy : -4000000 ≤ day ∧ day ≤ 4000000) (hf : -4000000 ≤ fr ∧ fr ≤ 4000000) (ha : a.length ≤ 31) (hb : b.length ≤ 31) (hc : c.length ≤ 31) (k : Nat) (hk : 150 ≤ k) :
    ephemerisref1_RecurFits.f k u ev fr ct un a b c day = some (refB u ev fr un a b c day) := by
  have gb := greg_bounds day (by omega)
  have gf := greg_bounds fr (by omega)
  unfold ephemerisref1_RecurFits.f refB
  rw [ephemerisref1_In_f, Option.bind_some]
  by_cases h0 : fr ≤ day ∧ day ≤ un
  · rw [decide_eq_true h0, if_pos rfl, Bool.true_and, ephemerisref1_Greg_f fr (by omega) k (by omega), Option.bind_some, ephemerisref1_Greg_f day (by omega) k (by omega), Option.bind_some]
    rw [w64_id (n := day + 6) (by omega) (by omega), ephemerisref1_Floor_f k (by omega) (by omega) (by omega) (by omega) (by omega), Option.bind_some]
    rw [w64_id (n := fr + 6) (by omega) (by omega), ephemerisref1_Floor_f k (by omega) (by omega) (by omega) (by omega) (by omega), Option.bind_some, Option.bind_some]
    rw [w64_id (n := day - fr) (by omega) (by omega), w64_id (n := (day + 6) / 7 - (fr + 6) / 7) (by omega) (by omega), w64_id (n := (greg day).1 * 12) (by omega) (by omega), w64_id (n := (greg day).1 * 12 + (greg day).2.1) (by omega) (by omega)]
    rw [w64_id (n := (greg fr).1 * 12) (by omega) (by omega), w64_id (n := (greg fr).1 * 12 + (greg fr).2.1) (by omega) (by omega), w64_id (n := (greg day).1 * 12 + (greg day).2.1 - ((greg fr).1 * 12 + (greg fr).2.1)) (by omega) (by omega), w64_id (n := (greg day).1 - (greg fr).1) (by omega) (by omega)]
    have hrd : rd [0, day - fr, (day + 6) / 7 - (fr + 6) / 7, (greg day).1 * 12 + (greg day).2.1 - ((greg fr).1 * 12 + (greg fr).2.1), (greg day).1 - (greg fr).1] u = unitN u day fr (greg fr).1 (greg fr).2.1 (greg day).1 (greg day).2.1 := by
      have : u = 1 ∨ u = 2 ∨ u = 3 ∨ u = 4 := by omega
      unfold unitN
      rcases this with rfl | rfl | rfl | rfl
      · rfl
      · show (day + 6) / 7 - (fr + 6) / 7 = _; rw [if_neg (by decide), if_pos rfl]; omega
      · show (greg day).1 * 12 + (greg day).2.1 - ((greg fr).1 * 12 + (greg fr).2.1) = _; rw [if_neg (by decide), if_neg (by decide), if_pos rfl]; omega
      · rfl
    have hub : -100000000 ≤ unitN u day fr (greg fr).1 (greg fr).2.1 (greg day).1 (greg day).2.1 ∧ unitN u day fr (greg fr).1 (greg fr).2.1 (greg day).1 (greg day).2.1 ≤ 100000000 := by
      unfold unitN
      split
      · omega
      · split
        · omega
        · split <;> omega
    rw [if_pos (by omega), if_pos (by simp only [List.length_cons, List.length_nil]; omega), hrd]
    generalize unitN u day fr (greg fr).1 (greg fr).2.1 (greg day).1 (greg day).2.1 = n at *
    rw [ephemerisref1_Mod_f k (by omega) (by omega) (by omega) (by omega) (by omega), Option.bind_some]
    simp only [len_some, ite_not]
    by_cases h1 : n % ev = 0
    · rw [if_pos h1, decide_eq_true h1, Bool.true_and]
      have hw : (if a = [] then ephemerisref1_RecurFits.j0 k day false u ev fr ct un a b c (greg fr).1 (greg fr).2.1 (greg fr).2.2 (greg day).1 (greg day).2.1 (greg day).2.2 else (ephemerisref1_Week.f k day).bind fun t283 => (ephemerisref1_has.f k a t283).bind fun t284 => ephemerisref1_RecurFits.j0 k day (!t284) u ev fr ct un a b c (greg fr).1 (greg fr).2.1 (greg fr).2.2 (greg day).1 (greg day).2.1 (greg day).2.2)
          = some (decide (a = [] ∨ (day + 6) % 7 ∈ a) && tailB u fr a b c (greg fr).2.1 (greg fr).2.2 (greg day).2.1 (greg day).2.2 day (lenM (greg day).1 (greg day).2.1)) := by
        by_cases ha0 : a = []
        · rw [if_pos ha0, recurFits_j0 day u ev fr ct un a b c _ _ _ false hy hf ha hb k (by omega), decide_eq_true (p := a = [] ∨ (day + 6) % 7 ∈ a) (.inl ha0)]; rfl
        · rw [if_neg ha0, ephemerisref1_Week_f k (by omega) (by omega) (by omega), Option.bind_some, ephemerisref1_has_f a _ (by omega) k (by omega), Option.bind_some, recurFits_j0 day u ev fr ct un a b c _ _ _ _ hy hf ha hb k (by omega), Bool.not_not]
          congr 2
          simp [ha0]
      by_cases hc0 : c = []
      · rw [if_pos hc0, hw, decide_eq_true (p := c = [] ∨ (greg day).2.1 ∈ c) (.inl hc0)]; rfl
      · rw [if_neg hc0, ephemerisref1_has_f c _ (by omega) k (by omega), Option.bind_some]
        by_cases hm : (greg day).2.1 ∈ c
        · rw [decide_eq_true hm, if_pos rfl, hw, decide_eq_true (p := c = [] ∨ (greg day).2.1 ∈ c) (.inr hm)]; rfl
        · rw [decide_eq_false hm, if_neg (by decide), recurFits_j0 day u ev fr ct un a b c _ _ _ true hy hf ha hb k (by omega), decide_eq_false (p := c = [] ∨ (greg day).2.1 ∈ c) (fun h => h.elim hc0 hm)]; rfl
    · rw [if_neg h1, decide_eq_false h1]; rfl
  · rw [decide_eq_false h0, if_neg (by decide)]; rfl
/-- The code's conditions as lists, and the reference's, say the same of a day. -/
theorem fits_ref (u ev fr un : Int) (a b c : List Int) (day : Int) (hu : 1 ≤ u ∧ u ≤ 4) (hy : -4000000 ≤ day ∧ day ≤ 4000000) (hf : -4000000 ≤ fr ∧ fr ≤ 4000000) :
    fitsB u ev fr un (expl u fr a b c).1 (expl u fr a b c).2.1 (expl u fr a b c).2.2 (greg fr).1 (greg fr).2.1 (greg day).1 (greg day).2.1 (greg day).2.2 day (lenM (greg day).1 (greg day).2.1) = refB u ev fr un a b c day := by
  have gb := greg_bounds day (by omega)
  have gf := greg_bounds fr (by omega)
  unfold fitsB refB expl tailB
  rw [show (day - 1) % 7 = (day + 6) % 7 from by omega, show (fr - 1) % 7 = (fr + 6) % 7 from by omega]
  generalize unitN u day fr (greg fr).1 (greg fr).2.1 (greg day).1 (greg day).2.1 = n at *
  generalize (greg day).1 = y at *
  generalize (greg day).2.1 = m at *
  generalize (greg day).2.2 = d at *
  generalize (greg fr).2.1 = m0 at *
  generalize (greg fr).2.2 = d0 at *
  generalize lenM y m = len at *
  congr 2
  by_cases hab : a = [] ∧ b = []
  · obtain ⟨ha, hb⟩ := hab
    rw [if_pos ⟨ha, hb⟩, if_pos hb, if_pos ha, decide_eq_true (p := a = [] ∨ (day + 6) % 7 ∈ a) (.inl ha)]
    by_cases u2 : u = 2
    · rw [if_pos u2, if_pos u2]; subst hb; simp
    rw [if_neg u2, if_neg u2]
    by_cases u3 : u = 3
    · rw [if_pos u3, if_pos u3]; subst ha
      have : ¬ d - len - 1 = d0 := by omega
      simp [this]
    rw [if_neg u3, if_neg u3]
    by_cases u4 : u = 4
    · rw [if_pos u4, if_pos u4]; subst ha
      have : ¬ d - len - 1 = d0 := by omega
      by_cases hd : d = d0
      · subst hd
        by_cases hc : c = []
        · subst hc; simp
        · simp [hc]
      · simp [this, hd]
    · rw [if_neg u4, if_neg u4]; subst ha; subst hb; simp
  · rw [if_neg hab]
    by_cases hb : b = []
    · have ha : ¬ a = [] := fun h => hab ⟨h, hb⟩
      rw [if_pos hb, if_neg ha]; simp [hb]
    · rw [if_neg hb]; simp [hb]

/-- The days of the reference: all days are gone through. -/
def pickR (fit : Int → Bool) (ct lo : Int) : Nat → Int → Int → List Int
  | 0, _, _ => []
  | d + 1, day, n => if fit day = true then (if (ct = 0 ∨ n + 1 ≤ ct) ∧ lo ≤ day then day :: pickR fit ct lo d (day + 1) (n + 1) else pickR fit ct lo d (day + 1) (n + 1)) else pickR fit ct lo d (day + 1) n
theorem pickR_over (fit : Int → Bool) (ct lo : Int) (h : 0 < ct) : ∀ (d : Nat) (day n : Int), ct ≤ n → pickR fit ct lo d day n = []
  | 0, _, _, _ => rfl
  | d + 1, day, n, hn => by
    unfold pickR
    rw [if_neg (c := (ct = 0 ∨ n + 1 ≤ ct) ∧ lo ≤ day) (by omega), pickR_over fit ct lo h d _ _ (by omega), pickR_over fit ct lo h d _ _ (by omega)]
    split <;> rfl
theorem pick_same (fit : Int → Bool) (ct lo : Int) (h : 0 ≤ ct) : ∀ (d : Nat) (day n : Int), pickD fit ct lo d day n = pickR fit ct lo d day n
  | 0, _, _ => rfl
  | d + 1, day, n => by
    unfold pickD pickR
    split
    · by_cases c : 0 < ct ∧ ct < n + 1
      · rw [if_pos c, if_neg (by omega), pickR_over fit ct lo c.1 d _ _ (by omega)]
      · rw [if_neg c, pick_same fit ct lo h d]
        by_cases c2 : lo ≤ day
        · rw [if_pos c2, if_pos (by omega)]
        · rw [if_neg c2, if_neg (by omega)]
    · exact pick_same fit ct lo h d _ _
theorem pickR_n (fit : Int → Bool) (lo : Int) : ∀ (d : Nat) (day n n' : Int), pickR fit 0 lo d day n = pickR fit 0 lo d day n'
  | 0, _, _, _ => rfl
  | d + 1, day, n, n' => by
    unfold pickR
    rw [pickR_n fit lo d _ (n + 1) (n' + 1), pickR_n fit lo d _ n n']
    simp only [true_or, true_and]
theorem pickR_skip (fit : Int → Bool) (lo : Int) : ∀ (j d : Nat) (day n n' : Int), j = 0 ∨ day + j ≤ lo → pickR fit 0 lo (j + d) day n = pickR fit 0 lo d (day + j) n'
  | 0, d, day, n, n', _ => by rw [Nat.zero_add, Int.natCast_zero, Int.add_zero]; exact pickR_n fit lo d day n n'
  | j + 1, d, day, n, n', h => by
    rw [show j + 1 + d = (j + d) + 1 from by omega]
    conv => lhs; unfold pickR
    have hn : ¬ (((0 : Int) = 0 ∨ n + 1 ≤ 0) ∧ lo ≤ day) := by omega
    rw [if_neg hn, pickR_skip fit lo j d (day + 1) (n + 1) n' (.inr (by omega)), pickR_skip fit lo j d (day + 1) n n' (.inr (by omega)), show day + 1 + (j : Int) = day + ((j + 1 : Nat) : Int) from by omega]
    split <;> rfl
theorem pickR_congr (f g : Int → Bool) (ct lo : Int) : ∀ (d : Nat) (day n : Int), (∀ x, day ≤ x → x < day + d → f x = g x) → pickR f ct lo d day n = pickR g ct lo d day n
  | 0, _, _, _ => rfl
  | d + 1, day, n, h => by
    unfold pickR
    rw [h day (by omega) (by omega), pickR_congr f g ct lo d (day + 1) (n + 1) (fun x h1 h2 => h x (by omega) (by omega)), pickR_congr f g ct lo d (day + 1) n (fun x h1 h2 => h x (by omega) (by omega))]
theorem recurList_l0 (lo hi u ev fr ct un : Int) (a b c : List Int) (hu : 1 ≤ u ∧ u ≤ 4) (he : 1 ≤ ev ∧ ev ≤ 1000) (hf : -4000000 ≤ fr ∧ fr ≤ 4000000) (ha : a.length ≤ 31) (hb : b.length ≤ 31) (hc : c.length ≤ 31) (hct : 0 ≤ ct ∧ ct ≤ 1000)
    (top : Int) (htop : mn hi un = top) (ht : top ≤ 4000000) :
    ∀ (D : Nat) (k : Nat) (out : List Int) (n day : Int), -4000000 ≤ day → day + D = top + 1 ∨ (D = 0 ∧ top < day) → (0 ≤ n ∧ n + D ≤ 100000) → out.length + D ≤ 100000 → D + 200 ≤ k →
    ephemerisref1_RecurList.l0 k lo hi out n day u ev fr ct un a b c = some (out ++ pickR (refB u ev fr un a b c) ct lo D day n) := by
  intro D
  induction D with
  | zero =>
    intro k out n day hd hD hn ho hk
    obtain ⟨k, rfl⟩ : ∃ m, k = m + 1 := ⟨k - 1, by omega⟩
    simp only [ephemerisref1_RecurList.l0]
    rw [htop, if_neg (by omega)]
    unfold pickR
    rw [List.append_nil]
  | succ D ih =>
    intro k out n day hd hD hn ho hk
    obtain ⟨k, rfl⟩ : ∃ m, k = m + 1 := ⟨k - 1, by omega⟩
    have hday : day ≤ top := by omega
    conv => lhs; unfold ephemerisref1_RecurList.l0
    rw [htop, if_pos hday, ephemerisref1_RecurFits_f u ev fr ct un a b c day hu he (by omega) hf ha hb hc k (by omega), Option.bind_some, w64_id (n := n + 1) (by omega) (by omega), w64_id (n := day + 1) (by omega) (by omega), if_pos (c := out.length < 17592186044416) (by omega)]
    unfold pickR
    have hstep : ∀ (n' : Int), (0 ≤ n' ∧ n' + D ≤ 100000) → ephemerisref1_RecurList.l0 k lo hi out n' (day + 1) u ev fr ct un a b c = some (out ++ pickR (refB u ev fr un a b c) ct lo D (day + 1) n') := fun n' h => ih k out n' (day + 1) (by omega) (by omega) h (by omega) (by omega)
    have hput : ephemerisref1_RecurList.l0 k lo hi (out ++ [day]) (n + 1) (day + 1) u ev fr ct un a b c = some (out ++ day :: pickR (refB u ev fr un a b c) ct lo D (day + 1) (n + 1)) := by
      rw [ih k (out ++ [day]) (n + 1) (day + 1) (by omega) (by omega) (by omega) (by rw [List.length_append, List.length_singleton]; omega) (by omega), List.append_assoc]
      rfl
    cases refB u ev fr un a b c day with
    | false =>
      rw [if_neg (by decide), if_neg (by decide)]
      exact hstep n (by omega)
    | true =>
      rw [if_pos rfl, if_pos rfl, hput, hstep (n + 1) (by omega)]
      by_cases c0 : ct = 0
      · rw [if_pos c0]
        by_cases c1 : day ≥ lo
        · rw [if_pos c1, if_pos ⟨.inl c0, c1⟩]
        · rw [if_neg c1, if_neg (fun h => c1 h.2)]
      · rw [if_neg c0]
        by_cases c2 : n + 1 ≤ ct
        · rw [if_pos c2]
          by_cases c1 : day ≥ lo
          · rw [if_pos c1, if_pos ⟨.inr c2, c1⟩]
          · rw [if_neg c1, if_neg (fun h => c1 h.2)]
        · rw [if_neg c2, if_neg (fun h => h.1.elim c0 c2)]
theorem ephemerisref1_RecurList_f (u ev fr ct un : Int) (a b c : List Int) (lo hi : Int) (h0 : recErr u ev fr ct un a b c = 0) (h1 : daysErr 0 lo hi fr = 0) (k : Nat) (hk : 60000 ≤ k) :
    ephemerisref1_RecurList.f k u ev fr ct un a b c lo hi = some (daysL u ev fr ct un a b c lo hi) := by
  obtain ⟨hu, hev, hf, hun, hfu, hct, ha, hb, hc⟩ := recErr_ok h0
  have hd : (-4000000 ≤ lo ∧ lo ≤ 4000000) ∧ (-4000000 ≤ hi ∧ hi ≤ 4000000) ∧ lo ≤ hi ∧ hi ≤ fr + 40000 ∧ hi - lo ≤ 3000 := by
    unfold daysErr at h1
    rw [if_pos rfl] at h1
    by_cases c1 : (-4000000 ≤ lo ∧ lo ≤ 4000000) ∧ (-4000000 ≤ hi ∧ hi ≤ 4000000)
    · rw [if_pos c1] at h1
      by_cases c2 : lo > hi
      · rw [if_pos c2] at h1; cases h1
      · rw [if_neg c2] at h1
        by_cases c3 : hi > fr + 40000 ∨ hi - lo > 3000
        · rw [if_pos c3] at h1; cases h1
        · omega
    · rw [if_neg c1] at h1; cases h1
  unfold ephemerisref1_RecurList.f daysL
  have hmm : mn hi un ≤ hi ∧ mn hi un ≤ un := by unfold mn; omega
  rw [recurList_l0 lo hi u ev fr ct un a b c hu hev hf ha hb hc hct (mn hi un) rfl (by omega) (mn hi un + 1 - fr).toNat k [] 0 fr hf.1 (by omega) (by omega) (by simp only [List.length_nil]; omega) (by omega), List.nil_append]
  congr 1
  have hfit : ∀ x, -4000000 ≤ x → x ≤ 4000000 → dayFit u ev fr un (expl u fr a b c).1 (expl u fr a b c).2.1 (expl u fr a b c).2.2 x = refB u ev fr un a b c x := fun x h1 h2 => fits_ref u ev fr un a b c x hu ⟨h1, h2⟩ hf
  rw [pick_same _ ct lo hct.1]
  by_cases c7 : ct > 0
  · rw [if_pos c7]
    exact (pickR_congr _ _ ct lo _ _ _ (fun x h1 h2 => hfit x (by omega) (by omega))).symm
  · rw [if_neg c7]
    obtain rfl : ct = 0 := by omega
    have hmx : lo ≤ mx lo fr ∧ fr ≤ mx lo fr ∧ (mx lo fr = lo ∨ mx lo fr = fr) := by unfold mx; omega
    rw [pickR_congr _ _ 0 lo _ _ 0 (fun x h1 h2 => hfit x (by omega) (by omega))]
    by_cases c8 : mx lo fr ≤ mn hi un + 1
    · have e := pickR_skip (refB u ev fr un a b c) lo (mx lo fr - fr).toNat (mn hi un + 1 - mx lo fr).toNat fr 0 0 (by rcases hmx.2.2 with h | h <;> rw [h] at c8 ⊢ <;> omega)
      rw [show (mx lo fr - fr).toNat + (mn hi un + 1 - mx lo fr).toNat = (mn hi un + 1 - fr).toNat from by omega, show fr + ((mx lo fr - fr).toNat : Int) = mx lo fr from by omega] at e
      exact e
    · have e := pickR_skip (refB u ev fr un a b c) lo (mn hi un + 1 - fr).toNat 0 fr 0 0 (by omega)
      rw [Nat.add_zero] at e
      rw [e, show (mn hi un + 1 - mx lo fr).toNat = 0 from by omega]
      rfl

theorem daysErr_zero {e lo hi fr : Int} (h : daysErr e lo hi fr = 0) : e = 0 ∧ daysErr 0 lo hi fr = 0 := by
  by_cases c : e = 0
  · subst c; exact ⟨rfl, h⟩
  · unfold daysErr at h; rw [if_neg c] at h; exact absurd h c
theorem pickD_len (fit : Int → Bool) (ct lo : Int) : ∀ (d : Nat) (day n : Int), (pickD fit ct lo d day n).length ≤ d
  | 0, _, _ => Nat.le_refl _
  | d + 1, day, n => by
    have h1 := pickD_len fit ct lo d (day + 1) (n + 1)
    have h2 := pickD_len fit ct lo d (day + 1) n
    unfold pickD
    split
    · split
      · simp
      · split
        · rw [List.length_cons]; omega
        · omega
    · omega
theorem daysL_len (u ev fr ct un : Int) (a b c : List Int) (lo hi : Int) (h0 : recErr u ev fr ct un a b c = 0) (h1 : daysErr 0 lo hi fr = 0) : (daysL u ev fr ct un a b c lo hi).length ≤ 50000 := by
  obtain ⟨hu, hev, hf, hun, hfu, hct, ha, hb, hc⟩ := recErr_ok h0
  unfold daysErr at h1
  rw [if_pos rfl] at h1
  have hd : hi ≤ fr + 40000 := by
    by_cases c1 : (-4000000 ≤ lo ∧ lo ≤ 4000000) ∧ (-4000000 ≤ hi ∧ hi ≤ 4000000)
    · rw [if_pos c1] at h1
      by_cases c2 : lo > hi
      · rw [if_pos c2] at h1; cases h1
      · rw [if_neg c2] at h1
        by_cases c3 : hi > fr + 40000 ∨ hi - lo > 3000
        · rw [if_pos c3] at h1; cases h1
        · omega
    · rw [if_neg c1] at h1; cases h1
  have hl := pickD_len (dayFit u ev fr un (expl u fr a b c).1 (expl u fr a b c).2.1 (expl u fr a b c).2.2) ct lo (mn hi un + 1 - (if ct > 0 then fr else mx lo fr)).toNat (if ct > 0 then fr else mx lo fr) 0
  unfold daysL
  have : (mn hi un + 1 - (if ct > 0 then fr else mx lo fr)).toNat ≤ 40001 := by
    unfold mn mx
    split <;> omega
  omega
theorem RecurLists : ephemerislaw1_RecurLists.Pure := by
  intro u ev fr ct un a b c lo hi _ _ _ _ _ _ _ _ _ _
  obtain ⟨K, hK⟩ : ∃ K : Nat, 300000 ≤ K := ⟨_, Nat.le_refl _⟩
  refine ⟨K, ?_⟩
  unfold ephemerislaw1_RecurLists.f
  rw [recur_Days_f _ _ _ _ _ _ _ _ _ _ K (by omega), show daysErr (recErr 3 1 1 0 100 [] [-1] []) 1 100 1 = 0 from by decide, if_pos rfl, Option.bind_some, if_pos rfl, show daysL 3 1 1 0 100 [] [-1] [] 1 100 = [31, 59, 90] from by decide +kernel, ephemerisref1_SameInts_f _ _ (by decide) K (by simp only [List.length_cons, List.length_nil]; omega), Option.bind_some]
  rw [show (!decide ((([31, 59, 90] : List Int), (0 : Int)).fst = [31, 59, 90])) = false from by decide]
  obtain ⟨k, rfl⟩ : ∃ m, K = m + 1 := ⟨K - 1, by omega⟩
  simp only [ephemerislaw1_RecurLists.j0]
  obtain ⟨⟨lo', hi'⟩, hp⟩ := ephemerislaw1_near_f u ev fr ct un a b c lo hi k (by omega)
  rw [if_neg (by decide), hp, Option.bind_some]
  simp only
  rw [recur_Days_f _ _ _ _ _ _ _ _ _ _ k (by omega), Option.bind_some, ephemerislaw1_recurError_f _ _ _ _ _ _ _ _ _ _ k (by omega), Option.bind_some]
  by_cases h : daysErr (recErr u ev fr ct un a b c) lo' hi' fr = 0
  · obtain ⟨h1, h2⟩ := daysErr_zero h
    rw [if_pos h, if_pos h, if_pos rfl, ephemerisref1_RecurList_f _ _ _ _ _ _ _ _ _ _ h1 h2 k (by omega), Option.bind_some]
    have hl := daysL_len u ev fr ct un a b c lo' hi' h1 h2
    rw [ephemerisref1_SameInts_f _ _ (by simp only; omega) k (by simp only; omega), Option.bind_some]
    simp
  · rw [if_neg h, if_neg h]
    simp
end Go.Proofs.Ytlfammlboncmeaa.Pure
