/- The law ObservedDates over numbers and lists: what the law's functions tell, and that the law holds. -/
import Derived.Test.YteogcbhlilechaaPObservedDatesx8
import Derived.Test.YteogcbhlilechaaM
import Derived.Test.YteogcbhlilechaaT
import Derived.Test.YteogcbhlilechaaL
import Derived.Test.YteogcbhlilechaaB
import Derived.Test.YteogcbhlilechaaO
namespace Go.Proofs.Yteogcbhlilechaa.Pure
open Go.RowKit Go.Proofs.Yteogcbhlilechaa.PObservedDates Go.Proofs.YteogcbhlilechaaW.PrintWords Go.Proofs.YteogcbhlilechaaW.PrintLast Go.Proofs.Yteogcbhlilechaa.M Go.Proofs.Yteogcbhlilechaa.T Go.Proofs.Yteogcbhlilechaa.L Go.Proofs.Yteogcbhlilechaa.B Go.Proofs.Yteogcbhlilechaa.O
set_option linter.unusedVariables false
set_option linter.unusedSimpArgs false
/-- The law over numbers and lists. -/
def ephemerislaw1_ObservedDates.Pure : Prop := ∀ (a0_0 : ByteArray) (a0_1 : Int) (l0_2 : List (Int)) (l0_3 : List (Int)) (a1_0 : Int) (a1_1 : Int) (a1_2 : Int) (a2 : Int), a0_0.size ≤ 140737488351232 → (Lit.int .i64 a0_1).wf = true → (l0_2.length * 8 ≤ 140737488351232 ∧ l0_2.length ≤ 9223372036854775807 ∧ ∀ v ∈ l0_2, (Lit.int .i64 v).wf = true) → (l0_3.length * 8 ≤ 140737488351232 ∧ l0_3.length ≤ 9223372036854775807 ∧ ∀ v ∈ l0_3, (Lit.int .i64 v).wf = true) → (Lit.int .i64 a1_0).wf = true → (Lit.int .i64 a1_1).wf = true → (Lit.int .i64 a1_2).wf = true → (Lit.int .i64 a2).wf = true → ∃ k, ephemerislaw1_ObservedDates.f k a0_0 a0_1 l0_2 l0_3 a1_0 a1_1 a1_2 a2 = some true

theorem ephemerislaw1_year12_f (k : Nat) (hk : 20 ≤ k) : ephemerislaw1_year12.f k = some ((⟨#[116, 97, 98, 108, 101]⟩ : ByteArray), 5, [12], [100, 130, 160, 190, 220, 250, 280, 310, 340, 370, 400, 430, 460]) := by
  obtain ⟨k, rfl⟩ : ∃ m, k = m + 14 := ⟨k - 14, by omega⟩
  unfold ephemerislaw1_year12.f
  have st : ∀ (j : Nat) (i : Int) (l : List Int), 0 ≤ i → i < 13 → l.length ≤ 20 → ephemerislaw1_year12.l0 (j + 1) i (⟨#[116, 97, 98, 108, 101]⟩ : ByteArray) 5 [12] l = ephemerislaw1_year12.l0 j (i + 1) (⟨#[116, 97, 98, 108, 101]⟩ : ByteArray) 5 [12] (l ++ [100 + 30 * i]) := by
    intro j i l h0 h1 h2
    conv => lhs; unfold ephemerislaw1_year12.l0
    rw [if_pos h1, if_pos (by omega), w64_id (n := i + 1) (by omega) (by omega), w64_id (n := 30 * i) (by omega) (by omega), w64_id (n := 100 + 30 * i) (by omega) (by omega)]
  rw [st _ 0 _ (by omega) (by omega) (by simp), show (0 : Int) + 1 = 1 from rfl, st _ 1 _ (by omega) (by omega) (by simp), show (1 : Int) + 1 = 2 from rfl, st _ 2 _ (by omega) (by omega) (by simp), show (2 : Int) + 1 = 3 from rfl, st _ 3 _ (by omega) (by omega) (by simp), show (3 : Int) + 1 = 4 from rfl, st _ 4 _ (by omega) (by omega) (by simp), show (4 : Int) + 1 = 5 from rfl, st _ 5 _ (by omega) (by omega) (by simp), show (5 : Int) + 1 = 6 from rfl, st _ 6 _ (by omega) (by omega) (by simp), show (6 : Int) + 1 = 7 from rfl, st _ 7 _ (by omega) (by omega) (by simp), show (7 : Int) + 1 = 8 from rfl, st _ 8 _ (by omega) (by omega) (by simp), show (8 : Int) + 1 = 9 from rfl, st _ 9 _ (by omega) (by omega) (by simp), show (9 : Int) + 1 = 10 from rfl, st _ 10 _ (by omega) (by omega) (by simp), show (10 : Int) + 1 = 11 from rfl, st _ 11 _ (by omega) (by omega) (by simp), show (11 : Int) + 1 = 12 from rfl, st _ 12 _ (by omega) (by omega) (by simp), show (12 : Int) + 1 = 13 from rfl]
  conv => lhs; unfold ephemerislaw1_year12.l0
  rw [if_neg (by omega)]
  rfl

theorem ephemerisref1_In_f (x lo hi : Int) : ephemerisref1_In.f x lo hi = some (decide (lo ≤ x ∧ x ≤ hi)) := by
  unfold ephemerisref1_In.f
  by_cases h : x ≥ lo
  · rw [if_pos h]; congr 1; simp; omega
  · rw [if_neg h]; congr 1; simp; omega

theorem ephemerisref1_Day_f (x : Int) : ephemerisref1_Day.f x = some (decide (-4000000 ≤ x ∧ x ≤ 4000000)) := by
  unfold ephemerisref1_Day.f
  rw [ephemerisref1_In_f]; rfl

theorem ephemerisref1_Name_l0 (s : ByteArray) (hs : s.size ≤ 12) : ∀ (d i k : Nat), i + d = s.size → d < k →
    ephemerisref1_Name.l0 k s (s.size : Int) (i : Int) = some (noWord s && letters (s.data.toList.drop i)) := by
  intro d
  induction d with
  | zero =>
    intro i k hi hk
    obtain ⟨k, rfl⟩ : ∃ m, k = m + 1 := ⟨k - 1, by omega⟩
    obtain rfl : i = s.size := by omega
    simp only [ephemerisref1_Name.l0]
    rw [if_neg (by omega), letters_end, Bool.and_true]
    unfold noWord
    by_cases c1 : s.toList = [121]
    · rw [if_pos c1]; simp [c1]
    rw [if_neg c1, bne_iff_ne.2 c1]
    by_cases c2 : s.toList = [97, 110, 100]
    · rw [if_pos c2]; simp [c2]
    rw [if_neg c2, bne_iff_ne.2 c2]
    by_cases c3 : s.toList = [111, 114]
    · rw [if_pos c3]; simp [c3]
    rw [if_neg c3, bne_iff_ne.2 c3]
    rfl
  | succ d ih =>
    intro i k hi hk
    obtain ⟨k, rfl⟩ : ∃ m, k = m + 1 := ⟨k - 1, by omega⟩
    simp only [ephemerisref1_Name.l0]
    rw [if_pos (by omega), if_pos (by omega), if_pos (by omega), letters_cons s i (by omega)]
    by_cases c1 : bt s i < 97
    · rw [if_pos c1, decide_eq_false (show ¬ 97 ≤ bt s i by omega)]; simp
    rw [if_neg c1, decide_eq_true (show 97 ≤ bt s i by omega)]
    by_cases c2 : bt s i > 122
    · rw [if_pos c2, decide_eq_false (show ¬ bt s i ≤ 122 by omega)]; simp
    rw [if_neg c2, decide_eq_true (show bt s i ≤ 122 by omega), w64_id (by omega) (by omega)]
    have := ih (i + 1) k (by omega) (by omega)
    rw [show ((i + 1 : Nat) : Int) = (i : Int) + 1 from by omega] at this
    rw [this]; simp
theorem ephemerisref1_Name_f (s : ByteArray) (k : Nat) (hk : 20 ≤ k) : ephemerisref1_Name.f k s = some (isName s) := by
  obtain ⟨k, rfl⟩ : ∃ m, k = m + 1 := ⟨k - 1, by omega⟩
  unfold ephemerisref1_Name.f isName
  by_cases h1 : s.toList = []
  · rw [if_pos h1, decide_eq_false (show ¬ 1 ≤ s.size by have := (toList_nil s).1 h1; omega)]
    simp [ephemerisref1_Name.j0]
  have h1' : ¬ s.size = 0 := fun h => h1 ((toList_nil s).2 h)
  rw [if_neg h1, decide_eq_true (show 1 ≤ s.size by omega)]
  simp only [ephemerisref1_Name.j0, decide_eq_true_eq]
  by_cases h2 : (s.size : Int) > 12
  · rw [if_pos h2, decide_eq_false (show ¬ s.size ≤ 12 by omega)]; rfl
  rw [if_neg h2, decide_eq_true (show s.size ≤ 12 by omega)]
  exact ephemerisref1_Name_l0 s (by omega) s.size 0 k (by omega) (by omega)

theorem tableError_l1 (name : ByteArray) (first : Int) (months l : List Int) (hl : l.length ≤ 600) : ∀ (d i k : Nat), i + d = l.length → d < k → (0 < i → -4000000 ≤ rd l ((i : Int) - 1) ∧ rd l ((i : Int) - 1) ≤ 4000000) →
    ephemerisref1_TableError.l1 k l (l.length : Int) (i : Int) name first months l = some (stFrom (prevN l i) (l.drop i)) := by
  intro d
  induction d with
  | zero =>
    intro i k hi hk hb
    obtain ⟨k, rfl⟩ : ∃ m, k = m + 1 := ⟨k - 1, by omega⟩
    simp only [ephemerisref1_TableError.l1]
    rw [if_neg (by omega), List.drop_of_length_le (by omega)]
    rfl
  | succ d ih =>
    intro i k hi hk hb
    obtain ⟨k, rfl⟩ : ∃ m, k = m + 1 := ⟨k - 1, by omega⟩
    have hlt : i < l.length := by omega
    simp only [ephemerisref1_TableError.l1]
    rw [List.drop_eq_getElem_cons hlt, rd_get l i hlt, ephemerisref1_Day_f, if_pos (by omega), if_pos (by omega), if_pos (by omega)]
    simp only [Option.bind_some, stFrom, decide_eq_true_eq]
    by_cases c2 : -4000000 ≤ l[i] ∧ l[i] ≤ 4000000
    · have ih := ih (i + 1) k (by omega) (by omega) (fun _ => by rw [show ((i + 1 : Nat) : Int) - 1 = (i : Int) from by omega, rd_get l i hlt]; exact c2)
      rw [prevN_succ l i hlt, show ((i + 1 : Nat) : Int) = (i : Int) + 1 from by omega] at ih
      rw [if_pos c2, if_pos c2, w64_id (n := (i : Int) + 1) (by omega) (by omega)]
      by_cases c3 : (i : Int) > 0
      · have hp : prevN l i = some (rd l ((i : Int) - 1)) := by unfold prevN; rw [if_neg (by omega)]
        have hb := hb (by omega)
        rw [if_pos c3, w64_id (n := (i : Int) - 1) (by omega) (by omega), if_pos (by omega), if_pos (by omega), hp, w64_id (n := l[i] - rd l ((i : Int) - 1)) (by omega) (by omega), ephemerisref1_In_f]
        simp only [Option.bind_some, decide_eq_true_eq]
        by_cases c4 : 1 ≤ l[i] - rd l ((i : Int) - 1) ∧ l[i] - rd l ((i : Int) - 1) ≤ 40
        · rw [if_pos c4, if_neg (fun ⟨q, h, h2⟩ => h2 (by cases h; omega)), ih]
        · rw [if_neg c4, if_pos ⟨_, rfl, by omega⟩]
      · have hp : prevN l i = none := by unfold prevN; rw [if_pos (by omega)]
        rw [if_neg c3, hp, if_neg (fun ⟨q, h, _⟩ => by cases h), ih]
    · rw [if_neg c2, if_neg c2]
theorem tableError_l0 (name : ByteArray) (first : Int) (months starts : List Int) (hm : months.length ≤ 40) : ∀ (d i k : Nat) (acc : Int), i + d = months.length → 700 + d < k → 0 ≤ acc → acc ≤ 13 * i →
    ephemerisref1_TableError.l0 k acc months (months.length : Int) (i : Int) name first months starts = (if okMonths (months.drop i) then (if (starts.length : Int) = acc + (months.drop i).sum + 1 then some (stFrom none starts) else some 8) else some 8) := by
  intro d
  induction d with
  | zero =>
    intro i k acc hi hk h0 h1
    obtain ⟨k, rfl⟩ : ∃ m, k = m + 1 := ⟨k - 1, by omega⟩
    conv => lhs; unfold ephemerisref1_TableError.l0
    rw [if_neg (by omega), List.drop_of_length_le (by omega), if_pos (show okMonths [] from fun _ h => by cases h), List.sum_nil, Int.add_zero, w64_id (by omega) (by omega)]
    by_cases c : (starts.length : Int) = acc + 1
    · rw [if_pos c, if_pos c]
      have := tableError_l1 name first months starts (by omega) starts.length 0 k (by omega) (by omega) (fun h => by omega)
      exact this
    · rw [if_neg c, if_neg c]
  | succ d ih =>
    intro i k acc hi hk h0 h1
    obtain ⟨k, rfl⟩ : ∃ m, k = m + 1 := ⟨k - 1, by omega⟩
    have hlt : i < months.length := by omega
    conv => lhs; unfold ephemerisref1_TableError.l0
    rw [if_pos (by omega), if_pos (by omega), if_pos (by omega), rd_get months i hlt, List.drop_eq_getElem_cons hlt, List.sum_cons, ephemerisref1_In_f, Option.bind_some]
    simp only [decide_eq_true_eq]
    by_cases c : 12 ≤ months[i] ∧ months[i] ≤ 13
    · rw [if_pos c, w64_id (n := acc + months[i]) (by omega) (by omega), w64_id (n := (i : Int) + 1) (by omega) (by omega), show (i : Int) + 1 = ((i + 1 : Nat) : Int) from by omega]
      rw [ih (i + 1) k (acc + months[i]) (by omega) (by omega) (by omega) (by omega), Int.add_assoc acc]
      by_cases c2 : okMonths (months.drop (i + 1))
      · rw [if_pos c2, if_pos ((okMonths_cons _ _).2 ⟨by omega, c2⟩)]
      · rw [if_neg c2, if_neg (fun h => c2 ((okMonths_cons _ _).1 h).2)]
    · rw [if_neg c, if_neg (fun h => c (by have := ((okMonths_cons _ _).1 h).1; omega))]
theorem ephemerisref1_TableError_f (name : ByteArray) (first : Int) (months starts : List Int) (hf : -9223372036854775808 ≤ first ∧ first ≤ 9223372036854775807) (k : Nat) (hk : 1000 ≤ k) : ephemerisref1_TableError.f k name first months starts = some (tblErr name first months starts) := by
  obtain ⟨k, rfl⟩ : ∃ m, k = m + 1 := ⟨k - 1, by omega⟩
  unfold ephemerisref1_TableError.f tblErr
  rw [ephemerisref1_Name_f _ _ (by omega), ephemerisref1_In_f, ephemerisref1_In_f]
  simp only [Option.bind_some, decide_eq_true_eq]
  by_cases h1 : isName name = true
  · rw [if_pos h1, if_pos h1]
    by_cases h2 : 1 ≤ months.length ∧ months.length ≤ 40
    · rw [if_pos (show (1 : Int) ≤ months.length ∧ (months.length : Int) ≤ 40 by omega), if_pos h2]
      by_cases h3 : -10000 ≤ first ∧ first ≤ 10000
      · rw [if_pos h3, w64_id (n := first + months.length) (by omega) (by omega), w64_id (n := first + months.length - 1) (by omega) (by omega)]
        simp only [ephemerisref1_TableError.j0, decide_eq_true_eq]
        by_cases h4 : first + months.length - 1 > 10000
        · rw [if_pos h4, if_neg (show ¬ (-10000 ≤ first ∧ first + months.length ≤ 10001) by omega)]
        · rw [if_neg h4, if_pos (show -10000 ≤ first ∧ first + months.length ≤ 10001 by omega)]
          have := tableError_l0 name first months starts h2.2 months.length 0 k 0 (by omega) (by omega) (by omega) (by omega)
          rw [List.drop_zero, show ((0 : Nat) : Int) = 0 from rfl, Int.zero_add] at this
          rw [this]
          by_cases h4 : okMonths months
          · rw [if_pos h4, if_pos h4]
            by_cases h5 : (starts.length : Int) = months.sum + 1
            · rw [if_pos h5, if_pos h5]
            · rw [if_neg h5, if_neg h5]
          · rw [if_neg h4, if_neg h4]
      · rw [if_neg h3, if_neg (show ¬ (-10000 ≤ first ∧ first + months.length ≤ 10001) by omega)]
        simp only [ephemerisref1_TableError.j0, if_true]
    · rw [if_neg (show ¬ ((1 : Int) ≤ months.length ∧ (months.length : Int) ≤ 40) by omega), if_neg h2]
  · rw [if_neg h1, if_neg h1]

theorem line_Check_f (x : Int) : line_Check.f x = some (if -4000000 ≤ x ∧ x ≤ 4000000 then 0 else 3) := by
  unfold line_Check.f
  by_cases h : x < -4000000
  · rw [if_pos h, if_neg (by omega)]
  · rw [if_neg h]
    by_cases h2 : x > 4000000
    · rw [if_pos h2, if_neg (by omega)]
    · rw [if_neg h2, if_pos (by omega)]

theorem rule_Name_f (s : ByteArray) : rule_Name.f s = some (isName s) := by
  have e : rule_Name.all s.data.toList = letters s.data.toList := rfl
  unfold rule_Name.f isName noWord
  rw [e]
  congr 1
  by_cases h1 : (s.size : Int) < 1
  · rw [if_pos h1, decide_eq_false (show ¬ 1 ≤ s.size by omega)]; rfl
  rw [if_neg h1, decide_eq_true (show 1 ≤ s.size by omega)]
  by_cases h2 : (s.size : Int) > 12
  · rw [if_pos h2, decide_eq_false (show ¬ s.size ≤ 12 by omega)]; rfl
  rw [if_neg h2, decide_eq_true (show s.size ≤ 12 by omega)]
  by_cases c1 : s.toList = [121]
  · rw [if_pos c1]; simp [c1]
  rw [if_neg c1, bne_iff_ne.2 c1]
  by_cases c2 : s.toList = [97, 110, 100]
  · rw [if_pos c2]; simp [c2]
  rw [if_neg c2, bne_iff_ne.2 c2]
  by_cases c3 : s.toList = [111, 114]
  · rw [if_pos c3]; simp [c3]
  rw [if_neg c3, bne_iff_ne.2 c3]
  by_cases c4 : s.toList = [110, 111, 116]
  · rw [if_pos c4]; simp [c4]
  rw [if_neg c4, bne_iff_ne.2 c4]
  rfl

theorem observed_l1 (name : ByteArray) (first : Int) (months l : List Int) (hl : l.length ≤ 600) : ∀ (d i k : Nat), i + d = l.length → d < k → (0 < i → -4000000 ≤ rd l ((i : Int) - 1) ∧ rd l ((i : Int) - 1) ≤ 4000000) →
    observed_Check.l1 k l (l.length : Int) (i : Int) name first months l = some (stFrom (prevN l i) (l.drop i)) := by
  intro d
  induction d with
  | zero =>
    intro i k hi hk hb
    obtain ⟨k, rfl⟩ : ∃ m, k = m + 1 := ⟨k - 1, by omega⟩
    simp only [observed_Check.l1]
    rw [if_neg (by omega), List.drop_of_length_le (by omega)]
    rfl
  | succ d ih =>
    intro i k hi hk hb
    obtain ⟨k, rfl⟩ : ∃ m, k = m + 1 := ⟨k - 1, by omega⟩
    have hlt : i < l.length := by omega
    simp only [observed_Check.l1]
    rw [List.drop_eq_getElem_cons hlt, rd_get l i hlt, line_Check_f, if_pos (by omega), if_pos (by omega), if_pos (by omega)]
    simp only [Option.bind_some, stFrom]
    by_cases c2 : -4000000 ≤ l[i] ∧ l[i] ≤ 4000000
    · have ih := ih (i + 1) k (by omega) (by omega) (fun _ => by rw [show ((i + 1 : Nat) : Int) - 1 = (i : Int) from by omega, rd_get l i hlt]; exact c2)
      rw [prevN_succ l i hlt, show ((i + 1 : Nat) : Int) = (i : Int) + 1 from by omega] at ih
      rw [if_pos c2, if_pos c2, if_pos rfl, w64_id (n := (i : Int) + 1) (by omega) (by omega)]
      by_cases c3 : (i : Int) > 0
      · have hp : prevN l i = some (rd l ((i : Int) - 1)) := by unfold prevN; rw [if_neg (by omega)]
        have hb := hb (by omega)
        rw [if_pos c3, w64_id (n := (i : Int) - 1) (by omega) (by omega), if_pos (by omega), if_pos (by omega), hp, w64_id (n := rd l ((i : Int) - 1) + 40) (by omega) (by omega)]
        by_cases c4 : l[i] ≤ rd l ((i : Int) - 1)
        · rw [if_pos c4, if_pos ⟨_, rfl, by omega⟩]
        · rw [if_neg c4]
          by_cases c5 : l[i] > rd l ((i : Int) - 1) + 40
          · rw [if_pos c5, if_pos ⟨_, rfl, by omega⟩]
          · rw [if_neg c5, if_neg (fun ⟨q, h, h2⟩ => h2 (by cases h; omega)), ih]
      · have hp : prevN l i = none := by unfold prevN; rw [if_pos (by omega)]
        rw [if_neg c3, hp, if_neg (fun ⟨q, h, _⟩ => by cases h), ih]
    · rw [if_neg c2, if_neg c2, if_neg (by omega)]
theorem observed_l0 (name : ByteArray) (first : Int) (months starts : List Int) (hm : months.length ≤ 40) : ∀ (d i k : Nat) (acc : Int), i + d = months.length → 700 + d < k → 0 ≤ acc → acc ≤ 13 * i + 1 →
    observed_Check.l0 k acc months (months.length : Int) (i : Int) name first months starts = (if okMonths (months.drop i) then (if (starts.length : Int) = acc + (months.drop i).sum then some (stFrom none starts) else some 8) else some 8) := by
  intro d
  induction d with
  | zero =>
    intro i k acc hi hk h0 h1
    obtain ⟨k, rfl⟩ : ∃ m, k = m + 1 := ⟨k - 1, by omega⟩
    conv => lhs; unfold observed_Check.l0
    rw [if_neg (by omega), List.drop_of_length_le (by omega), if_pos (show okMonths [] from fun _ h => by cases h), List.sum_nil, Int.add_zero]
    by_cases c : (starts.length : Int) = acc
    · rw [if_pos c, if_pos c]
      have := observed_l1 name first months starts (by omega) starts.length 0 k (by omega) (by omega) (fun h => by omega)
      exact this
    · rw [if_neg c, if_neg c]
  | succ d ih =>
    intro i k acc hi hk h0 h1
    obtain ⟨k, rfl⟩ : ∃ m, k = m + 1 := ⟨k - 1, by omega⟩
    have hlt : i < months.length := by omega
    conv => lhs; unfold observed_Check.l0
    rw [if_pos (by omega), if_pos (by omega), if_pos (by omega), rd_get months i hlt, List.drop_eq_getElem_cons hlt, List.sum_cons]
    by_cases c : months[i] = 12 ∨ months[i] = 13
    · have e : (if months[i] = 12 then (observed_Check.l0 k (wrap64 (acc + months[i])) months (months.length : Int) (wrap64 ((i : Int) + 1)) name first months starts) else (if months[i] = 13 then (observed_Check.l0 k (wrap64 (acc + months[i])) months (months.length : Int) (wrap64 ((i : Int) + 1)) name first months starts) else (some 8))) = observed_Check.l0 k (acc + months[i]) months (months.length : Int) ((i + 1 : Nat) : Int) name first months starts := by
        rw [w64_id (n := acc + months[i]) (by omega) (by omega), w64_id (n := (i : Int) + 1) (by omega) (by omega), show ((i + 1 : Nat) : Int) = (i : Int) + 1 from by omega]
        rcases c with c | c
        · rw [if_pos c]
        · rw [if_neg (by omega), if_pos c]
      rw [e, ih (i + 1) k (acc + months[i]) (by omega) (by omega) (by omega) (by omega), Int.add_assoc]
      by_cases c2 : okMonths (months.drop (i + 1))
      · rw [if_pos c2, if_pos ((okMonths_cons _ _).2 ⟨c, c2⟩)]
      · rw [if_neg c2, if_neg (fun h => c2 ((okMonths_cons _ _).1 h).2)]
    · rw [if_neg (fun h => c (.inl h)), if_neg (fun h => c (.inr h)), if_neg (fun h => c ((okMonths_cons _ _).1 h).1)]
theorem observed_Check_f (name : ByteArray) (first : Int) (months starts : List Int) (hf : -9223372036854775808 ≤ first ∧ first ≤ 9223372036854775807) (k : Nat) (hk : 1000 ≤ k) : observed_Check.f k name first months starts = some (tblErr name first months starts) := by
  obtain ⟨k, rfl⟩ : ∃ m, k = m + 2 := ⟨k - 2, by omega⟩
  unfold observed_Check.f tblErr
  rw [rule_Name_f, Option.bind_some]
  by_cases h1 : isName name = true
  · rw [if_pos h1, if_pos h1]
    have hj : (if (months.length : Int) < 1 then (observed_Check.j0 (k + 2) true name first months starts) else (observed_Check.j0 (k + 2) (decide ((months.length : Int) > 40)) name first months starts)) = observed_Check.j0 (k + 2) (decide (¬ (1 ≤ months.length ∧ months.length ≤ 40))) name first months starts := by
      by_cases c1 : (months.length : Int) < 1
      · rw [if_pos c1, dec_not_true (by omega)]
      rw [if_neg c1]
      by_cases c2 : (months.length : Int) > 40
      · rw [decide_eq_true c2, dec_not_true (by omega)]
      · rw [decide_eq_false c2, dec_not_false (by omega)]
    rw [hj]
    simp only [observed_Check.j0]
    by_cases h2 : 1 ≤ months.length ∧ months.length ≤ 40
    · rw [dec_not_false h2, if_neg (by decide), if_pos h2, w64_id (n := 10000 - (months.length : Int)) (by omega) (by omega), w64_id (n := 10000 - (months.length : Int) + 1) (by omega) (by omega)]
      have hj1 : (if first < (-10000) then (observed_Check.j1 (k + 1) true name first months starts) else (observed_Check.j1 (k + 1) (decide (first > 10000 - (months.length : Int) + 1)) name first months starts)) = observed_Check.j1 (k + 1) (decide (¬ (-10000 ≤ first ∧ first + months.length ≤ 10001))) name first months starts := by
        by_cases c1 : first < -10000
        · rw [if_pos c1, dec_not_true (by omega)]
        rw [if_neg c1]
        by_cases c2 : first > 10000 - (months.length : Int) + 1
        · rw [decide_eq_true c2, dec_not_true (by omega)]
        · rw [decide_eq_false c2, dec_not_false (by omega)]
      rw [hj1]
      simp only [observed_Check.j1]
      by_cases h3 : -10000 ≤ first ∧ first + months.length ≤ 10001
      · rw [dec_not_false h3, if_neg (by decide), if_pos h3]
        have := observed_l0 name first months starts h2.2 months.length 0 k 1 (by omega) (by omega) (by omega) (by omega)
        rw [List.drop_zero, show ((0 : Nat) : Int) = 0 from rfl] at this
        rw [this]
        by_cases h4 : okMonths months
        · rw [if_pos h4, if_pos h4]
          by_cases h5 : (starts.length : Int) = months.sum + 1
          · rw [if_pos h5, if_pos (by omega)]
          · rw [if_neg h5, if_neg (by omega)]
        · rw [if_neg h4, if_neg h4]
      · rw [dec_not_true h3, if_pos rfl, if_neg h3]
    · rw [dec_not_true h2, if_pos rfl, if_neg h2]
  · rw [if_neg h1, if_neg h1]

/-- The months of a year of a table, as the reference lists them. -/
def rowsF (y : Int) (st : List Int) : Nat → Nat → Int → List S106
  | 0, _, _ => []
  | c + 1, at', m => ⟨y, m, rd st (at' : Int), rd st ((at' : Int) + 1)⟩ :: rowsF y st c (at' + 1) (m + 1)
/-- All months of a table. -/
def tblD (st : List Int) : Int → Nat → List Int → List S106
  | _, _, [] => []
  | y, at', n :: t => rowsF y st n.toNat at' 1 ++ tblD st (y + 1) (at' + n.toNat) t
theorem rowsF_len (y : Int) (st : List Int) : ∀ (c a : Nat) (m : Int), (rowsF y st c a m).length = c
  | 0, _, _ => rfl
  | c + 1, a, m => by simp only [rowsF, List.length_cons, rowsF_len y st c (a + 1) (m + 1)]
structure OkTbl (first : Int) (months st : List Int) : Prop where
  len : 1 ≤ months.length ∧ months.length ≤ 40
  fst : -10000 ≤ first ∧ first + months.length ≤ 10001
  mo : okMonths months
  sl : (st.length : Int) = months.sum + 1
  step : ∀ i : Nat, i + 1 < st.length → rd st (i : Int) < rd st ((i : Int) + 1) ∧ rd st ((i : Int) + 1) ≤ rd st (i : Int) + 40
  bnd : ∀ i : Nat, i < st.length → -4000000 ≤ rd st (i : Int) ∧ rd st (i : Int) ≤ 4000000
theorem rd_cons0 (x : Int) (t : List Int) : rd (x :: t) 0 = x := by have := rd_get (x :: t) 0 (by simp); simpa using this
theorem rd_consS (x : Int) (t : List Int) (i : Nat) (h : i < t.length) : rd (x :: t) ((i : Int) + 1) = rd t (i : Int) := by
  rw [show (i : Int) + 1 = ((i + 1 : Nat) : Int) from by omega, rd_get (x :: t) (i + 1) (by simp; omega), rd_get t i h]; rfl
theorem stFrom_ok : ∀ (l : List Int) (p : Option Int), stFrom p l = 0 → (∀ i : Nat, i < l.length → -4000000 ≤ rd l (i : Int) ∧ rd l (i : Int) ≤ 4000000) ∧ (∀ i : Nat, i + 1 < l.length → rd l (i : Int) < rd l ((i : Int) + 1) ∧ rd l ((i : Int) + 1) ≤ rd l (i : Int) + 40) ∧ (∀ q, p = some q → ∀ h : 0 < l.length, q < rd l 0 ∧ rd l 0 ≤ q + 40)
  | [], _, _ => ⟨fun i h => by simp at h, fun i h => by simp at h, fun _ _ h => by simp at h⟩
  | x :: t, p, h => by
    unfold stFrom at h
    by_cases c1 : -4000000 ≤ x ∧ x ≤ 4000000
    rotate_left
    · rw [if_neg c1] at h; cases h
    rw [if_pos c1] at h
    by_cases c2 : ∃ q, p = some q ∧ ¬ (q < x ∧ x ≤ q + 40)
    · rw [if_pos c2] at h; cases h
    rw [if_neg c2] at h
    obtain ⟨h1, h2, h3⟩ := stFrom_ok t (some x) h
    refine ⟨fun i hi => ?_, fun i hi => ?_, fun q hq _ => ?_⟩
    · cases i with
      | zero => rw [show ((0 : Nat) : Int) = 0 from rfl, rd_cons0]; exact c1
      | succ i => rw [show ((i + 1 : Nat) : Int) = (i : Int) + 1 from by omega, rd_consS x t i (by simpa using hi)]; exact h1 i (by simpa using hi)
    · cases i with
      | zero =>
        have ht : 0 < t.length := by simpa using hi
        have := h3 x rfl ht
        have e := rd_consS x t 0 ht
        rw [show ((0 : Nat) : Int) = 0 from rfl] at e ⊢
        rw [rd_cons0, e]; exact this
      | succ i =>
        have hi' : i + 1 < t.length := by simpa using hi
        have e := rd_consS x t (i + 1) hi'
        rw [show ((i + 1 : Nat) : Int) = (i : Int) + 1 from by omega] at e ⊢
        rw [e, rd_consS x t i (by omega)]
        exact h2 i hi'
    · rw [rd_cons0]
      by_cases c : q < x ∧ x ≤ q + 40
      · exact c
      · exact absurd ⟨q, hq, c⟩ c2
theorem tblErr_ok {name : ByteArray} {first : Int} {months st : List Int} (h : tblErr name first months st = 0) : OkTbl first months st := by
  unfold tblErr at h
  by_cases c1 : isName name = true
  rotate_left
  · rw [if_neg c1] at h; cases h
  rw [if_pos c1] at h
  by_cases c2 : 1 ≤ months.length ∧ months.length ≤ 40
  rotate_left
  · rw [if_neg c2] at h; cases h
  rw [if_pos c2] at h
  by_cases c3 : -10000 ≤ first ∧ first + months.length ≤ 10001
  rotate_left
  · rw [if_neg c3] at h; cases h
  rw [if_pos c3] at h
  by_cases c4 : okMonths months
  rotate_left
  · rw [if_neg c4] at h; cases h
  rw [if_pos c4] at h
  by_cases c5 : (st.length : Int) = months.sum + 1
  rotate_left
  · rw [if_neg c5] at h; cases h
  rw [if_pos c5] at h
  obtain ⟨h1, h2, _⟩ := stFrom_ok st none h
  exact ⟨c2, c3, c4, c5, h2, h1⟩
theorem OkTbl.mono {first : Int} {months st : List Int} (ok : OkTbl first months st) (i : Nat) : ∀ d : Nat, i + d < st.length → rd st (i : Int) ≤ rd st ((i + d : Nat) : Int)
  | 0, _ => Int.le_refl _
  | d + 1, h => by
    have h1 := ok.mono i d (by omega)
    have h2 := (ok.step (i + d) (by omega)).1
    rw [show ((i + (d + 1) : Nat) : Int) = ((i + d : Nat) : Int) + 1 from by omega]; omega
/-- The reference's search for a date, and for a day. -/
def tdScan (y m d : Int) : Int → List S106 → Int × Int
  | e, [] => (0, e)
  | e, x :: t => if x.f0 = y then (if x.f1 = m then (if d ≥ 1 then (if wrap64 (wrap64 (x.f2 + d) - 1) < x.f3 then (if d < 100 then (wrap64 (wrap64 (x.f2 + d) - 1), 0) else tdScan y m d 1 t) else tdScan y m d 1 t) else tdScan y m d 1 t) else tdScan y m d 1 t) else tdScan y m d e t
theorem tdScan_mk (y m d e a b c z : Int) (t : List S106) : tdScan y m d e (⟨a, b, c, z⟩ :: t) = if a = y then (if b = m then (if d ≥ 1 then (if wrap64 (wrap64 (c + d) - 1) < z then (if d < 100 then (wrap64 (wrap64 (c + d) - 1), 0) else tdScan y m d 1 t) else tdScan y m d 1 t) else tdScan y m d 1 t) else tdScan y m d 1 t) else tdScan y m d e t := rfl
def fdScan (day : Int) : List S106 → Int × Int × Int × Int
  | [] => (0, 0, 0, 3)
  | x :: t => if day ≥ x.f2 then (if day < x.f3 then (x.f0, x.f1, wrap64 (wrap64 (day - x.f2) + 1), 0) else fdScan day t) else fdScan day t
theorem rd_row (T : List S106) (i : Nat) (h : i < T.length) : rd_T106 T (i : Int) = T[i] := by
  unfold rd_T106
  rw [Int.toNat_natCast, List.getD_eq_getElem?_getD, List.getElem?_eq_getElem h]; rfl
/-- A date's day in a table. -/
def tblDay (first : Int) (months st : List Int) (y m d : Int) : Int × Int :=
  if first ≤ y ∧ y < first + months.length then
    (if (1 ≤ m ∧ m ≤ rd months (y - first)) ∧ (1 ≤ d ∧ d ≤ rd st ((months.take (y - first).toNat).sum + m) - rd st ((months.take (y - first).toNat).sum + m - 1)) then (rd st ((months.take (y - first).toNat).sum + m - 1) + d - 1, 0) else (0, 1))
  else (0, 3)
theorem tblD_len (st : List Int) : ∀ (months : List Int) (y : Int) (a : Nat), okMonths months → ((tblD st y a months).length : Int) = months.sum
  | [], _, _, _ => by simp [tblD]
  | n :: t, y, a, h => by
    obtain ⟨h1, h2⟩ := (okMonths_cons n t).1 h
    have := tblD_len st t (y + 1) (a + n.toNat) h2
    rw [tblD, List.length_append, rowsF_len, List.sum_cons]; omega
theorem ok_len {first : Int} {months st : List Int} (ok : OkTbl first months st) : (tblD st first 0 months).length ≤ 1000 := by
  have h1 := tblD_len st months first 0 ok.mo
  have h2 := sum_months months ok.mo; have h3 := ok.len
  omega
/-- Another year's months. -/
theorem scan_other {y m d : Int} {y' : Int} (h : y' ≠ y) (st : List Int) (B : List S106) : ∀ (c a : Nat) (j e : Int), tdScan y m d e (rowsF y' st c a j ++ B) = tdScan y m d e B
  | 0, _, _, _ => rfl
  | c + 1, a, j, e => by
    rw [rowsF, List.cons_append, tdScan_mk, if_neg h]; exact scan_other h st B c (a + 1) (j + 1) e
/-- Behind the year: nothing is found. -/
theorem scan_behind {y m d : Int} (st : List Int) : ∀ (months : List Int) (y' : Int) (a : Nat) (e : Int), y < y' → tdScan y m d e (tblD st y' a months) = (0, e)
  | [], _, _, _, _ => rfl
  | n :: t, y', a, e, h => by
    rw [tblD, scan_other (by omega)]; exact scan_behind st t (y' + 1) _ e (by omega)
theorem scan_year {first : Int} {months st : List Int} (ok : OkTbl first months st) {y m d : Int} (hd : -9223372036854775808 ≤ d ∧ d ≤ 9223372036854775807) (B : List S106) : ∀ (c a : Nat) (j e : Int), a + c < st.length →
    tdScan y m d e (rowsF y st c a j ++ B) = if (j ≤ m ∧ m < j + c) ∧ (1 ≤ d ∧ d ≤ rd st ((a : Int) + (m - j) + 1) - rd st ((a : Int) + (m - j))) then (rd st ((a : Int) + (m - j)) + d - 1, 0) else tdScan y m d (if c = 0 then e else 1) B
  | 0, a, j, e, _ => by rw [if_neg (fun h => by omega), if_pos rfl]; rfl
  | c + 1, a, j, e, h => by
    have hs := ok.step a (by omega)
    have hb := ok.bnd a (by omega)
    have ih := scan_year (y := y) (m := m) ok hd B c (a + 1) (j + 1) 1 (by omega)
    rw [show ((a + 1 : Nat) : Int) + (m - (j + 1)) = (a : Int) + (m - j) from by omega, ite_self] at ih
    have hne : ¬ (c + 1 = 0) := by omega
    rw [rowsF, List.cons_append, tdScan_mk, if_pos rfl, ih, if_neg hne]
    by_cases c1 : j = m
    · subst c1
      rw [show (a : Int) + (j - j) = (a : Int) from by omega]
      have hn : ¬ ((j + 1 ≤ j ∧ j < j + 1 + (c : Int)) ∧ (1 ≤ d ∧ d ≤ rd st ((a : Int) + 1) - rd st (a : Int))) := fun g => by omega
      rw [if_neg hn, if_pos rfl]
      by_cases c2 : 1 ≤ d ∧ d ≤ rd st ((a : Int) + 1) - rd st (a : Int)
      · rw [if_pos c2.1, w64_id (n := rd st (a : Int) + d) (by omega) (by omega), w64_id (n := rd st (a : Int) + d - 1) (by omega) (by omega), if_pos (by omega), if_pos (by omega), if_pos ⟨by omega, c2⟩]
      · rw [if_neg (show ¬ ((j ≤ j ∧ j < j + ((c + 1 : Nat) : Int)) ∧ (1 ≤ d ∧ d ≤ rd st ((a : Int) + 1) - rd st (a : Int))) from fun g => c2 g.2)]
        by_cases c3 : d ≥ 1
        · rw [if_pos c3]
          by_cases c4 : d < 100
          · rw [w64_id (n := rd st (a : Int) + d) (by omega) (by omega), w64_id (n := rd st (a : Int) + d - 1) (by omega) (by omega), if_neg (by omega)]
          · rw [if_neg c4, ite_self]
        · rw [if_neg c3]
    · rw [if_neg c1]
      by_cases c2 : (j + 1 ≤ m ∧ m < j + 1 + (c : Int)) ∧ (1 ≤ d ∧ d ≤ rd st ((a : Int) + (m - j) + 1) - rd st ((a : Int) + (m - j)))
      · rw [if_pos c2, if_pos ⟨by omega, c2.2⟩]
      · rw [if_neg c2, if_neg (fun g => c2 ⟨by omega, g.2⟩)]
theorem scan_tbl {first : Int} {months st : List Int} (ok : OkTbl first months st) {y m d : Int} (hd : -9223372036854775808 ≤ d ∧ d ≤ 9223372036854775807) : ∀ (ms : List Int) (y' : Int) (a : Nat), okMonths ms → (a : Int) + ms.sum < st.length →
    tdScan y m d 3 (tblD st y' a ms) = if y' ≤ y ∧ y < y' + ms.length then
      (if (1 ≤ m ∧ m ≤ rd ms (y - y')) ∧ (1 ≤ d ∧ d ≤ rd st ((a : Int) + (ms.take (y - y').toNat).sum + m) - rd st ((a : Int) + (ms.take (y - y').toNat).sum + m - 1)) then (rd st ((a : Int) + (ms.take (y - y').toNat).sum + m - 1) + d - 1, 0) else (0, 1)) else (0, 3)
  | [], y', a, _, _ => by rw [if_neg (fun h => by simp only [List.length_nil] at h; omega)]; rfl
  | n :: t, y', a, h, hs => by
    obtain ⟨h1, h2⟩ := (okMonths_cons n t).1 h
    have st1 := sum_months t h2
    rw [List.sum_cons] at hs
    by_cases c : y' = y
    · subst c
      rw [tblD, scan_year ok hd _ _ _ _ _ (by omega), if_pos (show y' ≤ y' ∧ y' < y' + ((n :: t).length : Int) from ⟨by omega, by simp only [List.length_cons]; omega⟩), scan_behind st t (y' + 1) _ _ (by omega), if_neg (show ¬ n.toNat = 0 by omega),
        show y' - y' = 0 from by omega, rd_cons0, Int.toNat_zero, List.take_zero, List.sum_nil, show (a : Int) + (m - 1) + 1 = (a : Int) + 0 + m from by omega, show (a : Int) + (m - 1) = (a : Int) + 0 + m - 1 from by omega]
      by_cases g : (1 ≤ m ∧ m ≤ n) ∧ (1 ≤ d ∧ d ≤ rd st ((a : Int) + 0 + m) - rd st ((a : Int) + 0 + m - 1))
      · rw [if_pos g, if_pos ⟨by omega, g.2⟩]
      · rw [if_neg g, if_neg (fun k => g ⟨by omega, k.2⟩)]
    · have ih := scan_tbl ok hd t (y' + 1) (a + n.toNat) h2 (by omega) (y := y) (m := m)
      rw [tblD, scan_other c, ih]
      by_cases g : y' + 1 ≤ y ∧ y < y' + 1 + t.length
      · obtain ⟨j, hj⟩ : ∃ j : Nat, y - y' = (j : Int) + 1 := ⟨(y - y' - 1).toNat, by omega⟩
        rw [if_pos g, if_pos (show y' ≤ y ∧ y < y' + ((n :: t).length : Int) from ⟨by omega, by simp only [List.length_cons]; omega⟩), hj, show y - (y' + 1) = (j : Int) from by omega, rd_consS n t j (by omega), show ((j : Int) + 1).toNat = j + 1 from by omega, Int.toNat_natCast, List.take_succ_cons, List.sum_cons, show ((a + n.toNat : Nat) : Int) + (t.take j).sum = (a : Int) + (n + (t.take j).sum) from by omega]
      · rw [if_neg g, if_neg (show ¬ (y' ≤ y ∧ y < y' + ((n :: t).length : Int)) from fun k => g ⟨by omega, by simp only [List.length_cons] at k; omega⟩)]
theorem scan_day {first : Int} {months st : List Int} (ok : OkTbl first months st) {y m d : Int} (hd : -9223372036854775808 ≤ d ∧ d ≤ 9223372036854775807) : tdScan y m d 3 (tblD st first 0 months) = tblDay first months st y m d := by
  have := scan_tbl ok hd months first 0 ok.mo (by have := ok.sl; omega) (y := y) (m := m)
  rw [this]; unfold tblDay
  rw [show ((0 : Nat) : Int) = 0 from rfl]; simp only [Int.zero_add]
theorem fd_none (day : Int) : ∀ T : List S106, (∀ x ∈ T, ¬ (day ≥ x.f2 ∧ day < x.f3)) → fdScan day T = (0, 0, 0, 3)
  | [], _ => rfl
  | x :: t, h => by
    have h1 := h x (List.mem_cons_self ..)
    rw [fdScan, fd_none day t (fun z hz => h z (List.mem_cons_of_mem _ hz))]
    by_cases c : day ≥ x.f2
    · rw [if_pos c, if_neg (fun g => h1 ⟨c, g⟩)]
    · rw [if_neg c]
theorem mem_rows (y : Int) (st : List Int) : ∀ (c a : Nat) (m : Int) (x : S106), x ∈ rowsF y st c a m → ∃ i : Nat, a ≤ i ∧ i < a + c ∧ x.f2 = rd st (i : Int) ∧ x.f3 = rd st ((i : Int) + 1)
  | 0, _, _, _, h => by simp [rowsF] at h
  | c + 1, a, m, x, h => by
    rw [rowsF] at h
    rcases List.mem_cons.1 h with rfl | h
    · exact ⟨a, by omega, by omega, rfl, rfl⟩
    · obtain ⟨i, h1, h2, h3⟩ := mem_rows y st c (a + 1) (m + 1) x h
      exact ⟨i, by omega, by omega, h3⟩
theorem mem_tbl (st : List Int) : ∀ (ms : List Int) (y : Int) (a : Nat) (x : S106), okMonths ms → x ∈ tblD st y a ms → ∃ i : Nat, a ≤ i ∧ (i : Int) < a + ms.sum ∧ x.f2 = rd st (i : Int) ∧ x.f3 = rd st ((i : Int) + 1)
  | [], _, _, _, _, h => by simp [tblD] at h
  | n :: t, y, a, x, hm, h => by
    obtain ⟨h1, h2⟩ := (okMonths_cons n t).1 hm
    have st1 := sum_months t h2
    rw [tblD] at h
    rw [List.sum_cons]
    rcases List.mem_append.1 h with h | h
    · obtain ⟨i, g1, g2, g3⟩ := mem_rows y st _ _ _ x h
      exact ⟨i, g1, by omega, g3⟩
    · obtain ⟨i, g1, g2, g3⟩ := mem_tbl st t _ _ x h2 h
      exact ⟨i, by omega, by omega, g3⟩

theorem FromDay_l1 (n : ByteArray) {first : Int} {months st : List Int} (ok : OkTbl first months st) (h6 : st.length ≤ 600) (day : Int) (hd : -9223372036854775808 ≤ day ∧ day ≤ 9223372036854775807) (i N : Int) (hi : 0 ≤ i ∧ i ≤ 100) (hN : N ≤ 20) (ml : Int) (B : List S106) : ∀ (c k a : Nat) (m : Int), m + c = N + 1 → 1 ≤ m → a + c + 1 ≤ st.length → rd st (a : Int) ≤ day →
    (rd st ((a + c : Nat) : Int) ≤ day ∧ fdScan day (rowsF (first + i) st c a m ++ B) = fdScan day B ∧ observed_FromDay.l1 (k + c + 1) day (a : Int) i N m months ml i n first months st = observed_FromDay.l0 k day ((a + c : Nat) : Int) months ml (i + 1) n first months st) ∨
    (observed_FromDay.l1 (k + c + 1) day (a : Int) i N m months ml i n first months st = some (fdScan day (rowsF (first + i) st c a m ++ B))) := by
  have hf := ok.fst
  intro c
  induction c with
  | zero =>
    intro k a m h1 h2 h3 h4
    refine .inl ⟨h4, rfl, ?_⟩
    rw [Nat.add_zero, observed_FromDay.l1, if_neg (by omega), w64_id (n := i + 1) (by omega) (by omega), Nat.add_zero]
  | succ c ih =>
    intro k a m h1 h2 h3 h4
    have hb := ok.bnd a (by omega)
    rw [show k + (c + 1) + 1 = (k + c + 1) + 1 from by omega, observed_FromDay.l1, if_pos (by omega), w64_id (n := (a : Int) + 1) (by omega) (by omega), if_pos (by omega), if_pos (by omega), rowsF, List.cons_append, fdScan, if_pos h4]
    by_cases c1 : day < rd st ((a : Int) + 1)
    · have hs := ok.step a (by omega)
      rw [if_pos c1, if_pos c1, if_pos (by omega), if_pos (by omega), w64_id (n := first + i) (by omega) (by omega)]
      exact .inr rfl
    · have := ih k (a + 1) (m + 1) (by omega) (by omega) (by omega) (by rw [show ((a + 1 : Nat) : Int) = (a : Int) + 1 from by omega]; omega)
      rw [show ((a + 1 : Nat) : Int) = (a : Int) + 1 from by omega, show a + 1 + c = a + (c + 1) from by omega] at this
      rw [if_neg c1, if_neg c1, w64_id (n := m + 1) (by omega) (by omega)]
      exact this
theorem FromDay_l0 (n : ByteArray) {first : Int} {months st : List Int} (ok : OkTbl first months st) (h6 : st.length ≤ 600) (day : Int) (hd : -9223372036854775808 ≤ day ∧ day ≤ 9223372036854775807) : ∀ (d i k a : Nat), i + d = months.length → 20 * d + 5 < k → (a : Int) + (months.drop i).sum + 1 = st.length → rd st (a : Int) ≤ day →
    observed_FromDay.l0 k day (a : Int) months (months.length : Int) (i : Int) n first months st = some (fdScan day (tblD st (first + i) a (months.drop i))) := by
  have hl := ok.len
  intro d
  induction d with
  | zero =>
    intro i k a h1 h2 h3 h4
    obtain ⟨k, rfl⟩ : ∃ m, k = m + 1 := ⟨k - 1, by omega⟩
    rw [observed_FromDay.l0, if_neg (by omega), List.drop_of_length_le (by omega)]; rfl
  | succ d ih =>
    intro i k a h1 h2 h3 h4
    have hlt : i < months.length := by omega
    have hm := ok.mo months[i] (List.getElem_mem hlt)
    have hmd : okMonths (months.drop (i + 1)) := fun x hx => ok.mo x (List.mem_of_mem_drop hx)
    have hs := sum_months _ hmd
    rw [List.drop_eq_getElem_cons hlt, List.sum_cons] at h3
    obtain ⟨k, rfl⟩ : ∃ q, k = (q + months[i].toNat + 1) + 1 := ⟨k - months[i].toNat - 2, by omega⟩
    rw [observed_FromDay.l0, if_pos (by omega), if_pos (by omega), if_pos (by omega), rd_get months i hlt, List.drop_eq_getElem_cons hlt, tblD]
    rcases FromDay_l1 n ok h6 day hd (i : Int) months[i] (by omega) (by omega) (months.length : Int) (tblD st (first + i + 1) (a + months[i].toNat) (months.drop (i + 1))) months[i].toNat k a 1 (by omega) (by omega) (by omega) h4 with ⟨e1, e2, e3⟩ | e
    · rw [e2, e3]
      have := ih (i + 1) k (a + months[i].toNat) (by omega) (by omega) (by omega) e1
      rw [show ((i + 1 : Nat) : Int) = (i : Int) + 1 from by omega, ← Int.add_assoc] at this
      exact this
    · exact e
theorem observed_FromDay_f (n : ByteArray) (first : Int) (months st : List Int) (hf : -9223372036854775808 ≤ first ∧ first ≤ 9223372036854775807) (day : Int) (hd : -9223372036854775808 ≤ day ∧ day ≤ 9223372036854775807) (k : Nat) (hk : 2000 ≤ k) :
    observed_FromDay.f k n first months st day = some (if tblErr n first months st = 0 then fdScan day (tblD st first 0 months) else (0, 0, 0, tblErr n first months st)) := by
  obtain ⟨k, rfl⟩ : ∃ m, k = m + 1 := ⟨k - 1, by omega⟩
  unfold observed_FromDay.f
  rw [observed_Check_f n first months st hf (k + 1) (by omega), Option.bind_some]
  by_cases h : tblErr n first months st = 0
  rotate_left
  · rw [if_neg h, if_neg h]
  have ok := tblErr_ok h
  have hl := ok.len; have hs := sum_months _ ok.mo; have hsl := ok.sl
  rw [if_pos h, if_pos h, if_pos (by omega)]
  have jt : observed_FromDay.j0 (k + 1) day true n first months st = some (0, 0, 0, 3) := by rw [observed_FromDay.j0, if_pos rfl]
  have h600 : st.length ≤ 600 := by omega
  have hlast : wrap64 ((st.length : Int) - 1) = ((st.length - 1 : Nat) : Int) := by rw [w64_id (by omega) (by omega)]; omega
  by_cases c1 : day < rd st 0
  · rw [if_pos c1, jt]
    rw [fd_none day _ (fun x hx => ?_)]
    obtain ⟨i, h1, h2, h3, h4⟩ := mem_tbl st months first 0 x ok.mo hx
    have hm := ok.mono 0 i (by omega)
    rw [Nat.zero_add] at hm
    rw [show ((0 : Nat) : Int) = 0 from rfl] at hm
    omega
  rw [if_neg c1, hlast, if_pos (by omega), if_pos (by omega)]
  by_cases c2 : day ≥ rd st ((st.length - 1 : Nat) : Int)
  · rw [decide_eq_true c2, jt]
    rw [fd_none day _ (fun x hx => ?_)]
    obtain ⟨i, h1, h2, h3, h4⟩ := mem_tbl st months first 0 x ok.mo hx
    have hm := ok.mono (i + 1) (st.length - 1 - (i + 1)) (by omega)
    rw [show i + 1 + (st.length - 1 - (i + 1)) = st.length - 1 from by omega, show ((i + 1 : Nat) : Int) = (i : Int) + 1 from by omega] at hm
    omega
  · rw [decide_eq_false c2, observed_FromDay.j0, if_neg (by decide)]
    have := FromDay_l0 n ok h600 day hd months.length 0 k 0 (by omega) (by omega) (by simp; omega) (by rw [show ((0 : Nat) : Int) = 0 from rfl]; omega)
    simpa using this

theorem ToDay_l0 (n : ByteArray) {first : Int} {months st : List Int} (ok : OkTbl first months st) (y m d : Int) (hy : first ≤ y ∧ y < first + months.length) (hm' : -9223372036854775808 ≤ m ∧ m ≤ 9223372036854775807) (hd : -9223372036854775808 ≤ d ∧ d ≤ 9223372036854775807) : ∀ (g i k : Nat), (i : Int) + g = y - first → g + 10 < k →
    observed_ToDay.l0 k (months.take i).sum (months.take (y - first).toNat) (((months.take (y - first).toNat).length : Nat) : Int) (i : Int) n first months st y m d = some (tblDay first months st y m d) := by
  have hl := ok.len; have hf := ok.fst; have hsl := ok.sl
  have hlen : (months.take (y - first).toNat).length = (y - first).toNat := by rw [List.length_take]; omega
  have hsum : ∀ j : Nat, j ≤ months.length → 12 * (j : Int) ≤ (months.take j).sum ∧ (months.take j).sum ≤ 13 * j := by
    intro j hj
    have := sum_months (months.take j) (fun x hx => ok.mo x (List.mem_of_mem_take hx))
    rw [List.length_take, Nat.min_eq_left hj] at this; exact this
  intro g
  induction g with
  | zero =>
    intro i k h1 h2
    obtain ⟨k, rfl⟩ : ∃ m, k = m + 1 := ⟨k - 1, by omega⟩
    obtain ⟨k, rfl⟩ : ∃ m, k = m + 1 := ⟨k - 1, by omega⟩
    have hs := hsum i (by omega)
    have hlt : i < months.length := by omega
    have hsp : months.sum = (months.take i).sum + (months[i] + (months.drop (i + 1)).sum) := by
      have : months.take i ++ months.drop i = months := List.take_append_drop i months
      have h3 : months.sum = (months.take i ++ months.drop i).sum := by rw [this]
      rw [h3, List.sum_append, List.drop_eq_getElem_cons hlt, List.sum_cons]
    have hmd : okMonths (months.drop (i + 1)) := fun x hx => ok.mo x (List.mem_of_mem_drop hx)
    have hs2 := sum_months _ hmd
    have hmi := ok.mo months[i] (List.getElem_mem hlt)
    unfold tblDay
    rw [observed_ToDay.l0, if_neg (by omega), if_pos hy, show y - first = (i : Int) from by omega, Int.toNat_natCast, w64_id (n := (i : Int)) (by omega) (by omega), rd_get months i hlt, if_pos (show (0 : Int) ≤ (i : Int) by omega), if_pos (show (i : Int) < (months.length : Int) by omega)]
    generalize hS : (months.take i).sum = S at *
    have jt : observed_ToDay.j2 (k + 1) S true n first months st y m d = some (0, 1) := by rw [observed_ToDay.j2, if_pos rfl]
    by_cases c1 : m < 1
    · rw [if_pos c1, jt, if_neg (fun h => by omega)]
    rw [if_neg c1]
    by_cases c2 : m > months[i]
    · rw [decide_eq_true c2, jt, if_neg (fun h => by omega)]
    rw [decide_eq_false c2, observed_ToDay.j2, if_neg (by decide)]
    by_cases c3 : d < 1
    · rw [if_pos c3, if_neg (fun h => by omega)]
    obtain ⟨p, hp⟩ : ∃ p : Nat, S + (m - 1) = (p : Int) := ⟨(S + (m - 1)).toNat, by omega⟩
    have hst := ok.step p (by omega)
    have hb1 := ok.bnd p (by omega)
    rw [if_neg c3, w64_id (n := m - 1) (by omega) (by omega), w64_id (n := S + (m - 1)) (by omega) (by omega), hp, w64_id (n := (p : Int) + 1) (by omega) (by omega), if_pos (by omega), if_pos (by omega), if_pos (by omega), if_pos (by omega), w64_id (n := rd st ((p : Int) + 1) - rd st (p : Int)) (by omega) (by omega),
      show S + m - 1 = (p : Int) from by omega, show S + m = (p : Int) + 1 from by omega]
    by_cases c4 : d > rd st ((p : Int) + 1) - rd st (p : Int)
    · rw [if_pos c4, if_neg (fun h => by omega)]
    · rw [if_neg c4, if_pos (by omega), w64_id (n := rd st (p : Int) + d) (by omega) (by omega), w64_id (n := rd st (p : Int) + d - 1) (by omega) (by omega)]
  | succ g ih =>
    intro i k h1 h2
    obtain ⟨k, rfl⟩ : ∃ m, k = m + 1 := ⟨k - 1, by omega⟩
    have hlt : i < months.length := by omega
    have hs := hsum i (by omega)
    have hmi := ok.mo months[i] (List.getElem_mem hlt)
    have hr : rd (months.take (y - first).toNat) (i : Int) = months[i] := by rw [rd_get _ i (by omega), List.getElem_take]
    have ih := ih (i + 1) k (by omega) (by omega)
    rw [← take_snoc' months i hlt, List.sum_append, List.sum_singleton, show ((i + 1 : Nat) : Int) = (i : Int) + 1 from by omega] at ih
    rw [observed_ToDay.l0, if_pos (by omega), if_pos (by omega), if_pos (by omega), hr, w64_id (n := (months.take i).sum + months[i]) (by omega) (by omega), w64_id (n := (i : Int) + 1) (by omega) (by omega)]
    exact ih
theorem observed_ToDay_f (n : ByteArray) (first : Int) (months st : List Int) (hf : -9223372036854775808 ≤ first ∧ first ≤ 9223372036854775807) (y m d : Int) (hm' : -9223372036854775808 ≤ m ∧ m ≤ 9223372036854775807) (hd : -9223372036854775808 ≤ d ∧ d ≤ 9223372036854775807) (k : Nat) (hk : 2000 ≤ k) :
    observed_ToDay.f k n first months st y m d = some (if tblErr n first months st = 0 then tblDay first months st y m d else (0, tblErr n first months st)) := by
  obtain ⟨k, rfl⟩ : ∃ m, k = m + 1 := ⟨k - 1, by omega⟩
  unfold observed_ToDay.f
  rw [observed_Check_f n first months st hf (k + 1) (by omega), Option.bind_some]
  by_cases h : tblErr n first months st = 0
  rotate_left
  · rw [if_neg h, if_neg h]
  have ok := tblErr_ok h
  have hl := ok.len; have hfs := ok.fst
  rw [if_pos h, if_pos h]
  have jt : observed_ToDay.j0 (k + 1) true n first months st y m d = some (0, 3) := by rw [observed_ToDay.j0, if_pos rfl]
  by_cases c1 : y < first
  · rw [if_pos c1, jt]; unfold tblDay; rw [if_neg (fun g => by omega)]
  rw [if_neg c1, w64_id (n := first + (months.length : Int)) (by omega) (by omega), w64_id (n := first + (months.length : Int) - 1) (by omega) (by omega)]
  by_cases c2 : y > first + (months.length : Int) - 1
  · rw [decide_eq_true c2, jt]; unfold tblDay; rw [if_neg (fun g => by omega)]
  · rw [decide_eq_false c2, observed_ToDay.j0, if_neg (by decide), w64_id (n := y - first) (by omega) (by omega), if_pos (by omega), if_pos (by omega)]
    have := ToDay_l0 n ok y m d (by omega) hm' hd (y - first).toNat 0 k (by omega) (by omega)
    simpa using this

theorem TableDates_l1 (n : ByteArray) {first : Int} {months st : List Int} (ok : OkTbl first months st) (i N : Int) (hi : 0 ≤ i ∧ i ≤ 100) (hN : N ≤ 20) (ml : Int) : ∀ (c k : Nat) (P : List S106) (m : Int), m + c = N + 1 → 1 ≤ m → P.length + c + 1 ≤ st.length → st.length ≤ 600 →
    ephemerisref1_TableDates.l1 (k + c + 1) P i N m months ml i n first months st = ephemerisref1_TableDates.l0 k (P ++ rowsF (first + i) st c P.length m) months ml (i + 1) n first months st := by
  have hf := ok.fst
  intro c
  induction c with
  | zero =>
    intro k P m h1 h2 h3 h4
    rw [Nat.add_zero, ephemerisref1_TableDates.l1, if_neg (by omega), w64_id (n := i + 1) (by omega) (by omega), rowsF, List.append_nil]
  | succ c ih =>
    intro k P m h1 h2 h3 h4
    rw [show k + (c + 1) + 1 = (k + c + 1) + 1 from by omega, ephemerisref1_TableDates.l1, if_pos (by omega), if_pos (by omega), if_pos (by omega), w64_id (n := (P.length : Int) + 1) (by omega) (by omega), if_pos (by omega), if_pos (by omega), if_pos (by omega), w64_id (n := first + i) (by omega) (by omega), w64_id (n := m + 1) (by omega) (by omega)]
    rw [ih k _ (m + 1) (by omega) (by omega) (by rw [List.length_append, List.length_singleton]; omega) h4, List.length_append, List.length_singleton, rowsF, List.append_assoc, List.singleton_append]
theorem TableDates_l0 (n : ByteArray) {first : Int} {months st : List Int} (ok : OkTbl first months st) (h6 : st.length ≤ 600) : ∀ (d i k : Nat) (P : List S106), i + d = months.length → 20 * d + 5 < k → (P.length : Int) + (months.drop i).sum + 1 = st.length →
    ephemerisref1_TableDates.l0 k P months (months.length : Int) (i : Int) n first months st = some (P ++ tblD st (first + i) P.length (months.drop i)) := by
  have hl := ok.len
  intro d
  induction d with
  | zero =>
    intro i k P h1 h2 h3
    obtain ⟨k, rfl⟩ : ∃ m, k = m + 1 := ⟨k - 1, by omega⟩
    rw [ephemerisref1_TableDates.l0, if_neg (by omega), List.drop_of_length_le (by omega), tblD, List.append_nil]
  | succ d ih =>
    intro i k P h1 h2 h3
    have hlt : i < months.length := by omega
    have hm := ok.mo months[i] (List.getElem_mem hlt)
    have hmd : okMonths (months.drop (i + 1)) := fun x hx => ok.mo x (List.mem_of_mem_drop hx)
    have hs := sum_months _ hmd
    rw [List.drop_eq_getElem_cons hlt, List.sum_cons] at h3
    obtain ⟨k, rfl⟩ : ∃ q, k = (q + months[i].toNat + 1) + 1 := ⟨k - months[i].toNat - 2, by omega⟩
    rw [ephemerisref1_TableDates.l0, if_pos (by omega), if_pos (by omega), if_pos (by omega), rd_get months i hlt, TableDates_l1 n ok (i : Int) months[i] (by omega) (by omega) _ months[i].toNat k P 1 (by omega) (by omega) (by omega) h6, List.drop_eq_getElem_cons hlt, tblD]
    have := ih (i + 1) k (P ++ rowsF (first + i) st months[i].toNat P.length 1) (by omega) (by omega) (by rw [List.length_append, rowsF_len]; omega)
    rw [show ((i + 1 : Nat) : Int) = (i : Int) + 1 from by omega] at this
    rw [this, List.length_append, rowsF_len, List.append_assoc, Int.add_assoc]
theorem ephemerisref1_TableDates_f (n : ByteArray) {first : Int} {months st : List Int} (ok : OkTbl first months st) (k : Nat) (hk : 2000 ≤ k) : ephemerisref1_TableDates.f k n first months st = some (tblD st first 0 months) := by
  have hl := ok.len; have hs := sum_months _ ok.mo; have := ok.sl
  unfold ephemerisref1_TableDates.f
  have := TableDates_l0 n ok (by omega) months.length 0 k [] (by omega) (by omega) (by simp; omega)
  simpa using this

theorem TableToDay_l0 (T : List S106) (hT : T.length ≤ 1000) (y m d : Int) : ∀ (g i k : Nat) (e : Int), i + g = T.length → g < k → ephemerisref1_TableToDay.l0 k e T (T.length : Int) (i : Int) y m d = some (tdScan y m d e (T.drop i)) := by
  intro g
  induction g with
  | zero =>
    intro i k e h1 h2
    obtain ⟨k, rfl⟩ : ∃ m, k = m + 1 := ⟨k - 1, by omega⟩
    rw [ephemerisref1_TableToDay.l0, if_neg (by omega), List.drop_of_length_le (by omega), tdScan]
  | succ g ih =>
    intro i k e h1 h2
    obtain ⟨k, rfl⟩ : ∃ m, k = m + 1 := ⟨k - 1, by omega⟩
    have hlt : i < T.length := by omega
    have ih := fun e => ih (i + 1) k e (by omega) (by omega)
    rw [ephemerisref1_TableToDay.l0, if_pos (by omega), if_pos (by omega), if_pos (by omega), rd_row T i hlt, w64_id (n := (i : Int) + 1) (by omega) (by omega), show (i : Int) + 1 = ((i + 1 : Nat) : Int) from by omega, ih, ih, List.drop_eq_getElem_cons hlt, tdScan]
    split
    · split
      · split
        · split
          · split <;> rfl
          · rfl
        · rfl
      · rfl
    · rfl
theorem ephemerisref1_TableToDay_f (n : ByteArray) {first : Int} {months st : List Int} (ok : OkTbl first months st) (hT : (tblD st first 0 months).length ≤ 1000) (y m d : Int) (k : Nat) (hk : 2000 ≤ k) : ephemerisref1_TableToDay.f k n first months st y m d = some (tdScan y m d 3 (tblD st first 0 months)) := by
  unfold ephemerisref1_TableToDay.f
  rw [ephemerisref1_TableDates_f n ok k hk, Option.bind_some]
  have := TableToDay_l0 (tblD st first 0 months) hT y m d (tblD st first 0 months).length 0 k 3 (by omega) (by omega)
  simpa using this

theorem TableFromDay_l0 (T : List S106) (hT : T.length ≤ 1000) (day : Int) : ∀ (g i k : Nat), i + g = T.length → g < k → ephemerisref1_TableFromDay.l0 k day T (T.length : Int) (i : Int) = some (fdScan day (T.drop i)) := by
  intro g
  induction g with
  | zero =>
    intro i k h1 h2
    obtain ⟨k, rfl⟩ : ∃ m, k = m + 1 := ⟨k - 1, by omega⟩
    rw [ephemerisref1_TableFromDay.l0, if_neg (by omega), List.drop_of_length_le (by omega), fdScan]
  | succ g ih =>
    intro i k h1 h2
    obtain ⟨k, rfl⟩ : ∃ m, k = m + 1 := ⟨k - 1, by omega⟩
    have hlt : i < T.length := by omega
    have ih := ih (i + 1) k (by omega) (by omega)
    rw [ephemerisref1_TableFromDay.l0, if_pos (by omega), if_pos (by omega), if_pos (by omega), rd_row T i hlt, w64_id (n := (i : Int) + 1) (by omega) (by omega), show (i : Int) + 1 = ((i + 1 : Nat) : Int) from by omega, ih, List.drop_eq_getElem_cons hlt, fdScan]
    split
    · split <;> rfl
    · rfl
theorem ephemerisref1_TableFromDay_f (n : ByteArray) {first : Int} {months st : List Int} (ok : OkTbl first months st) (hT : (tblD st first 0 months).length ≤ 1000) (day : Int) (k : Nat) (hk : 2000 ≤ k) : ephemerisref1_TableFromDay.f k n first months st day = some (fdScan day (tblD st first 0 months)) := by
  unfold ephemerisref1_TableFromDay.f
  rw [ephemerisref1_TableDates_f n ok k hk, Option.bind_some]
  have := TableFromDay_l0 (tblD st first 0 months) hT day (tblD st first 0 months).length 0 k (by omega) (by omega)
  simpa using this

theorem ObservedDates : ephemerislaw1_ObservedDates.Pure := by
  intro name first months st y m d day _ hf _ _ _ hm hd hday
  have hf := wf_i64 hf
  have hm := wf_i64 hm
  have hd := wf_i64 hd
  have hday := wf_i64 hday
  obtain ⟨K, hK⟩ : ∃ K : Nat, 5000 ≤ K := ⟨_, Nat.le_refl _⟩
  refine ⟨K + 1, ?_⟩
  have n1 : isName (⟨#[116, 97, 98, 108, 101]⟩ : ByteArray) = true := by unfold isName noWord; rw [toList_data]; decide
  have e0 : tblErr (⟨#[116, 97, 98, 108, 101]⟩ : ByteArray) 5 [12] [100, 130, 160, 190, 220, 250, 280, 310, 340, 370, 400, 430, 460] = 0 := by
    unfold tblErr
    rw [if_pos n1]
    have h : stFrom none [100, 130, 160, 190, 220, 250, 280, 310, 340, 370, 400, 430, 460] = 0 := by
      simp [stFrom]
    rw [h]; decide
  unfold ephemerislaw1_ObservedDates.f
  rw [ephemerislaw1_year12_f (K + 1) (by omega), Option.bind_some]
  simp only
  rw [observed_FromDay_f _ 5 _ _ (by decide) 131 (by decide) (K + 1) (by omega), e0, if_pos rfl, Option.bind_some]
  have e1 : fdScan 131 (tblD [100, 130, 160, 190, 220, 250, 280, 310, 340, 370, 400, 430, 460] 5 0 [12]) = (5, 1 + 1, wrap64 (wrap64 (131 - 130) + 1), 0) := by rfl
  rw [w64_id (n := 131 - 130) (by decide) (by decide), w64_id (n := 131 - 130 + 1) (by decide) (by decide), show (1 : Int) + 1 = 2 from rfl, show (131 : Int) - 130 + 1 = 2 from rfl] at e1
  rw [e1]
  simp only [beq_self_eq_true, Bool.not_true, Bool.or_self, Bool.false_eq_true, if_false, bne_self_eq_false, ephemerislaw1_ObservedDates.j0]
  rw [observed_ToDay_f name first months st hf y m d hm hd K (by omega), observed_FromDay_f name first months st hf day hday K (by omega), ephemerisref1_TableError_f _ _ _ _ hf K (by omega), Option.bind_some, Option.bind_some, Option.bind_some]
  by_cases h : tblErr name first months st = 0
  · have ok := tblErr_ok h
    rw [if_pos h, if_pos h, if_pos h, ephemerisref1_TableToDay_f name ok (ok_len ok) y m d K (by omega), ephemerisref1_TableFromDay_f name ok (ok_len ok) day K (by omega), Option.bind_some, Option.bind_some, scan_day ok hd, if_pos rfl, if_pos rfl]; simp
  · rw [if_neg h, if_neg h, if_neg h]; simp
end Go.Proofs.Yteogcbhlilechaa.Pure
