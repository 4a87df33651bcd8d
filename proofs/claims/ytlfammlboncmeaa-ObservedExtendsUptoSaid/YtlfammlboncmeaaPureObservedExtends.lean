/- The law ObservedExtends over numbers and lists: what the law's functions tell, and that the law holds. -/
import Derived.Test.YtlfammlboncmeaaPObservedExtendsx5
import Derived.Test.YtlfammlboncmeaaM
import Derived.Test.YtlfammlboncmeaaT
import Derived.Test.YtlfammlboncmeaaL
import Derived.Test.YtlfammlboncmeaaB
import Derived.Test.YtlfammlboncmeaaO
namespace Go.Proofs.Ytlfammlboncmeaa.Pure
open Go.RowKit Go.Proofs.Ytlfammlboncmeaa.PObservedExtends Go.Proofs.YtlfammlboncmeaaW.PrintWords Go.Proofs.YtlfammlboncmeaaW.PrintLast Go.Proofs.Ytlfammlboncmeaa.M Go.Proofs.Ytlfammlboncmeaa.T Go.Proofs.Ytlfammlboncmeaa.L Go.Proofs.Ytlfammlboncmeaa.B Go.Proofs.Ytlfammlboncmeaa.O
set_option linter.unusedVariables false
set_option linter.unusedSimpArgs false
/-- The law over numbers and lists. -/
def ephemerislaw1_ObservedExtends.Pure : Prop := ∀ (a0_0 : ByteArray) (a0_1 : Int) (l0_2 : List (Int)) (l0_3 : List (Int)) (l1 : List (Int)), a0_0.size ≤ 140737488351232 → (Lit.int .i64 a0_1).wf = true → (l0_2.length * 8 ≤ 140737488351232 ∧ l0_2.length ≤ 9223372036854775807 ∧ ∀ v ∈ l0_2, (Lit.int .i64 v).wf = true) → (l0_3.length * 8 ≤ 140737488351232 ∧ l0_3.length ≤ 9223372036854775807 ∧ ∀ v ∈ l0_3, (Lit.int .i64 v).wf = true) → (l1.length * 8 ≤ 140737488351232 ∧ l1.length ≤ 9223372036854775807 ∧ ∀ v ∈ l1, (Lit.int .i64 v).wf = true) → ∃ k, ephemerislaw1_ObservedExtends.f k a0_0 a0_1 l0_2 l0_3 l1 = some true

theorem line_Check_f (x : Int) : line_Check.f x = some (if -4000000 ≤ x ∧ x ≤ 4000000 then 0 else 3) := by
  unfold line_Check.f
  by_cases h : x < -4000000
  · rw [if_pos h, if_neg (by omega)]
  · rw [if_neg h]
    by_cases h2 : x > 4000000
    · rw [if_pos h2, if_neg (by omega)]
    · rw [if_neg h2, if_pos (by omega)]

theorem rule_Name_f (s : ByteArray) : rule_Name.f s = some (isName s) := by
  have e : rule_Name.all s.data.toList = letters s.data.toList := rfl
  unfold rule_Name.f isName noWord
  rw [e]
  congr 1
  by_cases h1 : (s.size : Int) < 1
  · rw [if_pos h1, decide_eq_false (show ¬ 1 ≤ s.size by omega)]; rfl
  rw [if_neg h1, decide_eq_true (show 1 ≤ s.size by omega)]
  by_cases h2 : (s.size : Int) > 12
  · rw [if_pos h2, decide_eq_false (show ¬ s.size ≤ 12 by omega)]; rfl
  rw [if_neg h2, decide_eq_true (show s.size ≤ 12 by omega)]
  by_cases c1 : s.toList = [121]
  · rw [if_pos c1]; simp [c1]
  rw [if_neg c1, bne_iff_ne.2 c1]
  by_cases c2 : s.toList = [97, 110, 100]
  · rw [if_pos c2]; simp [c2]
  rw [if_neg c2, bne_iff_ne.2 c2]
  by_cases c3 : s.toList = [111, 114]
  · rw [if_pos c3]; simp [c3]
  rw [if_neg c3, bne_iff_ne.2 c3]
  by_cases c4 : s.toList = [110, 111, 116]
  · rw [if_pos c4]; simp [c4]
  rw [if_neg c4, bne_iff_ne.2 c4]
  rfl

theorem observed_l1 (name : ByteArray) (first : Int) (months l : List Int) (hl : l.length ≤ 600) : ∀ (d i k : Nat), i + d = l.length → d < k → (0 < i → -4000000 ≤ rd l ((i : Int) - 1) ∧ rd l ((i : Int) - 1) ≤ 4000000) →
    observed_Check.l1 k l (l.length : Int) (i : Int) name first months l = some (stFrom (prevN l i) (l.drop i)) := by
  intro d
  induction d with
  | zero =>
    intro i k hi hk hb
    obtain ⟨k, rfl⟩ : ∃ m, k = m + 1 := ⟨k - 1, by omega⟩
    simp only [observed_Check.l1]
    rw [if_neg (by omega), List.drop_of_length_le (by omega)]
    rfl
  | succ d ih =>
    intro i k hi hk hb
    obtain ⟨k, rfl⟩ : ∃ m, k = m + 1 := ⟨k - 1, by omega⟩
    have hlt : i < l.length := by omega
    simp only [observed_Check.l1]
    rw [List.drop_eq_getElem_cons hlt, rd_get l i hlt, line_Check_f, if_pos (by omega), if_pos (by omega), if_pos (by omega)]
    simp only [Option.bind_some, stFrom]
    by_cases c2 : -4000000 ≤ l[i] ∧ l[i] ≤ 4000000
    · have ih := ih (i + 1) k (by omega) (by omega) (fun _ => by rw [show ((i + 1 : Nat) : Int) - 1 = (i : Int) from by omega, rd_get l i hlt]; exact c2)
      rw [prevN_succ l i hlt, show ((i + 1 : Nat) : Int) = (i : Int) + 1 from by omega] at ih
      rw [if_pos c2, if_pos c2, if_pos rfl, w64_id (n := (i : Int) + 1) (by omega) (by omega)]
      by_cases c3 : (i : Int) > 0
      · have hp : prevN l i = some (rd l ((i : Int) - 1)) := by unfold prevN; rw [if_neg (by omega)]
        have hb := hb (by omega)
        rw [if_pos c3, w64_id (n := (i : Int) - 1) (by omega) (by omega), if_pos (by omega), if_pos (by omega), hp, w64_id (n := rd l ((i : Int) - 1) + 40) (by omega) (by omega)]
        by_cases c4 : l[i] ≤ rd l ((i : Int) - 1)
        · rw [if_pos c4, if_pos ⟨_, rfl, by omega⟩]
        · rw [if_neg c4]
          by_cases c5 : l[i] > rd l ((i : Int) - 1) + 40
          · rw [if_pos c5, if_pos ⟨_, rfl, by omega⟩]
          · rw [if_neg c5, if_neg (fun ⟨q, h, h2⟩ => h2 (by cases h; omega)), ih]
      · have hp : prevN l i = none := by unfold prevN; rw [if_pos (by omega)]
        rw [if_neg c3, hp, if_neg (fun ⟨q, h, _⟩ => by cases h), ih]
    · rw [if_neg c2, if_neg c2, if_neg (by omega)]
theorem observed_l0 (name : ByteArray) (first : Int) (months starts : List Int) (hm : months.length ≤ 40) : ∀ (d i k : Nat) (acc : Int), i + d = months.length → 700 + d < k → 0 ≤ acc → acc ≤ 13 * i + 1 →
    observed_Check.l0 k acc months (months.length : Int) (i : Int) name first months starts = (if okMonths (months.drop i) then (if (starts.length : Int) = acc + (months.drop i).sum then some (stFrom none starts) else some 8) else some 8) := by
  intro d
  induction d with
  | zero =>
    intro i k acc hi hk h0 h1
    obtain ⟨k, rfl⟩ : ∃ m, k = m + 1 := ⟨k - 1, by omega⟩
    conv => lhs; unfold observed_Check.l0
    rw [if_neg (by omega), List.drop_of_length_le (by omega), if_pos (show okMonths [] from fun _ h => by cases h), List.sum_nil, Int.add_zero]
    by_cases c : (starts.length : Int) = acc
    · rw [if_pos c, if_pos c]
      have := observed_l1 name first months starts (by omega) starts.length 0 k (by omega) (by omega) (fun h => by omega)
      exact this
    · rw [if_neg c, if_neg c]
  | succ d ih =>
    intro i k acc hi hk h0 h1
    obtain ⟨k, rfl⟩ : ∃ m, k = m + 1 := ⟨k - 1, by omega⟩
    have hlt : i < months.length := by omega
    conv => lhs; unfold observed_Check.l0
    rw [if_pos (by omega), if_pos (by omega), if_pos (by omega), rd_get months i hlt, List.drop_eq_getElem_cons hlt, List.sum_cons]
    by_cases c : months[i] = 12 ∨ months[i] = 13
    · have e : (if months[i] = 12 then (observed_Check.l0 k (wrap64 (acc + months[i])) months (months.length : Int) (wrap64 ((i : Int) + 1)) name first months starts) else (if months[i] = 13 then (observed_Check.l0 k (wrap64 (acc + months[i])) months (months.length : Int) (wrap64 ((i : Int) + 1)) name first months starts) else (some 8))) = observed_Check.l0 k (acc + months[i]) months (months.length : Int) ((i + 1 : Nat) : Int) name first months starts := by
        rw [w64_id (n := acc + months[i]) (by omega) (by omega), w64_id (n := (i : Int) + 1) (by omega) (by omega), show ((i + 1 : Nat) : Int) = (i : Int) + 1 from by omega]
        rcases c with c | c
        · rw [if_pos c]
        · rw [if_neg (by omega), if_pos c]
      rw [e, ih (i + 1) k (acc + months[i]) (by omega) (by omega) (by omega) (by omega), Int.add_assoc]
      by_cases c2 : okMonths (months.drop (i + 1))
      · rw [if_pos c2, if_pos ((okMonths_cons _ _).2 ⟨c, c2⟩)]
      · rw [if_neg c2, if_neg (fun h => c2 ((okMonths_cons _ _).1 h).2)]
    · rw [if_neg (fun h => c (.inl h)), if_neg (fun h => c (.inr h)), if_neg (fun h => c ((okMonths_cons _ _).1 h).1)]
theorem observed_Check_f (name : ByteArray) (first : Int) (months starts : List Int) (hf : -9223372036854775808 ≤ first ∧ first ≤ 9223372036854775807) (k : Nat) (hk : 1000 ≤ k) : observed_Check.f k name first months starts = some (tblErr name first months starts) := by
  obtain ⟨k, rfl⟩ : ∃ m, k = m + 2 := ⟨k - 2, by omega⟩
  unfold observed_Check.f tblErr
  rw [rule_Name_f, Option.bind_some]
  by_cases h1 : isName name = true
  · rw [if_pos h1, if_pos h1]
    have hj : (if (months.length : Int) < 1 then (observed_Check.j0 (k + 2) true name first months starts) else (observed_Check.j0 (k + 2) (decide ((months.length : Int) > 40)) name first months starts)) = observed_Check.j0 (k + 2) (decide (¬ (1 ≤ months.length ∧ months.length ≤ 40))) name first months starts := by
      by_cases c1 : (months.length : Int) < 1
      · rw [if_pos c1, dec_not_true (by omega)]
      rw [if_neg c1]
      by_cases c2 : (months.length : Int) > 40
      · rw [decide_eq_true c2, dec_not_true (by omega)]
      · rw [decide_eq_false c2, dec_not_false (by omega)]
    rw [hj]
    simp only [observed_Check.j0]
    by_cases h2 : 1 ≤ months.length ∧ months.length ≤ 40
    · rw [dec_not_false h2, if_neg (by decide), if_pos h2, w64_id (n := 10000 - (months.length : Int)) (by omega) (by omega), w64_id (n := 10000 - (months.length : Int) + 1) (by omega) (by omega)]
      have hj1 : (if first < (-10000) then (observed_Check.j1 (k + 1) true name first months starts) else (observed_Check.j1 (k + 1) (decide (first > 10000 - (months.length : Int) + 1)) name first months starts)) = observed_Check.j1 (k + 1) (decide (¬ (-10000 ≤ first ∧ first + months.length ≤ 10001))) name first months starts := by
        by_cases c1 : first < -10000
        · rw [if_pos c1, dec_not_true (by omega)]
        rw [if_neg c1]
        by_cases c2 : first > 10000 - (months.length : Int) + 1
        · rw [decide_eq_true c2, dec_not_true (by omega)]
        · rw [decide_eq_false c2, dec_not_false (by omega)]
      rw [hj1]
      simp only [observed_Check.j1]
      by_cases h3 : -10000 ≤ first ∧ first + months.length ≤ 10001
      · rw [dec_not_false h3, if_neg (by decide), if_pos h3]
        have := observed_l0 name first months starts h2.2 months.length 0 k 1 (by omega) (by omega) (by omega) (by omega)
        rw [List.drop_zero, show ((0 : Nat) : Int) = 0 from rfl] at this
        rw [this]
        by_cases h4 : okMonths months
        · rw [if_pos h4, if_pos h4]
          by_cases h5 : (starts.length : Int) = months.sum + 1
          · rw [if_pos h5, if_pos (by omega)]
          · rw [if_neg h5, if_neg (by omega)]
        · rw [if_neg h4, if_neg h4]
      · rw [dec_not_true h3, if_pos rfl, if_neg h3]
    · rw [dec_not_true h2, if_pos rfl, if_neg h2]
  · rw [if_neg h1, if_neg h1]

theorem slices_Clone_int_int_f (l : List Int) (h : l.length < 17592186044416) : slices_Clone_int_int.f l = some l := by
  unfold slices_Clone_int_int.f
  rw [Option.bind_some, if_pos (by simpa using h)]
  simp

structure OkTbl (first : Int) (months st : List Int) : Prop where
  len : 1 ≤ months.length ∧ months.length ≤ 40
  fst : -10000 ≤ first ∧ first + months.length ≤ 10001
  mo : okMonths months
  sl : (st.length : Int) = months.sum + 1
  step : ∀ i : Nat, i + 1 < st.length → rd st (i : Int) < rd st ((i : Int) + 1) ∧ rd st ((i : Int) + 1) ≤ rd st (i : Int) + 40
  bnd : ∀ i : Nat, i < st.length → -4000000 ≤ rd st (i : Int) ∧ rd st (i : Int) ≤ 4000000
theorem rd_cons0 (x : Int) (t : List Int) : rd (x :: t) 0 = x := by have := rd_get (x :: t) 0 (by simp); simpa using this
theorem rd_consS (x : Int) (t : List Int) (i : Nat) (h : i < t.length) : rd (x :: t) ((i : Int) + 1) = rd t (i : Int) := by
  rw [show (i : Int) + 1 = ((i + 1 : Nat) : Int) from by omega, rd_get (x :: t) (i + 1) (by simp; omega), rd_get t i h]; rfl
theorem stFrom_ok : ∀ (l : List Int) (p : Option Int), stFrom p l = 0 → (∀ i : Nat, i < l.length → -4000000 ≤ rd l (i : Int) ∧ rd l (i : Int) ≤ 4000000) ∧ (∀ i : Nat, i + 1 < l.length → rd l (i : Int) < rd l ((i : Int) + 1) ∧ rd l ((i : Int) + 1) ≤ rd l (i : Int) + 40) ∧ (∀ q, p = some q → ∀ h : 0 < l.length, q < rd l 0 ∧ rd l 0 ≤ q + 40)
  | [], _, _ => ⟨fun i h => by simp at h, fun i h => by simp at h, fun _ _ h => by simp at h⟩
  | x :: t, p, h => by
    unfold stFrom at h
    by_cases c1 : -4000000 ≤ x ∧ x ≤ 4000000
    rotate_left
    · rw [if_neg c1] at h; cases h
    rw [if_pos c1] at h
    by_cases c2 : ∃ q, p = some q ∧ ¬ (q < x ∧ x ≤ q + 40)
    · rw [if_pos c2] at h; cases h
    rw [if_neg c2] at h
    obtain ⟨h1, h2, h3⟩ := stFrom_ok t (some x) h
    refine ⟨fun i hi => ?_, fun i hi => ?_, fun q hq _ => ?_⟩
    · cases i with
      | zero => rw [show ((0 : Nat) : Int) = 0 from rfl, rd_cons0]; exact c1
      | succ i => rw [show ((i + 1 : Nat) : Int) = (i : Int) + 1 from by omega, rd_consS x t i (by simpa using hi)]; exact h1 i (by simpa using hi)
    · cases i with
      | zero =>
        have ht : 0 < t.length := by simpa using hi
        have := h3 x rfl ht
        have e := rd_consS x t 0 ht
        rw [show ((0 : Nat) : Int) = 0 from rfl] at e ⊢
        rw [rd_cons0, e]; exact this
      | succ i =>
        have hi' : i + 1 < t.length := by simpa using hi
        have e := rd_consS x t (i + 1) hi'
        rw [show ((i + 1 : Nat) : Int) = (i : Int) + 1 from by omega] at e ⊢
        rw [e, rd_consS x t i (by omega)]
        exact h2 i hi'
    · rw [rd_cons0]
      by_cases c : q < x ∧ x ≤ q + 40
      · exact c
      · exact absurd ⟨q, hq, c⟩ c2
theorem tblErr_ok {name : ByteArray} {first : Int} {months st : List Int} (h : tblErr name first months st = 0) : OkTbl first months st := by
  unfold tblErr at h
  by_cases c1 : isName name = true
  rotate_left
  · rw [if_neg c1] at h; cases h
  rw [if_pos c1] at h
  by_cases c2 : 1 ≤ months.length ∧ months.length ≤ 40
  rotate_left
  · rw [if_neg c2] at h; cases h
  rw [if_pos c2] at h
  by_cases c3 : -10000 ≤ first ∧ first + months.length ≤ 10001
  rotate_left
  · rw [if_neg c3] at h; cases h
  rw [if_pos c3] at h
  by_cases c4 : okMonths months
  rotate_left
  · rw [if_neg c4] at h; cases h
  rw [if_pos c4] at h
  by_cases c5 : (st.length : Int) = months.sum + 1
  rotate_left
  · rw [if_neg c5] at h; cases h
  rw [if_pos c5] at h
  obtain ⟨h1, h2, _⟩ := stFrom_ok st none h
  exact ⟨c2, c3, c4, c5, h2, h1⟩
theorem OkTbl.mono {first : Int} {months st : List Int} (ok : OkTbl first months st) (i : Nat) : ∀ d : Nat, i + d < st.length → rd st (i : Int) ≤ rd st ((i + d : Nat) : Int)
  | 0, _ => Int.le_refl _
  | d + 1, h => by
    have h1 := ok.mono i d (by omega)
    have h2 := (ok.step (i + d) (by omega)).1
    rw [show ((i + (d + 1) : Nat) : Int) = ((i + d : Nat) : Int) + 1 from by omega]; omega

theorem observed_Extend_f (n : ByteArray) (first : Int) (months st l : List Int) (hf : -9223372036854775808 ≤ first ∧ first ≤ 9223372036854775807) (k : Nat) (hk : 2000 ≤ k) :
    observed_Extend.f k n first months st l = some (if tblErr n first months st = 0 then (if l.length = 12 ∨ l.length = 13 then (if tblErr n first (months ++ [(l.length : Int)]) (st ++ l) = 0 then (n, first, months ++ [(l.length : Int)], st ++ l, 0) else (⟨#[]⟩, 0, [], [], tblErr n first (months ++ [(l.length : Int)]) (st ++ l))) else (⟨#[]⟩, 0, [], [], 1)) else (⟨#[]⟩, 0, [], [], tblErr n first months st)) := by
  obtain ⟨k, rfl⟩ : ∃ m, k = m + 1 := ⟨k - 1, by omega⟩
  unfold observed_Extend.f
  rw [observed_Check_f n first months st hf (k + 1) (by omega), Option.bind_some]
  by_cases h : tblErr n first months st = 0
  rotate_left
  · rw [if_neg h, if_neg h]
  have ok := tblErr_ok h
  have hl := ok.len; have hs := sum_months _ ok.mo; have hsl := ok.sl
  rw [if_pos h, if_pos h]
  have cl : ∀ z : List Int, z.length < 17592186044416 → slices_Clone_int_int.f z = some z := by
    intro z hz
    unfold slices_Clone_int_int.f
    rw [Option.bind_some, if_pos (by simpa using hz)]; rfl
  have jf : l.length = 12 ∨ l.length = 13 → observed_Extend.j0 (k + 1) l false n first months st = some (if tblErr n first (months ++ [(l.length : Int)]) (st ++ l) = 0 then (n, first, months ++ [(l.length : Int)], st ++ l, 0) else (⟨#[]⟩, 0, [], [], tblErr n first (months ++ [(l.length : Int)]) (st ++ l))) := by
    intro hc
    rw [observed_Extend.j0, if_neg (by decide), cl months (by omega), Option.bind_some, Option.bind_some, if_pos (by simp only [List.length_singleton]; omega), Option.bind_some, cl st (by omega), Option.bind_some, if_pos (by omega), Option.bind_some, observed_Check_f n first _ _ hf k (by omega), Option.bind_some]
    by_cases g : tblErr n first (months ++ [(l.length : Int)]) (st ++ l) = 0
    · rw [if_pos g, if_pos g]
    · rw [if_neg g, if_neg g]
  by_cases c1 : (l.length : Int) = 12
  · rw [if_pos c1, jf (by omega), if_pos (show l.length = 12 ∨ l.length = 13 by omega)]
  rw [if_neg c1, bne_dec]
  by_cases c2 : (l.length : Int) = 13
  · rw [decide_eq_false (fun g => g c2), jf (by omega), if_pos (show l.length = 12 ∨ l.length = 13 by omega)]
  · rw [decide_eq_true c2, observed_Extend.j0, if_pos rfl, if_neg (show ¬ (l.length = 12 ∨ l.length = 13) by omega)]

theorem ephemerislaw1_year12_f (k : Nat) (hk : 20 ≤ k) : ephemerislaw1_year12.f k = some ((⟨#[116, 97, 98, 108, 101]⟩ : ByteArray), 5, [12], [100, 130, 160, 190, 220, 250, 280, 310, 340, 370, 400, 430, 460]) := by
  obtain ⟨k, rfl⟩ : ∃ m, k = m + 14 := ⟨k - 14, by omega⟩
  unfold ephemerislaw1_year12.f
  have st : ∀ (j : Nat) (i : Int) (l : List Int), 0 ≤ i → i < 13 → l.length ≤ 20 → ephemerislaw1_year12.l0 (j + 1) i (⟨#[116, 97, 98, 108, 101]⟩ : ByteArray) 5 [12] l = ephemerislaw1_year12.l0 j (i + 1) (⟨#[116, 97, 98, 108, 101]⟩ : ByteArray) 5 [12] (l ++ [100 + 30 * i]) := by
    intro j i l h0 h1 h2
    conv => lhs; unfold ephemerislaw1_year12.l0
    rw [if_pos h1, if_pos (by omega), w64_id (n := i + 1) (by omega) (by omega), w64_id (n := 30 * i) (by omega) (by omega), w64_id (n := 100 + 30 * i) (by omega) (by omega)]
  rw [st _ 0 _ (by omega) (by omega) (by simp), show (0 : Int) + 1 = 1 from rfl, st _ 1 _ (by omega) (by omega) (by simp), show (1 : Int) + 1 = 2 from rfl, st _ 2 _ (by omega) (by omega) (by simp), show (2 : Int) + 1 = 3 from rfl, st _ 3 _ (by omega) (by omega) (by simp), show (3 : Int) + 1 = 4 from rfl, st _ 4 _ (by omega) (by omega) (by simp), show (4 : Int) + 1 = 5 from rfl, st _ 5 _ (by omega) (by omega) (by simp), show (5 : Int) + 1 = 6 from rfl, st _ 6 _ (by omega) (by omega) (by simp), show (6 : Int) + 1 = 7 from rfl, st _ 7 _ (by omega) (by omega) (by simp), show (7 : Int) + 1 = 8 from rfl, st _ 8 _ (by omega) (by omega) (by simp), show (8 : Int) + 1 = 9 from rfl, st _ 9 _ (by omega) (by omega) (by simp), show (9 : Int) + 1 = 10 from rfl, st _ 10 _ (by omega) (by omega) (by simp), show (10 : Int) + 1 = 11 from rfl, st _ 11 _ (by omega) (by omega) (by simp), show (11 : Int) + 1 = 12 from rfl, st _ 12 _ (by omega) (by omega) (by simp), show (12 : Int) + 1 = 13 from rfl]
  conv => lhs; unfold ephemerislaw1_year12.l0
  rw [if_neg (by omega)]
  rfl

theorem ephemerisref1_In_f (x lo hi : Int) : ephemerisref1_In.f x lo hi = some (decide (lo ≤ x ∧ x ≤ hi)) := by
  unfold ephemerisref1_In.f
  by_cases h : x ≥ lo
  · rw [if_pos h]; congr 1; simp; omega
  · rw [if_neg h]; congr 1; simp; omega

theorem ephemerisref1_Day_f (x : Int) : ephemerisref1_Day.f x = some (decide (-4000000 ≤ x ∧ x ≤ 4000000)) := by
  unfold ephemerisref1_Day.f
  rw [ephemerisref1_In_f]; rfl

theorem ephemerisref1_Name_l0 (s : ByteArray) (hs : s.size ≤ 12) : ∀ (d i k : Nat), i + d = s.size → d < k →
    ephemerisref1_Name.l0 k s (s.size : Int) (i : Int) = some (noWord s && letters (s.data.toList.drop i)) := by
  intro d
  induction d with
  | zero =>
    intro i k hi hk
    obtain ⟨k, rfl⟩ : ∃ m, k = m + 1 := ⟨k - 1, by omega⟩
    obtain rfl : i = s.size := by omega
    simp only [ephemerisref1_Name.l0]
    rw [if_neg (by omega), letters_end, Bool.and_true]
    unfold noWord
    by_cases c1 : s.toList = [121]
    · rw [if_pos c1]; simp [c1]
    rw [if_neg c1, bne_iff_ne.2 c1]
    by_cases c2 : s.toList = [97, 110, 100]
    · rw [if_pos c2]; simp [c2]
    rw [if_neg c2, bne_iff_ne.2 c2]
    by_cases c3 : s.toList = [111, 114]
    · rw [if_pos c3]; simp [c3]
    rw [if_neg c3, bne_iff_ne.2 c3]
    rfl
  | succ d ih =>
    intro i k hi hk
    obtain ⟨k, rfl⟩ : ∃ m, k = m + 1 := ⟨k - 1, by omega⟩
    simp only [ephemerisref1_Name.l0]
    rw [if_pos (by omega), if_pos (by omega), if_pos (by omega), letters_cons s i (by omega)]
    by_cases c1 : bt s i < 97
    · rw [if_pos c1, decide_eq_false (show ¬ 97 ≤ bt s i by omega)]; simp
    rw [if_neg c1, decide_eq_true (show 97 ≤ bt s i by omega)]
    by_cases c2 : bt s i > 122
    · rw [if_pos c2, decide_eq_false (show ¬ bt s i ≤ 122 by omega)]; simp
    rw [if_neg c2, decide_eq_true (show bt s i ≤ 122 by omega), w64_id (by omega) (by omega)]
    have := ih (i + 1) k (by omega) (by omega)
    rw [show ((i + 1 : Nat) : Int) = (i : Int) + 1 from by omega] at this
    rw [this]; simp
theorem ephemerisref1_Name_f (s : ByteArray) (k : Nat) (hk : 20 ≤ k) : ephemerisref1_Name.f k s = some (isName s) := by
  obtain ⟨k, rfl⟩ : ∃ m, k = m + 1 := ⟨k - 1, by omega⟩
  unfold ephemerisref1_Name.f isName
  by_cases h1 : s.toList = []
  · rw [if_pos h1, decide_eq_false (show ¬ 1 ≤ s.size by have := (toList_nil s).1 h1; omega)]
    simp [ephemerisref1_Name.j0]
  have h1' : ¬ s.size = 0 := fun h => h1 ((toList_nil s).2 h)
  rw [if_neg h1, decide_eq_true (show 1 ≤ s.size by omega)]
  simp only [ephemerisref1_Name.j0, decide_eq_true_eq]
  by_cases h2 : (s.size : Int) > 12
  · rw [if_pos h2, decide_eq_false (show ¬ s.size ≤ 12 by omega)]; rfl
  rw [if_neg h2, decide_eq_true (show s.size ≤ 12 by omega)]
  exact ephemerisref1_Name_l0 s (by omega) s.size 0 k (by omega) (by omega)

theorem tableError_l1 (name : ByteArray) (first : Int) (months l : List Int) (hl : l.length ≤ 600) : ∀ (d i k : Nat), i + d = l.length → d < k → (0 < i → -4000000 ≤ rd l ((i : Int) - 1) ∧ rd l ((i : Int) - 1) ≤ 4000000) →
    ephemerisref1_TableError.l1 k l (l.length : Int) (i : Int) name first months l = some (stFrom (prevN l i) (l.drop i)) := by
  intro d
  induction d with
  | zero =>
    intro i k hi hk hb
    obtain ⟨k, rfl⟩ : ∃ m, k = m + 1 := ⟨k - 1, by omega⟩
    simp only [ephemerisref1_TableError.l1]
    rw [if_neg (by omega), List.drop_of_length_le (by omega)]
    rfl
  | succ d ih =>
    intro i k hi hk hb
    obtain ⟨k, rfl⟩ : ∃ m, k = m + 1 := ⟨k - 1, by omega⟩
    have hlt : i < l.length := by omega
    simp only [ephemerisref1_TableError.l1]
    rw [List.drop_eq_getElem_cons hlt, rd_get l i hlt, ephemerisref1_Day_f, if_pos (by omega), if_pos (by omega), if_pos (by omega)]
    simp only [Option.bind_some, stFrom, decide_eq_true_eq]
    by_cases c2 : -4000000 ≤ l[i] ∧ l[i] ≤ 4000000
    · have ih := ih (i + 1) k (by omega) (by omega) (fun _ => by rw [show ((i + 1 : Nat) : Int) - 1 = (i : Int) from by omega, rd_get l i hlt]; exact c2)
      rw [prevN_succ l i hlt, show ((i + 1 : Nat) : Int) = (i : Int) + 1 from by omega] at ih
      rw [if_pos c2, if_pos c2, w64_id (n := (i : Int) + 1) (by omega) (by omega)]
      by_cases c3 : (i : Int) > 0
      · have hp : prevN l i = some (rd l ((i : Int) - 1)) := by unfold prevN; rw [if_neg (by omega)]
        have hb := hb (by omega)
        rw [if_pos c3, w64_id (n := (i : Int) - 1) (by omega) (by omega), if_pos (by omega), if_pos (by omega), hp, w64_id (n := l[i] - rd l ((i : Int) - 1)) (by omega) (by omega), ephemerisref1_In_f]
        simp only [Option.bind_some, decide_eq_true_eq]
        by_cases c4 : 1 ≤ l[i] - rd l ((i : Int) - 1) ∧ l[i] - rd l ((i : Int) - 1) ≤ 40
        · rw [if_pos c4, if_neg (fun ⟨q, h, h2⟩ => h2 (by cases h; omega)), ih]
        · rw [if_neg c4, if_pos ⟨_, rfl, by omega⟩]
      · have hp : prevN l i = none := by unfold prevN; rw [if_pos (by omega)]
        rw [if_neg c3, hp, if_neg (fun ⟨q, h, _⟩ => by cases h), ih]
    · rw [if_neg c2, if_neg c2]
theorem tableError_l0 (name : ByteArray) (first : Int) (months starts : List Int) (hm : months.length ≤ 40) : ∀ (d i k : Nat) (acc : Int), i + d = months.length → 700 + d < k → 0 ≤ acc → acc ≤ 13 * i →
    ephemerisref1_TableError.l0 k acc months (months.length : Int) (i : Int) name first months starts = (if okMonths (months.drop i) then (if (starts.length : Int) = acc + (months.drop i).sum + 1 then some (stFrom none starts) else some 8) else some 8) := by
  intro d
  induction d with
  | zero =>
    intro i k acc hi hk h0 h1
    obtain ⟨k, rfl⟩ : ∃ m, k = m + 1 := ⟨k - 1, by omega⟩
    conv => lhs; unfold ephemerisref1_TableError.l0
    rw [if_neg (by omega), List.drop_of_length_le (by omega), if_pos (show okMonths [] from fun _ h => by cases h), List.sum_nil, Int.add_zero, w64_id (by omega) (by omega)]
    by_cases c : (starts.length : Int) = acc + 1
    · rw [if_pos c, if_pos c]
      have := tableError_l1 name first months starts (by omega) starts.length 0 k (by omega) (by omega) (fun h => by omega)
      exact this
    · rw [if_neg c, if_neg c]
  | succ d ih =>
    intro i k acc hi hk h0 h1
    obtain ⟨k, rfl⟩ : ∃ m, k = m + 1 := ⟨k - 1, by omega⟩
    have hlt : i < months.length := by omega
    conv => lhs; unfold ephemerisref1_TableError.l0
    rw [if_pos (by omega), if_pos (by omega), if_pos (by omega), rd_get months i hlt, List.drop_eq_getElem_cons hlt, List.sum_cons, ephemerisref1_In_f, Option.bind_some]
    simp only [decide_eq_true_eq]
    by_cases c : 12 ≤ months[i] ∧ months[i] ≤ 13
    · rw [if_pos c, w64_id (n := acc + months[i]) (by omega) (by omega), w64_id (n := (i : Int) + 1) (by omega) (by omega), show (i : Int) + 1 = ((i + 1 : Nat) : Int) from by omega]
      rw [ih (i + 1) k (acc + months[i]) (by omega) (by omega) (by omega) (by omega), Int.add_assoc acc]
      by_cases c2 : okMonths (months.drop (i + 1))
      · rw [if_pos c2, if_pos ((okMonths_cons _ _).2 ⟨by omega, c2⟩)]
      · rw [if_neg c2, if_neg (fun h => c2 ((okMonths_cons _ _).1 h).2)]
    · rw [if_neg c, if_neg (fun h => c (by have := ((okMonths_cons _ _).1 h).1; omega))]
theorem ephemerisref1_TableError_f (name : ByteArray) (first : Int) (months starts : List Int) (hf : -9223372036854775808 ≤ first ∧ first ≤ 9223372036854775807) (k : Nat) (hk : 1000 ≤ k) : ephemerisref1_TableError.f k name first months starts = some (tblErr name first months starts) := by
  obtain ⟨k, rfl⟩ : ∃ m, k = m + 1 := ⟨k - 1, by omega⟩
  unfold ephemerisref1_TableError.f tblErr
  rw [ephemerisref1_Name_f _ _ (by omega), ephemerisref1_In_f, ephemerisref1_In_f]
  simp only [Option.bind_some, decide_eq_true_eq]
  by_cases h1 : isName name = true
  · rw [if_pos h1, if_pos h1]
    by_cases h2 : 1 ≤ months.length ∧ months.length ≤ 40
    · rw [if_pos (show (1 : Int) ≤ months.length ∧ (months.length : Int) ≤ 40 by omega), if_pos h2]
      by_cases h3 : -10000 ≤ first ∧ first ≤ 10000
      · rw [if_pos h3, w64_id (n := first + months.length) (by omega) (by omega), w64_id (n := first + months.length - 1) (by omega) (by omega)]
        simp only [ephemerisref1_TableError.j0, decide_eq_true_eq]
        by_cases h4 : first + months.length - 1 > 10000
        · rw [if_pos h4, if_neg (show ¬ (-10000 ≤ first ∧ first + months.length ≤ 10001) by omega)]
        · rw [if_neg h4, if_pos (show -10000 ≤ first ∧ first + months.length ≤ 10001 by omega)]
          have := tableError_l0 name first months starts h2.2 months.length 0 k 0 (by omega) (by omega) (by omega) (by omega)
          rw [List.drop_zero, show ((0 : Nat) : Int) = 0 from rfl, Int.zero_add] at this
          rw [this]
          by_cases h4 : okMonths months
          · rw [if_pos h4, if_pos h4]
            by_cases h5 : (starts.length : Int) = months.sum + 1
            · rw [if_pos h5, if_pos h5]
            · rw [if_neg h5, if_neg h5]
          · rw [if_neg h4, if_neg h4]
      · rw [if_neg h3, if_neg (show ¬ (-10000 ≤ first ∧ first + months.length ≤ 10001) by omega)]
        simp only [ephemerisref1_TableError.j0, if_true]
    · rw [if_neg (show ¬ ((1 : Int) ≤ months.length ∧ (months.length : Int) ≤ 40) by omega), if_neg h2]
  · rw [if_neg h1, if_neg h1]

theorem ephemerisref1_SameInts_l0 (a b : List Int) (hl : a.length = b.length) (hm : a.length ≤ 9223372036854775807) : ∀ (d i k : Nat), i + d = a.length → d < k →
    ephemerisref1_SameInts.l0 k a b (a.length : Int) (i : Int) = some (decide (a.drop i = b.drop i)) := by
  intro d
  induction d with
  | zero =>
    intro i k hi hk
    obtain ⟨k, rfl⟩ : ∃ m, k = m + 1 := ⟨k - 1, by omega⟩
    conv => lhs; unfold ephemerisref1_SameInts.l0
    rw [if_neg (by omega), List.drop_of_length_le (by omega), List.drop_of_length_le (by omega)]; rfl
  | succ d ih =>
    intro i k hi hk
    obtain ⟨k, rfl⟩ : ∃ m, k = m + 1 := ⟨k - 1, by omega⟩
    have h1 : i < a.length := by omega
    have h2 : i < b.length := by omega
    conv => lhs; unfold ephemerisref1_SameInts.l0
    rw [if_pos (by omega), if_pos (by omega), if_pos (by omega), if_pos (by omega), rd_get a i h1, rd_get b i h2, List.drop_eq_getElem_cons h1, List.drop_eq_getElem_cons h2]
    by_cases c : a[i] = b[i]
    · rw [if_pos c, w64_id (n := (i : Int) + 1) (by omega) (by omega)]
      have := ih (i + 1) k (by omega) (by omega)
      rw [show ((i + 1 : Nat) : Int) = (i : Int) + 1 from by omega] at this
      rw [this]
      congr 1
      apply decide_eq_decide.2
      constructor
      · intro h; rw [c, h]
      · intro h; exact (List.cons.inj h).2
    · rw [if_neg c]
      congr 1
      symm
      exact decide_eq_false (fun h => c (List.cons.inj h).1)
theorem ephemerisref1_SameInts_f (a b : List Int) (hm : a.length ≤ 9223372036854775807) (k : Nat) (hk : a.length < k) : ephemerisref1_SameInts.f k a b = some (decide (a = b)) := by
  unfold ephemerisref1_SameInts.f
  by_cases c : a.length = b.length
  · rw [if_pos (by omega)]
    exact ephemerisref1_SameInts_l0 a b c hm a.length 0 k (by omega) hk
  · rw [if_neg (by omega)]
    congr 1
    symm
    exact decide_eq_false (fun h => c (by rw [h]))

theorem ephemerisref1_SameTable_f (n : ByteArray) (first : Int) (a b : List Int) (ha : a.length ≤ 9223372036854775807) (hb : b.length ≤ 9223372036854775807) (k : Nat) (h1 : a.length < k) (h2 : b.length < k) : ephemerisref1_SameTable.f k n first a b n first a b = some true := by
  unfold ephemerisref1_SameTable.f
  rw [if_pos rfl, if_pos rfl, ephemerisref1_SameInts_f a a ha k h1, Option.bind_some, decide_eq_true rfl, if_pos rfl, ephemerisref1_SameInts_f b b hb k h2, Option.bind_some, decide_eq_true rfl]

theorem moreL (j : Nat) (K : Nat) (hj : j ≤ 12) (x1 : List Int) (n : ByteArray) (e : Int) (ms st : List Int) : ∀ (d i : Nat), i + d = 12 → ephemerislaw1_ObservedExtends.l0 (K + d) x1 (((List.range i).map fun (z : Nat) => (490 + 30 * (z : Int))) ++ List.replicate d 0) 12 (i : Int) n e ms st = ephemerislaw1_ObservedExtends.l0 K x1 ((List.range 12).map fun (z : Nat) => (490 + 30 * (z : Int))) 12 12 n e ms st := by
  intro d
  induction d with
  | zero =>
    intro i hi
    obtain rfl : i = 12 := by omega
    simp only [List.replicate_zero, List.append_nil, Nat.add_zero]; rfl
  | succ d ih =>
    intro i hi
    have ih := ih (i + 1) (by omega)
    rw [show K + (d + 1) = (K + d) + 1 from by omega, ephemerislaw1_ObservedExtends.l0, if_pos (by omega), if_pos (by omega), if_pos (by simp; omega), w64_id (n := 30 * (i : Int)) (by omega) (by omega), w64_id (n := 490 + 30 * (i : Int)) (by omega) (by omega), w64_id (n := (i : Int) + 1) (by omega) (by omega)]
    have e : ((((List.range i).map fun (z : Nat) => (490 + 30 * (z : Int))) ++ List.replicate (d + 1) 0).set (i : Int).toNat (490 + 30 * (i : Int))) = ((List.range (i + 1)).map fun (z : Nat) => (490 + 30 * (z : Int))) ++ List.replicate d 0 := by
      rw [Int.toNat_natCast, List.set_append_right _ _ (by simp), List.length_map, List.length_range, Nat.sub_self, List.replicate_succ, List.set_cons_zero, List.range_succ, List.map_append, List.append_assoc]; rfl
    rw [e, ← ih, show ((i + 1 : Nat) : Int) = (i : Int) + 1 from by omega]
theorem ObservedExtends (name : ByteArray) (first : Int) (months st l : List Int) (hf : (Lit.int .i64 first).wf = true) (hms : months.length ≤ 1048576) (hst : st.length ≤ 1048576) (hl : l.length ≤ 1048576) : ∃ k, ephemerislaw1_ObservedExtends.f k name first months st l = some true := by
  have hf := wf_i64 hf
  obtain ⟨K, hK⟩ : ∃ K : Nat, l.length + months.length + st.length + 5000 ≤ K := ⟨_, Nat.le_refl _⟩
  refine ⟨K + 14, ?_⟩
  have n1 : isName (⟨#[116, 97, 98, 108, 101]⟩ : ByteArray) = true := by unfold isName noWord; rw [toList_data]; decide
  have e0 : tblErr (⟨#[116, 97, 98, 108, 101]⟩ : ByteArray) 5 [12] [100, 130, 160, 190, 220, 250, 280, 310, 340, 370, 400, 430, 460] = 0 := by
    unfold tblErr
    rw [if_pos n1]
    have h : stFrom none [100, 130, 160, 190, 220, 250, 280, 310, 340, 370, 400, 430, 460] = 0 := by
      simp [stFrom]
    rw [h]; decide
  have e2 : tblErr (⟨#[116, 97, 98, 108, 101]⟩ : ByteArray) 5 [12, 12] [100, 130, 160, 190, 220, 250, 280, 310, 340, 370, 400, 430, 460, 490, 520, 550, 580, 610, 640, 670, 700, 730, 760, 790, 820] = 0 := by
    unfold tblErr
    rw [if_pos n1]
    have h : stFrom none [100, 130, 160, 190, 220, 250, 280, 310, 340, 370, 400, 430, 460, 490, 520, 550, 580, 610, 640, 670, 700, 730, 760, 790, 820] = 0 := by
      simp [stFrom]
    rw [h]; decide
  unfold ephemerislaw1_ObservedExtends.f
  rw [if_pos (by decide), Option.bind_some, show K + 14 = (K + 2) + 12 from by omega]
  have hm := moreL 0 (K + 2) (by omega) l name first months st 12 0 (by omega)
  rw [show ((0 : Nat) : Int) = 0 from rfl, List.range_zero, List.map_nil, List.nil_append] at hm
  rw [show ((List.replicate 12 (0 : Int)).length : Int) = 12 from by simp, hm]
  rw [show ((List.range 12).map fun (z : Nat) => (490 + 30 * (z : Int))) = [490, 520, 550, 580, 610, 640, 670, 700, 730, 760, 790, 820] from by decide]
  rw [ephemerislaw1_ObservedExtends.l0, if_neg (by decide), ephemerislaw1_year12_f (K + 1) (by omega), Option.bind_some]
  simp only
  rw [observed_Extend_f _ 5 _ _ _ (by decide) (K + 1) (by omega), e0, if_pos rfl, if_pos (.inl (by decide))]
  rw [show ([12] ++ [((([490, 520, 550, 580, 610, 640, 670, 700, 730, 760, 790, 820] : List Int).length : Nat) : Int)] : List Int) = [12, 12] from by decide, show ([100, 130, 160, 190, 220, 250, 280, 310, 340, 370, 400, 430, 460] ++ [490, 520, 550, 580, 610, 640, 670, 700, 730, 760, 790, 820] : List Int) = [100, 130, 160, 190, 220, 250, 280, 310, 340, 370, 400, 430, 460, 490, 520, 550, 580, 610, 640, 670, 700, 730, 760, 790, 820] from rfl, e2, if_pos rfl, Option.bind_some, if_pos rfl, if_pos (by decide), if_pos (by decide)]
  rw [show (rd [100, 130, 160, 190, 220, 250, 280, 310, 340, 370, 400, 430, 460, 490, 520, 550, 580, 610, 640, 670, 700, 730, 760, 790, 820] 24 != 820) = false from by decide, ephemerislaw1_ObservedExtends.j1, if_neg (by decide)]
  rw [observed_Extend_f name first months st l hf K (by omega), ephemerisref1_TableError_f _ _ _ _ hf K (by omega), Option.bind_some, Option.bind_some]
  obtain ⟨K, rfl⟩ : ∃ m, K = m + 3 := ⟨K - 3, by omega⟩
  have same0 : ∀ k, 5 ≤ k → ephemerisref1_SameTable.f k (⟨#[]⟩ : ByteArray) 0 [] [] (⟨#[]⟩ : ByteArray) 0 [] [] = some true := fun k hk => ephemerisref1_SameTable_f _ _ _ _ (by simp) (by simp) k (by simp; omega) (by simp; omega)
  have j3 : ∀ x10 x11 d0 d1 d2 d3, ephemerislaw1_ObservedExtends.j3 (K + 2) l x10 x11 name first months st d0 d1 d2 d3 = ephemerislaw1_ObservedExtends.j4 (K + 1) x10 (if x11 = 0 then tblErr name first (months ++ [(l.length : Int)]) (st ++ l) else x11) d0 d1 d2 d3 name first (months ++ [(l.length : Int)]) (st ++ l) := by
    intro x10 x11 d0 d1 d2 d3
    rw [ephemerislaw1_ObservedExtends.j3, if_pos (by simp only [List.length_nil]; omega), Option.bind_some, if_pos (by simp only [List.nil_append]; omega), Option.bind_some, if_pos (by simp only [List.length_nil]; omega), Option.bind_some, if_pos (by simp only [List.nil_append]; omega), Option.bind_some, List.nil_append, List.nil_append]
    by_cases c : x11 = 0
    · rw [if_pos c, if_pos c, ephemerisref1_TableError_f _ _ _ _ hf (K + 1) (by omega), Option.bind_some]
    · rw [if_neg c, if_neg c]
  have j4n : ∀ x10 e d0 d1 d2 d3, e ≠ 0 → d0 = (⟨#[]⟩ : ByteArray) → d1 = 0 → d2 = [] → d3 = [] → ephemerislaw1_ObservedExtends.j4 (K + 1) x10 e d0 d1 d2 d3 name first (months ++ [(l.length : Int)]) (st ++ l) = some (x10 == e) := by
    intro x10 e d0 d1 d2 d3 he h0 h1 h2 h3
    subst h0 h1 h2 h3
    rw [ephemerislaw1_ObservedExtends.j4, if_neg he, same0 K (by omega), Option.bind_some, if_pos rfl]
  by_cases h : tblErr name first months st = 0
  rotate_left
  · rw [if_neg h, if_neg h]
    simp only
    rw [ephemerislaw1_ObservedExtends.j2, if_neg (by decide), j3, if_neg h, j4n _ _ _ _ _ _ h rfl rfl rfl rfl]; simp
  rw [if_pos h, if_pos h, h]
  by_cases c : l.length = 12 ∨ l.length = 13
  · rw [if_pos c]
    have hb : (if (l.length : Int) = 12 then false else ((l.length : Int) != 13)) = false := by
      rcases c with c | c
      · rw [if_pos (by omega)]
      · rw [if_neg (by omega), bne_dec, decide_eq_false (by omega)]
    have hj : ∀ x10 d0 d1 d2 d3, (if (l.length : Int) = 12 then ephemerislaw1_ObservedExtends.j2 (K + 3) l x10 0 false name first months st d0 d1 d2 d3 else ephemerislaw1_ObservedExtends.j2 (K + 3) l x10 0 ((l.length : Int) != 13) name first months st d0 d1 d2 d3) = ephemerislaw1_ObservedExtends.j4 (K + 1) x10 (tblErr name first (months ++ [(l.length : Int)]) (st ++ l)) d0 d1 d2 d3 name first (months ++ [(l.length : Int)]) (st ++ l) := by
      intro x10 d0 d1 d2 d3
      have e : (if (l.length : Int) = 12 then ephemerislaw1_ObservedExtends.j2 (K + 3) l x10 0 false name first months st d0 d1 d2 d3 else ephemerislaw1_ObservedExtends.j2 (K + 3) l x10 0 ((l.length : Int) != 13) name first months st d0 d1 d2 d3) = ephemerislaw1_ObservedExtends.j2 (K + 3) l x10 0 false name first months st d0 d1 d2 d3 := by
        by_cases g : (l.length : Int) = 12
        · rw [if_pos g]
        · rw [if_neg g] at hb ⊢; rw [hb]
      rw [e, ephemerislaw1_ObservedExtends.j2, if_neg (by decide), j3, if_pos rfl]
    by_cases g : tblErr name first (months ++ [(l.length : Int)]) (st ++ l) = 0
    · rw [if_pos g]; simp only
      rw [hj, g, ephemerislaw1_ObservedExtends.j4, if_pos rfl, if_pos rfl, ephemerisref1_SameTable_f name first _ _ (by simp; omega) (by simp; omega) K (by simp; omega) (by simp; omega), Option.bind_some]
    · rw [if_neg g]; simp only
      rw [hj, j4n _ _ _ _ _ _ g rfl rfl rfl rfl]; simp
  · rw [if_neg c]; simp only
    rw [if_neg (by omega), bne_dec, decide_eq_true (by omega), ephemerislaw1_ObservedExtends.j2, if_pos rfl, j3, if_neg (by decide), j4n _ _ _ _ _ _ (by decide) rfl rfl rfl rfl]; simp
end Go.Proofs.Ytlfammlboncmeaa.Pure
