/- The law PageChecks over numbers and lists: what the law's functions tell, and that the law holds. -/
import Derived.Test.YtblmcfebfdegbaaDoorPPageChecksx5
import Derived.Test.YtblmcfebfdegbaaDoorM
import Derived.Test.YtblmcfebfdegbaaDoorO
import Derived.Test.YtblmcfebfdegbaaDoorT
import Derived.Test.YtblmcfebfdegbaaDoorZ
import Derived.Lib.SlTrimSet
namespace Go.Proofs.YtblmcfebfdegbaaDoor.Pure
open Go.RowKit Go.Proofs.YtblmcfebfdegbaaDoor.PPageChecks Go.Proofs.YtblmcfebfdegbaaDoorW.PrintWords Go.Proofs.YtblmcfebfdegbaaDoorW.PrintLast Go.Proofs.YtblmcfebfdegbaaDoor.M Go.Proofs.YtblmcfebfdegbaaDoor.O Go.Proofs.YtblmcfebfdegbaaDoor.T Go.Proofs.YtblmcfebfdegbaaDoor.Z
set_option linter.unusedVariables false
set_option linter.unusedSimpArgs false
/-- The law over numbers and lists. -/
def ephemerislaw1_PageChecks.Pure : Prop := ∀ (l0_0 : List (ByteArray)) (l0_1 : List (List (ByteArray))), (l0_0.length * 16 ≤ 140737488351232 ∧ l0_0.length ≤ 9223372036854775807 ∧ ∀ v ∈ l0_0, v.size ≤ 140737488351232) → (l0_1.length * 24 ≤ 140737488351232 ∧ l0_1.length ≤ 9223372036854775807 ∧ ∀ v ∈ l0_1, (v.length * 16 ≤ 140737488351232 ∧ v.length ≤ 9223372036854775807 ∧ ∀ u ∈ v, u.size ≤ 140737488351232)) → ∃ k, ephemerislaw1_PageChecks.f k l0_0 l0_1 = some true

theorem ephemerisref1_In_f (x lo hi : Int) : ephemerisref1_In.f x lo hi = some (decide (lo ≤ x ∧ x ≤ hi)) := by
  unfold ephemerisref1_In.f
  by_cases h : x ≥ lo
  · rw [if_pos h]; congr 1; simp; omega
  · rw [if_neg h]; congr 1; simp; omega

theorem size_list (s : ByteArray) : s.size = s.data.toList.length := rfl
theorem pref_f (s : ByteArray) (hs : s.size ≤ 281474976710656) : strings_HasPrefix.f s (⟨#[32]⟩ : ByteArray) = some (decide (s.data.toList.head? = some 32)) := by
  obtain ⟨⟨l⟩⟩ := s
  have h1 : (⟨#[32]⟩ : ByteArray).size = 1 := rfl
  unfold strings_HasPrefix.f stringslite_HasPrefix.f
  rw [h1]
  cases l with
  | nil => rfl
  | cons c r =>
    have hz : (⟨⟨c :: r⟩⟩ : ByteArray).size = r.length + 1 := rfl
    rw [if_pos (by omega), if_pos (by omega), if_pos (by omega), Option.bind_some]
    have e1 : ((⟨⟨c :: r⟩⟩ : ByteArray).extract 0 (((1 : Nat) : Int)).toNat).toList = [c] := by
      rw [toList_data, ByteArray.data_extract]
      simp
    have e2 : (⟨#[32]⟩ : ByteArray).toList = [32] := by rw [toList_data]
    rw [e1, e2]
    congr 1
    show ([c] == [32]) = decide ((c :: r).head? = some 32)
    by_cases hc : c = 32
    · subst hc; rfl
    · rw [decide_eq_false (by simpa using hc), beq_eq_false_iff_ne]
      intro e; exact hc (List.cons.inj e).1
theorem suff_f (s : ByteArray) (hs : s.size ≤ 281474976710656) : strings_HasSuffix.f s (⟨#[32]⟩ : ByteArray) = some (decide (s.data.toList.getLast? = some 32)) := by
  have h1 : (⟨#[32]⟩ : ByteArray).size = 1 := rfl
  unfold strings_HasSuffix.f stringslite_HasSuffix.f
  rw [h1]
  by_cases h0 : s.size = 0
  · have hl : s.data.toList = [] := List.length_eq_zero_iff.1 (by rw [← size_list]; exact h0)
    rw [if_neg (by omega), hl]; rfl
  · have hw : wrap64 ((s.size : Int) - ((1 : Nat) : Int)) = ((s.size - 1 : Nat) : Int) := by rw [w64_id (by omega) (by omega)]; omega
    rw [if_pos (by omega), hw, if_pos (by omega), if_pos (by omega), Option.bind_some]
    have hlt : s.size - 1 < s.data.toList.length := by rw [← size_list]; omega
    have e1 : (s.extract (((s.size - 1 : Nat) : Int)).toNat s.size).toList = [s.data.toList[s.size - 1]] := by
      rw [toList_data, ByteArray.data_extract, Int.toNat_natCast, Array.toList_extract, List.extract_eq_take_drop, List.drop_eq_getElem_cons hlt]
      rw [show s.size - (s.size - 1) = 1 from by omega]
      rfl
    have e2 : (⟨#[32]⟩ : ByteArray).toList = [32] := by rw [toList_data]
    have e3 : s.data.toList.getLast? = some (s.data.toList[s.size - 1]) := by
      rw [List.getLast?_eq_getElem?, ← size_list, List.getElem?_eq_getElem hlt]
    rw [e1, e2, e3]
    congr 1
    generalize s.data.toList[s.size - 1] = c
    show ([c] == [32]) = decide (some c = some 32)
    by_cases hc : c = 32
    · subst hc; rfl
    · rw [decide_eq_false (by simpa using hc), beq_eq_false_iff_ne]
      intro e; exact hc (List.cons.inj e).1
theorem dropW_id (l : List UInt8) (h : l.head? ≠ some 32) : l.dropWhile (([32] : List UInt8).contains ·) = l := by
  cases l with
  | nil => rfl
  | cons c r =>
    have hc : ([32] : List UInt8).contains c = false := by
      cases hq : ([32] : List UInt8).contains c
      · rfl
      · exfalso
        rw [List.contains_iff_mem] at hq
        exact h (by rw [List.mem_singleton.1 hq]; rfl)
    rw [List.dropWhile_cons, hc]; rfl
theorem dropW_le (l : List UInt8) (h : l.head? = some 32) : (l.dropWhile (([32] : List UInt8).contains ·)).length < l.length := by
  cases l with
  | nil => simp at h
  | cons c r =>
    simp only [List.head?_cons, Option.some.injEq] at h
    subst h
    have hc : ([32] : List UInt8).contains 32 = true := rfl
    rw [List.dropWhile_cons, hc, if_pos rfl, List.length_cons]
    have := (List.dropWhile_sublist (([32] : List UInt8).contains ·) (l := r)).length_le
    omega
theorem trim_iff (l : List UInt8) : Go.Lib.trimS l [32] = l ↔ l.head? ≠ some 32 ∧ l.getLast? ≠ some 32 := by
  unfold Go.Lib.trimS Go.Lib.trimLeftS Go.Lib.trimRightS
  have s2 := fun (m : List UInt8) => (List.dropWhile_sublist (([32] : List UInt8).contains ·) (l := m)).length_le
  constructor
  · intro h
    have hl := congrArg List.length h
    have a1 := s2 (l.reverse.dropWhile (([32] : List UInt8).contains ·)).reverse
    rw [List.length_reverse] at a1
    constructor
    · intro hh
      by_cases hd : l.getLast? = some 32
      · have h3 := dropW_le l.reverse (by rw [List.head?_reverse]; exact hd)
        rw [List.length_reverse] at h3
        omega
      · have e := dropW_id l.reverse (by rw [List.head?_reverse]; exact hd)
        rw [e, List.reverse_reverse] at hl
        have h1 := dropW_le l hh
        omega
    · intro hh
      have h3 := dropW_le l.reverse (by rw [List.head?_reverse]; exact hh)
      rw [List.length_reverse] at h3
      omega
  · intro ⟨h1, h2⟩
    rw [dropW_id l.reverse (by rw [List.head?_reverse]; exact h2), List.reverse_reverse, dropW_id l h1]
/-- The error of a cell. -/
def cellV (s : ByteArray) : Int := if s.size > 120 then 2 else if Go.Lib.validD s.data.toList = true ∧ (s.data.toList.head? ≠ some 32 ∧ s.data.toList.getLast? ≠ some 32) ∧ page_text.all s.data.toList = true then 0 else 8
theorem page_text_f (s : ByteArray) (hs : s.size ≤ 281474976710656) : page_text.f s = some (cellV s) := by
  unfold page_text.f cellV
  by_cases c1 : s.size > 120
  · rw [if_pos (by omega), if_pos c1]
  rw [if_neg (by omega), if_neg c1, pref_f s hs, suff_f s hs]
  by_cases c2 : Go.Lib.validD s.data.toList = false
  · rw [if_pos c2, if_neg (by rw [c2]; intro h; exact absurd h.1 (by decide))]
  rw [if_neg c2, Option.bind_some]
  have c2b : Go.Lib.validD s.data.toList = true := by simpa using c2
  by_cases c3 : s.data.toList.head? = some 32
  · rw [if_pos (decide_eq_true c3), if_neg (fun h => h.2.1.1 c3)]
  rw [if_neg (by rw [decide_eq_true_eq]; exact c3), Option.bind_some]
  by_cases c4 : s.data.toList.getLast? = some 32
  · rw [if_pos (decide_eq_true c4), if_neg (fun h => h.2.1.2 c4)]
  rw [if_neg (by rw [decide_eq_true_eq]; exact c4)]
  by_cases c5 : page_text.all s.data.toList = true
  · rw [if_pos c5, if_pos ⟨c2b, ⟨c3, c4⟩, c5⟩]
  · rw [if_neg c5, if_neg (fun h => c5 h.2.2)]
theorem cellError_f (s : ByteArray) (hs : s.size ≤ 281474976710656) : ephemerisref1_CellError.f s = some (cellV s) := by
  unfold ephemerisref1_CellError.f cellV
  by_cases c1 : s.size > 120
  · rw [if_pos (by omega), if_pos c1]
  rw [if_neg (by omega), if_neg c1]
  by_cases c2 : Go.Lib.validD s.data.toList = false
  · rw [if_pos c2, if_neg (by rw [c2]; intro h; exact absurd h.1 (by decide))]
  rw [if_neg c2]
  have c2b : Go.Lib.validD s.data.toList = true := by simpa using c2
  have hT : strings_Trim.f s (⟨#[32]⟩ : ByteArray) = some ⟨(Go.Lib.trimS s.data.toList [32]).toArray⟩ := by
    unfold strings_Trim.f
    rw [if_pos ⟨by omega, by decide, by decide⟩]
  have h3 := trim_iff s.data.toList
  rw [hT, Option.bind_some, toList_data, toList_data, show (⟨(Go.Lib.trimS s.data.toList [32]).toArray⟩ : ByteArray).data.toList = Go.Lib.trimS s.data.toList [32] from rfl]
  by_cases c3 : Go.Lib.trimS s.data.toList [32] = s.data.toList
  · rw [if_pos c3]
    by_cases c5 : page_text.all s.data.toList = true
    · rw [if_pos c5, if_pos ⟨c2b, h3.1 c3, c5⟩]
    · rw [if_neg c5, if_neg (fun h => c5 h.2.2)]
  · rw [if_neg c3, if_neg (fun h => c3 (h3.2 h.2.1))]
/-- The first error of cells. -/
def scan : List ByteArray → Int
  | [] => 0
  | s :: r => if cellV s = 0 then scan r else cellV s
theorem scan_app (a b : List ByteArray) : scan (a ++ b) = if scan a = 0 then scan b else scan a := by
  induction a with
  | nil => rfl
  | cons s r ih =>
    show (if cellV s = 0 then scan (r ++ b) else cellV s) = _
    rw [ih]
    show _ = if (if cellV s = 0 then scan r else cellV s) = 0 then scan b else (if cellV s = 0 then scan r else cellV s)
    by_cases c : cellV s = 0
    · simp only [if_pos c]
    · simp only [if_neg c]
/-- The first error of a head's names. -/
def hdE : List ByteArray → List ByteArray → Int
  | _, [] => 0
  | pre, s :: r => if s.toList = [] then 8 else if pre.any (fun y => decide (s.toList = y.toList)) = true then 7 else hdE (pre ++ [s]) r
def okS (l : List ByteArray) : Prop := ∀ s ∈ l, s.size ≤ 281474976710656
theorem rdOf_at (l : List ByteArray) (i : Nat) (h : i < l.length) : rdOf ByteArray.empty l (i : Int) = l[i] := by
  unfold rdOf
  rw [Int.toNat_natCast, List.getD_eq_getElem?_getD, List.getElem?_eq_getElem h]; rfl
theorem rdL2_at (l : List (List ByteArray)) (i : Nat) (h : i < l.length) : rd_L2 l (i : Int) = l[i] := by
  unfold rd_L2
  rw [Int.toNat_natCast, List.getD_eq_getElem?_getD, List.getElem?_eq_getElem h]; rfl
theorem index_loop (l : List ByteArray) (x : ByteArray) (hl : l.length ≤ 1000) : ∀ (m i k : Nat), i + m = l.length → m + 1 ≤ k → ∃ v, slices_Index_string_string.l0 k l x (l.length : Int) (i : Int) = some v ∧ (v ≥ 0 ↔ (l.drop i).any (fun y => decide (x.toList = y.toList)) = true)
  | 0, i, k + 1, hi, _ => by
    unfold slices_Index_string_string.l0
    rw [if_neg (by omega), List.drop_of_length_le (by omega)]
    exact ⟨-1, rfl, by simp⟩
  | m + 1, i, k + 1, hi, hk => by
    have hlt : i < l.length := by omega
    unfold slices_Index_string_string.l0
    rw [if_pos (by omega), if_pos (by omega), if_pos (by omega), rdOf_at l i hlt, List.drop_eq_getElem_cons hlt, List.any_cons]
    by_cases c : x.toList = (l[i]).toList
    · rw [if_pos c, decide_eq_true c]
      exact ⟨_, rfl, by simp⟩
    · rw [if_neg c, decide_eq_false c, Bool.false_or, w64_id (n := (i : Int) + 1) (by omega) (by omega)]
      exact index_loop l x hl m (i + 1) k (by omega) (by omega)
theorem contains_f (l : List ByteArray) (x : ByteArray) (hl : l.length ≤ 1000) (k : Nat) (hk : 1001 ≤ k) : slices_Contains_string_string.f k l x = some (l.any (fun y => decide (x.toList = y.toList))) := by
  unfold slices_Contains_string_string.f slices_Index_string_string.f
  obtain ⟨v, h1, h2⟩ := index_loop l x hl l.length 0 k (by omega) (by omega)
  rw [List.drop_zero] at h2
  rw [show (((0 : Nat) : Int)) = 0 from rfl] at h1
  rw [h1, Option.bind_some]
  congr 1
  by_cases c : v ≥ 0
  · rw [decide_eq_true c, h2.1 c]
  · rw [decide_eq_false c]
    cases hq : l.any (fun y => decide (x.toList = y.toList))
    · rfl
    · exact absurd (h2.2 hq) c
theorem head_loop (H : List ByteArray) (R : List (List ByteArray)) (hl : H.length ≤ 12) : ∀ (m i k : Nat), i + m = H.length → m + 1 + 1001 ≤ k → page_Check.l3 k H (H.length : Int) (i : Int) H R = some (hdE (H.take i) (H.drop i))
  | 0, i, k + 1, hi, _ => by
    unfold page_Check.l3
    rw [if_neg (by omega), List.drop_of_length_le (by omega)]; rfl
  | m + 1, i, k + 1, hi, hk => by
    have hlt : i < H.length := by omega
    unfold page_Check.l3
    rw [if_pos (by omega), if_pos (by omega), if_pos (by omega), rdOf_at H i hlt, List.drop_eq_getElem_cons hlt]
    unfold hdE
    by_cases c : (H[i]).toList = []
    · rw [if_pos c, if_pos c]
    rw [if_neg c, if_neg c, if_pos (by omega), contains_f _ _ (by rw [List.length_take]; omega) k (by omega), Option.bind_some, Int.toNat_natCast]
    by_cases c2 : (H.take i).any (fun y => decide ((H[i]).toList = y.toList)) = true
    · rw [if_pos c2, if_pos c2]
    · rw [if_neg c2, if_neg c2, w64_id (n := (i : Int) + 1) (by omega) (by omega)]
      have := head_loop H R hl m (i + 1) k (by omega) (by omega)
      rw [List.take_add_one, List.getElem?_eq_getElem hlt] at this
      exact this
theorem shape_loop (H : List ByteArray) (R : List (List ByteArray)) (hr : R.length ≤ 400) : ∀ (m i k : Nat), i + m = R.length → page_Check.l0 (k + m + 1) R (R.length : Int) (i : Int) H R = if (R.drop i).all (fun r => decide (r.length = H.length)) = true then page_Check.l1 k (H :: R) ((H :: R).length : Int) 0 H R else some 8
  | 0, i, k, hi => by
    unfold page_Check.l0
    rw [if_neg (by omega), List.drop_of_length_le (by omega), Option.bind_some, if_pos (by simp only [List.length_singleton]; omega), Option.bind_some]
    rfl
  | m + 1, i, k, hi => by
    have hlt : i < R.length := by omega
    have e : k + (m + 1) + 1 = (k + m + 1) + 1 := by omega
    rw [e]
    unfold page_Check.l0
    rw [if_pos (by omega), if_pos (by omega), if_pos (by omega), rdL2_at R i hlt, List.drop_eq_getElem_cons hlt, List.all_cons]
    by_cases c : (R[i]).length = H.length
    · rw [if_pos (by omega), decide_eq_true c, Bool.true_and, w64_id (n := (i : Int) + 1) (by omega) (by omega)]
      exact shape_loop H R hr m (i + 1) k (by omega)
    · rw [if_neg (by omega), decide_eq_false c, Bool.false_and]; rfl
theorem row_loop (Y : List (List ByteArray)) (lY ri : Int) (row H : List ByteArray) (R : List (List ByteArray)) (hr : row.length ≤ 12) (ho : okS row) : ∀ (m i k : Nat), i + m = row.length → page_Check.l2 (k + m + 1) Y lY ri row (row.length : Int) (i : Int) H R = if scan (row.drop i) = 0 then page_Check.l1 k Y lY (wrap64 (ri + 1)) H R else some (scan (row.drop i))
  | 0, i, k, hi => by
    unfold page_Check.l2
    rw [if_neg (by omega), List.drop_of_length_le (by omega)]; rfl
  | m + 1, i, k, hi => by
    have hlt : i < row.length := by omega
    have e : k + (m + 1) + 1 = (k + m + 1) + 1 := by omega
    rw [e]
    unfold page_Check.l2
    rw [if_pos (by omega), if_pos (by omega), if_pos (by omega), rdOf_at row i hlt, List.drop_eq_getElem_cons hlt, page_text_f _ (ho _ (List.getElem_mem hlt)), Option.bind_some]
    show _ = if (if cellV (row[i]) = 0 then scan (row.drop (i + 1)) else cellV (row[i])) = 0 then _ else some (if cellV (row[i]) = 0 then scan (row.drop (i + 1)) else cellV (row[i]))
    by_cases c : cellV (row[i]) = 0
    · simp only [if_pos c]
      rw [w64_id (n := (i : Int) + 1) (by omega) (by omega)]
      exact row_loop Y lY ri row H R hr ho m (i + 1) k (by omega)
    · simp only [if_neg c]
theorem rows_loop (Y : List (List ByteArray)) (H : List ByteArray) (R : List (List ByteArray)) (n : Nat) (hn : n ≤ 12) (hY : ∀ r ∈ Y, r.length = n ∧ okS r) (hl : Y.length ≤ 1000) : ∀ (m i k : Nat), i + m = Y.length → page_Check.l1 (k + m * (n + 2) + 1) Y (Y.length : Int) (i : Int) H R = if scan (Y.drop i).flatten = 0 then page_Check.l3 k H (H.length : Int) 0 H R else some (scan (Y.drop i).flatten)
  | 0, i, k, hi => by
    rw [Nat.zero_mul]
    unfold page_Check.l1
    rw [if_neg (by omega), List.drop_of_length_le (by omega)]; rfl
  | m + 1, i, k, hi => by
    have hlt : i < Y.length := by omega
    obtain ⟨h1, h2⟩ := hY _ (List.getElem_mem hlt)
    have e : k + (m + 1) * (n + 2) + 1 = ((k + m * (n + 2) + 1) + n + 1) + 1 := by rw [Nat.add_mul]; omega
    rw [e]
    unfold page_Check.l1
    rw [if_pos (by omega), if_pos (by omega), if_pos (by omega), rdL2_at Y i hlt, List.drop_eq_getElem_cons hlt, List.flatten_cons, scan_app]
    have hR := row_loop Y (Y.length : Int) (i : Int) (Y[i]) H R (by omega) h2 n 0 (k + m * (n + 2) + 1) (by omega)
    rw [List.drop_zero, show (((0 : Nat) : Int)) = 0 from rfl] at hR
    rw [hR]
    by_cases c : scan (Y[i]) = 0
    · rw [if_pos c, if_pos c, w64_id (n := (i : Int) + 1) (by omega) (by omega)]
      exact rows_loop Y H R n hn hY hl m (i + 1) k (by omega)
    · rw [if_neg c, if_neg c, if_neg c]
/-- The error of a table. -/
def tabE (H : List ByteArray) (R : List (List ByteArray)) : Int := if ¬ (1 ≤ H.length ∧ H.length ≤ 12 ∧ R.length ≤ 400) then 2 else if R.all (fun r => decide (r.length = H.length)) = true then (if scan (H ++ R.flatten) = 0 then hdE [] H else scan (H ++ R.flatten)) else 8
theorem page_Check_f (H : List ByteArray) (R : List (List ByteArray)) (hH : okS H) (hR : ∀ r ∈ R, okS r) (k : Nat) (hk : 20000 ≤ k) : page_Check.f k H R = some (tabE H R) := by
  obtain ⟨k, rfl⟩ : ∃ m, k = m + 1 := ⟨k - 1, by omega⟩
  unfold page_Check.f tabE
  simp only [page_Check.j0]
  by_cases c1 : (H.length : Int) < 1
  · rw [if_pos c1, if_pos trivial, if_pos (by omega)]
  rw [if_neg c1]
  by_cases c2 : (H.length : Int) > 12
  · rw [if_pos c2, if_pos trivial, if_pos (by omega)]
  rw [if_neg c2]
  by_cases c3 : (R.length : Int) > 400
  · rw [if_pos (decide_eq_true c3), if_pos (by omega)]
  rw [if_neg (by rw [decide_eq_true_eq]; exact c3), if_neg (show ¬ ¬ (1 ≤ H.length ∧ H.length ≤ 12 ∧ R.length ≤ 400) by omega)]
  have hm : (R.length + 1) * (H.length + 2) ≤ 401 * 14 := Nat.mul_le_mul (by omega) (by omega)
  obtain ⟨q, rfl⟩ : ∃ q, k = (q + (R.length + 1) * (H.length + 2) + 1) + R.length + 1 := ⟨k - ((R.length + 1) * (H.length + 2) + 1 + R.length + 1), by omega⟩
  have hS := shape_loop H R (by omega) R.length 0 (q + (R.length + 1) * (H.length + 2) + 1) (by omega)
  rw [List.drop_zero, show (((0 : Nat) : Int)) = 0 from rfl] at hS
  rw [hS]
  by_cases c4 : R.all (fun r => decide (r.length = H.length)) = true
  · rw [if_pos c4, if_pos c4]
    have hY : ∀ r ∈ H :: R, r.length = H.length ∧ okS r := by
      intro r hr
      rcases List.mem_cons.1 hr with rfl | hr
      · exact ⟨rfl, hH⟩
      · exact ⟨of_decide_eq_true (List.all_eq_true.1 c4 r hr), hR r hr⟩
    have hL := rows_loop (H :: R) H R H.length (by omega) hY (by rw [List.length_cons]; omega) (R.length + 1) 0 q (by rw [List.length_cons]; omega)
    rw [List.drop_zero, List.flatten_cons, show (((0 : Nat) : Int)) = 0 from rfl] at hL
    rw [hL]
    by_cases c5 : scan (H ++ R.flatten) = 0
    · rw [if_pos c5, if_pos c5]
      exact head_loop H R (by omega) H.length 0 q (by omega) (by omega)
    · rw [if_neg c5, if_neg c5]
  · rw [if_neg c4, if_neg c4]
theorem ref_shape (H : List ByteArray) (R : List (List ByteArray)) (hr : R.length ≤ 400) : ∀ (m i k : Nat), i + m = R.length → ephemerisref1_PageTableError.l0 (k + m + 1) R (R.length : Int) (i : Int) H R = if (R.drop i).all (fun r => decide (r.length = H.length)) = true then ephemerisref1_PageTableError.l1 k H (H.length : Int) 0 H R else some 8
  | 0, i, k, hi => by
    unfold ephemerisref1_PageTableError.l0
    rw [if_neg (by omega), List.drop_of_length_le (by omega)]
    rfl
  | m + 1, i, k, hi => by
    have hlt : i < R.length := by omega
    have e : k + (m + 1) + 1 = (k + m + 1) + 1 := by omega
    rw [e]
    unfold ephemerisref1_PageTableError.l0
    rw [if_pos (by omega), if_pos (by omega), if_pos (by omega), rdL2_at R i hlt, List.drop_eq_getElem_cons hlt, List.all_cons]
    by_cases c : (R[i]).length = H.length
    · rw [if_pos (by omega), decide_eq_true c, Bool.true_and, w64_id (n := (i : Int) + 1) (by omega) (by omega)]
      exact ref_shape H R hr m (i + 1) k (by omega)
    · rw [if_neg (by omega), decide_eq_false c, Bool.false_and]; rfl
theorem ref_first (H : List ByteArray) (R : List (List ByteArray)) (hr : H.length ≤ 12) (ho : okS H) : ∀ (m i k : Nat), i + m = H.length → ephemerisref1_PageTableError.l1 (k + m + 1) H (H.length : Int) (i : Int) H R = if scan (H.drop i) = 0 then ephemerisref1_PageTableError.l2 k R (R.length : Int) 0 H R else some (scan (H.drop i))
  | 0, i, k, hi => by
    unfold ephemerisref1_PageTableError.l1
    rw [if_neg (by omega), List.drop_of_length_le (by omega)]; rfl
  | m + 1, i, k, hi => by
    have hlt : i < H.length := by omega
    have e : k + (m + 1) + 1 = (k + m + 1) + 1 := by omega
    rw [e]
    unfold ephemerisref1_PageTableError.l1
    rw [if_pos (by omega), if_pos (by omega), if_pos (by omega), rdOf_at H i hlt, List.drop_eq_getElem_cons hlt, cellError_f _ (ho _ (List.getElem_mem hlt)), Option.bind_some]
    show _ = if (if cellV (H[i]) = 0 then scan (H.drop (i + 1)) else cellV (H[i])) = 0 then _ else some (if cellV (H[i]) = 0 then scan (H.drop (i + 1)) else cellV (H[i]))
    by_cases c : cellV (H[i]) = 0
    · simp only [if_pos c]
      rw [w64_id (n := (i : Int) + 1) (by omega) (by omega)]
      exact ref_first H R hr ho m (i + 1) k (by omega)
    · simp only [if_neg c]
theorem ref_row (Y : List (List ByteArray)) (lY ri : Int) (row H : List ByteArray) (R : List (List ByteArray)) (hr : row.length ≤ 12) (ho : okS row) : ∀ (m i k : Nat), i + m = row.length → ephemerisref1_PageTableError.l3 (k + m + 1) Y lY ri row (row.length : Int) (i : Int) H R = if scan (row.drop i) = 0 then ephemerisref1_PageTableError.l2 k Y lY (wrap64 (ri + 1)) H R else some (scan (row.drop i))
  | 0, i, k, hi => by
    unfold ephemerisref1_PageTableError.l3
    rw [if_neg (by omega), List.drop_of_length_le (by omega)]; rfl
  | m + 1, i, k, hi => by
    have hlt : i < row.length := by omega
    have e : k + (m + 1) + 1 = (k + m + 1) + 1 := by omega
    rw [e]
    unfold ephemerisref1_PageTableError.l3
    rw [if_pos (by omega), if_pos (by omega), if_pos (by omega), rdOf_at row i hlt, List.drop_eq_getElem_cons hlt, cellError_f _ (ho _ (List.getElem_mem hlt)), Option.bind_some]
    show _ = if (if cellV (row[i]) = 0 then scan (row.drop (i + 1)) else cellV (row[i])) = 0 then _ else some (if cellV (row[i]) = 0 then scan (row.drop (i + 1)) else cellV (row[i]))
    by_cases c : cellV (row[i]) = 0
    · simp only [if_pos c]
      rw [w64_id (n := (i : Int) + 1) (by omega) (by omega)]
      exact ref_row Y lY ri row H R hr ho m (i + 1) k (by omega)
    · simp only [if_neg c]
theorem ref_rows (Y : List (List ByteArray)) (H : List ByteArray) (R : List (List ByteArray)) (n : Nat) (hn : n ≤ 12) (hY : ∀ r ∈ Y, r.length = n ∧ okS r) (hl : Y.length ≤ 1000) : ∀ (m i k : Nat), i + m = Y.length → ephemerisref1_PageTableError.l2 (k + m * (n + 2) + 1) Y (Y.length : Int) (i : Int) H R = if scan (Y.drop i).flatten = 0 then ephemerisref1_PageTableError.l4 k H (H.length : Int) 0 H R else some (scan (Y.drop i).flatten)
  | 0, i, k, hi => by
    rw [Nat.zero_mul]
    unfold ephemerisref1_PageTableError.l2
    rw [if_neg (by omega), List.drop_of_length_le (by omega)]; rfl
  | m + 1, i, k, hi => by
    have hlt : i < Y.length := by omega
    obtain ⟨h1, h2⟩ := hY _ (List.getElem_mem hlt)
    have e : k + (m + 1) * (n + 2) + 1 = ((k + m * (n + 2) + 1) + n + 1) + 1 := by rw [Nat.add_mul]; omega
    rw [e]
    unfold ephemerisref1_PageTableError.l2
    rw [if_pos (by omega), if_pos (by omega), if_pos (by omega), rdL2_at Y i hlt, List.drop_eq_getElem_cons hlt, List.flatten_cons, scan_app]
    have hR := ref_row Y (Y.length : Int) (i : Int) (Y[i]) H R (by omega) h2 n 0 (k + m * (n + 2) + 1) (by omega)
    rw [List.drop_zero, show (((0 : Nat) : Int)) = 0 from rfl] at hR
    rw [hR]
    by_cases c : scan (Y[i]) = 0
    · rw [if_pos c, if_pos c, w64_id (n := (i : Int) + 1) (by omega) (by omega)]
      exact ref_rows Y H R n hn hY hl m (i + 1) k (by omega)
    · rw [if_neg c, if_neg c, if_neg c]
theorem ref_pre (x : ByteArray) (H : List ByteArray) (lH hi_ : Int) (pre : List ByteArray) (H2 : List ByteArray) (R : List (List ByteArray)) (hp : pre.length ≤ 12) : ∀ (m i k : Nat), i + m = pre.length → ephemerisref1_PageTableError.l5 (k + m + 1) x H lH hi_ pre (pre.length : Int) (i : Int) H2 R = if (pre.drop i).any (fun y => decide (x.toList = y.toList)) = true then some 7 else ephemerisref1_PageTableError.l4 k H lH (wrap64 (hi_ + 1)) H2 R
  | 0, i, k, hi => by
    unfold ephemerisref1_PageTableError.l5
    rw [if_neg (by omega), List.drop_of_length_le (by omega)]; rfl
  | m + 1, i, k, hi => by
    have hlt : i < pre.length := by omega
    have e : k + (m + 1) + 1 = (k + m + 1) + 1 := by omega
    rw [e]
    unfold ephemerisref1_PageTableError.l5
    rw [if_pos (by omega), if_pos (by omega), if_pos (by omega), rdOf_at pre i hlt, List.drop_eq_getElem_cons hlt, List.any_cons]
    by_cases c : (pre[i]).toList = x.toList
    · rw [if_pos c, decide_eq_true c.symm]; rfl
    · rw [if_neg c, decide_eq_false (fun h => c h.symm), Bool.false_or, w64_id (n := (i : Int) + 1) (by omega) (by omega)]
      exact ref_pre x H lH hi_ pre H2 R hp m (i + 1) k (by omega)
theorem ref_heads (H : List ByteArray) (R : List (List ByteArray)) (hl : H.length ≤ 12) : ∀ (m i k : Nat), i + m = H.length → m * 20 + 20 ≤ k → ephemerisref1_PageTableError.l4 k H (H.length : Int) (i : Int) H R = some (hdE (H.take i) (H.drop i))
  | 0, i, k + 1, hi, _ => by
    unfold ephemerisref1_PageTableError.l4
    rw [if_neg (by omega), List.drop_of_length_le (by omega)]; rfl
  | m + 1, i, k + 1, hi, hk => by
    have hlt : i < H.length := by omega
    unfold ephemerisref1_PageTableError.l4
    rw [if_pos (by omega), if_pos (by omega), if_pos (by omega), rdOf_at H i hlt, List.drop_eq_getElem_cons hlt]
    unfold hdE
    by_cases c : (H[i]).toList = []
    · rw [if_pos c, if_pos c]
    have hti : (H.take i).length = i := by rw [List.length_take]; omega
    obtain ⟨q, rfl⟩ : ∃ q, k = q + i + 1 := ⟨k - i - 1, by omega⟩
    have hP := ref_pre (H[i]) H (H.length : Int) (i : Int) (H.take i) H R (by omega) i 0 q (by omega)
    rw [List.drop_zero, show (((0 : Nat) : Int)) = 0 from rfl] at hP
    rw [if_neg c, if_neg c, if_pos (by omega), Int.toNat_natCast, hP]
    by_cases c2 : (H.take i).any (fun y => decide ((H[i]).toList = y.toList)) = true
    · rw [if_pos c2, if_pos c2]
    · rw [if_neg c2, if_neg c2, w64_id (n := (i : Int) + 1) (by omega) (by omega)]
      have := ref_heads H R hl m (i + 1) q (by omega) (by omega)
      rw [List.take_add_one, List.getElem?_eq_getElem hlt] at this
      exact this
theorem table_f (H : List ByteArray) (R : List (List ByteArray)) (hH : okS H) (hR : ∀ r ∈ R, okS r) (k : Nat) (hk : 20000 ≤ k) : ephemerisref1_PageTableError.f k H R = some (tabE H R) := by
  obtain ⟨k, rfl⟩ : ∃ m, k = m + 1 := ⟨k - 1, by omega⟩
  unfold ephemerisref1_PageTableError.f ephemerisref1_In.f tabE
  simp only [ephemerisref1_PageTableError.j0]
  by_cases c1 : (H.length : Int) < 1
  · rw [if_neg (by omega), Option.bind_some, if_neg (by decide), if_pos trivial, if_pos (by omega)]
  rw [if_pos (show (H.length : Int) ≥ 1 by omega), Option.bind_some]
  by_cases c2 : (H.length : Int) > 12
  · rw [if_neg (by rw [decide_eq_true_eq]; omega), if_pos trivial, if_pos (by omega)]
  rw [if_pos (by rw [decide_eq_true_eq]; omega)]
  by_cases c3 : (R.length : Int) > 400
  · rw [if_pos (decide_eq_true c3), if_pos (by omega)]
  rw [if_neg (by rw [decide_eq_true_eq]; exact c3), if_neg (show ¬ ¬ (1 ≤ H.length ∧ H.length ≤ 12 ∧ R.length ≤ 400) by omega)]
  have hm : R.length * (H.length + 2) ≤ 400 * 14 := Nat.mul_le_mul (by omega) (by omega)
  obtain ⟨q, rfl⟩ : ∃ q, k = ((q + R.length * (H.length + 2) + 1) + H.length + 1) + R.length + 1 := ⟨k - ((R.length * (H.length + 2) + 1) + H.length + 1 + R.length + 1), by omega⟩
  have hS := ref_shape H R (by omega) R.length 0 ((q + R.length * (H.length + 2) + 1) + H.length + 1) (by omega)
  rw [List.drop_zero, show (((0 : Nat) : Int)) = 0 from rfl] at hS
  rw [hS]
  by_cases c4 : R.all (fun r => decide (r.length = H.length)) = true
  · rw [if_pos c4, if_pos c4]
    have hF := ref_first H R (by omega) hH H.length 0 (q + R.length * (H.length + 2) + 1) (by omega)
    rw [List.drop_zero, show (((0 : Nat) : Int)) = 0 from rfl] at hF
    rw [hF, scan_app]
    have hY : ∀ r ∈ R, r.length = H.length ∧ okS r := fun r hr => ⟨of_decide_eq_true (List.all_eq_true.1 c4 r hr), hR r hr⟩
    by_cases c5 : scan H = 0
    · have hL := ref_rows R H R H.length (by omega) hY (by omega) R.length 0 q (by omega)
      rw [List.drop_zero, show (((0 : Nat) : Int)) = 0 from rfl] at hL
      rw [if_pos c5, if_pos c5, hL]
      by_cases c6 : scan R.flatten = 0
      · rw [if_pos c6, if_pos c6]
        exact ref_heads H R (by omega) H.length 0 q (by omega) (by omega)
      · rw [if_neg c6, if_neg c6]
    · rw [if_neg c5, if_neg c5, if_neg c5]
  · rw [if_neg c4, if_neg c4]

theorem PageChecks : ephemerislaw1_PageChecks.Pure := by
  intro H R hH hR
  obtain ⟨k, hk⟩ : ∃ k : Nat, 20000 ≤ k := ⟨_, Nat.le_refl _⟩
  refine ⟨k, ?_⟩
  have oH : okS H := fun s hs => by have := hH.2.2 s hs; omega
  have oR : ∀ r ∈ R, okS r := fun r hr s hs => by have := (hR.2.2 r hr).2.2 s hs; omega
  have oA : okS [(⟨#[97]⟩ : ByteArray), (⟨#[97]⟩ : ByteArray)] := by
    intro s hs
    have : s = (⟨#[97]⟩ : ByteArray) := by simpa using hs
    rw [this]; decide
  have h7 : tabE [(⟨#[97]⟩ : ByteArray), (⟨#[97]⟩ : ByteArray)] [] = 7 := by decide +kernel
  unfold ephemerislaw1_PageChecks.f
  rw [page_Check_f _ [] oA (fun r hr => by cases hr) k hk, h7, Option.bind_some, if_pos rfl, page_Check_f H R oH oR k hk, table_f H R oH oR k hk, Option.bind_some, Option.bind_some]
  simp
end Go.Proofs.YtblmcfebfdegbaaDoor.Pure
