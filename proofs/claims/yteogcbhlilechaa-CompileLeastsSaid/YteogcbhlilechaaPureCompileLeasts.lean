/- The law CompileLeasts over numbers and lists: what the law's functions tell, and that the law holds. -/
import Derived.Test.YteogcbhlilechaaPCompileLeastsx10
import Derived.Test.YteogcbhlilechaaM
import Derived.Test.YteogcbhlilechaaT
import Derived.Test.YteogcbhlilechaaL
import Derived.Test.YteogcbhlilechaaQ
import Derived.Test.YteogcbhlilechaaO
namespace Go.Proofs.Yteogcbhlilechaa.Pure
open Go.RowKit Go.Proofs.Yteogcbhlilechaa.PCompileLeasts Go.Proofs.YteogcbhlilechaaW.PrintWords Go.Proofs.YteogcbhlilechaaW.PrintLast Go.Proofs.Yteogcbhlilechaa.M Go.Proofs.Yteogcbhlilechaa.T Go.Proofs.Yteogcbhlilechaa.L Go.Proofs.Yteogcbhlilechaa.Q Go.Proofs.Yteogcbhlilechaa.O
set_option linter.unusedVariables false
set_option linter.unusedSimpArgs false
/-- The law over numbers and lists. -/
def ephemerislaw1_CompileLeasts.Pure : Prop := ∀ (a0_0 : ByteArray) (a0_1 : Int) (a0_2 : Int) (l0_3 : List (S101)) (l0_4 : List (Int)), a0_0.size ≤ 140737488351232 → (Lit.int .i64 a0_1).wf = true → (Lit.int .i64 a0_2).wf = true → (l0_3.length * 32 ≤ 140737488351232 ∧ l0_3.length ≤ 9223372036854775807 ∧ ∀ v ∈ l0_3, (v.f0.size ≤ 140737488351232 ∧ (Lit.int .i64 v.f1).wf = true ∧ (Lit.int .i64 v.f2).wf = true)) → (l0_4.length * 8 ≤ 140737488351232 ∧ l0_4.length ≤ 9223372036854775807 ∧ ∀ v ∈ l0_4, (Lit.int .i64 v).wf = true) → ∃ k, ephemerislaw1_CompileLeasts.f k a0_0 a0_1 a0_2 l0_3 l0_4 = some true

/-- The small rule: its months. -/
def smallM : List S101 := [⟨⟨#[111, 110, 101]⟩, 31, 31⟩, ⟨⟨#[116, 119, 111]⟩, 28, 29⟩]
def smallT : ByteArray × Int × Int × Int × Int × List S43 × List S101 :=
  (⟨#[115, 109, 97, 108, 108]⟩, 1, 8, 10, 0, [⟨8, 0, [⟨2, 0, []⟩, ⟨1, 4, []⟩]⟩, ⟨1, 0, []⟩], smallM)

theorem ephemerislaw1_small_f : ephemerislaw1_small.f = some smallT := rfl

theorem ephemerisref1_In_f (x lo hi : Int) : ephemerisref1_In.f x lo hi = some (decide (lo ≤ x ∧ x ≤ hi)) := by
  unfold ephemerisref1_In.f
  by_cases h : x ≥ lo
  · rw [if_pos h]; congr 1; simp; omega
  · rw [if_neg h]; congr 1; simp; omega

theorem ephemerisref1_Day_f (x : Int) : ephemerisref1_Day.f x = some (decide (-4000000 ≤ x ∧ x ≤ 4000000)) := by
  unfold ephemerisref1_Day.f
  rw [ephemerisref1_In_f]; rfl

theorem ephemerisref1_Name_l0 (s : ByteArray) (hs : s.size ≤ 12) : ∀ (d i k : Nat), i + d = s.size → d < k →
    ephemerisref1_Name.l0 k s (s.size : Int) (i : Int) = some (noWord s && letters (s.data.toList.drop i)) := by
  intro d
  induction d with
  | zero =>
    intro i k hi hk
    obtain ⟨k, rfl⟩ : ∃ m, k = m + 1 := ⟨k - 1, by omega⟩
    obtain rfl : i = s.size := by omega
    simp only [ephemerisref1_Name.l0]
    rw [if_neg (by omega), letters_end, Bool.and_true]
    unfold noWord
    by_cases c1 : s.toList = [121]
    · rw [if_pos c1]; simp [c1]
    rw [if_neg c1, bne_iff_ne.2 c1]
    by_cases c2 : s.toList = [97, 110, 100]
    · rw [if_pos c2]; simp [c2]
    rw [if_neg c2, bne_iff_ne.2 c2]
    by_cases c3 : s.toList = [111, 114]
    · rw [if_pos c3]; simp [c3]
    rw [if_neg c3, bne_iff_ne.2 c3]
    rfl
  | succ d ih =>
    intro i k hi hk
    obtain ⟨k, rfl⟩ : ∃ m, k = m + 1 := ⟨k - 1, by omega⟩
    simp only [ephemerisref1_Name.l0]
    rw [if_pos (by omega), if_pos (by omega), if_pos (by omega), letters_cons s i (by omega)]
    by_cases c1 : bt s i < 97
    · rw [if_pos c1, decide_eq_false (show ¬ 97 ≤ bt s i by omega)]; simp
    rw [if_neg c1, decide_eq_true (show 97 ≤ bt s i by omega)]
    by_cases c2 : bt s i > 122
    · rw [if_pos c2, decide_eq_false (show ¬ bt s i ≤ 122 by omega)]; simp
    rw [if_neg c2, decide_eq_true (show bt s i ≤ 122 by omega), w64_id (by omega) (by omega)]
    have := ih (i + 1) k (by omega) (by omega)
    rw [show ((i + 1 : Nat) : Int) = (i : Int) + 1 from by omega] at this
    rw [this]; simp
theorem ephemerisref1_Name_f (s : ByteArray) (k : Nat) (hk : 20 ≤ k) : ephemerisref1_Name.f k s = some (isName s) := by
  obtain ⟨k, rfl⟩ : ∃ m, k = m + 1 := ⟨k - 1, by omega⟩
  unfold ephemerisref1_Name.f isName
  by_cases h1 : s.toList = []
  · rw [if_pos h1, decide_eq_false (show ¬ 1 ≤ s.size by have := (toList_nil s).1 h1; omega)]
    simp [ephemerisref1_Name.j0]
  have h1' : ¬ s.size = 0 := fun h => h1 ((toList_nil s).2 h)
  rw [if_neg h1, decide_eq_true (show 1 ≤ s.size by omega)]
  simp only [ephemerisref1_Name.j0, decide_eq_true_eq]
  by_cases h2 : (s.size : Int) > 12
  · rw [if_pos h2, decide_eq_false (show ¬ s.size ≤ 12 by omega)]; rfl
  rw [if_neg h2, decide_eq_true (show s.size ≤ 12 by omega)]
  exact ephemerisref1_Name_l0 s (by omega) s.size 0 k (by omega) (by omega)

/-- The first fault of the months from a place on, as the other reading tells it: 'a' and 'b' tell whether there was a day so far. -/
def mrFrom : Bool → Bool → List (List UInt8) → List S101 → Int
  | a, b, _, [] => if a = true then (if b = true then 0 else 8) else 8
  | a, b, s, m :: t => if isName m.f0 = true then (if m.f0.toList ∈ s then 7 else (if (0 ≤ m.f1 ∧ m.f1 ≤ 400) ∧ (0 ≤ m.f2 ∧ m.f2 ≤ 400) then mrFrom (a || decide (m.f1 > 0)) (b || decide (m.f2 > 0)) (s ++ [m.f0.toList]) t else 3)) else 5
def mrErr (l : List S101) : Int := if 1 ≤ l.length ∧ l.length ≤ 20 then mrFrom false false [] l else 2
def mrNames (l : List S101) : List (List UInt8) := l.map fun m => m.f0.toList
theorem mr_at (l : List S101) (i : Nat) (h : i < l.length) : rd_T101 l (i : Int) = l[i] := by
  unfold rd_T101
  rw [show ((i : Int).toNat) = i from by omega, List.getD_eq_getElem?_getD, List.getElem?_eq_getElem h]; rfl
theorem mrNames_snoc (l : List S101) (i : Nat) (h : i < l.length) : mrNames (l.take i) ++ [l[i].f0.toList] = mrNames (l.take (i + 1)) := by
  rw [List.take_succ_eq_append_getElem h]
  unfold mrNames
  rw [List.map_append]; rfl
theorem ephemerisref1_MonthsError_l1 (l : List S101) (a b : Bool) (x12 x13 : Int) (i : Nat) (hl : l.length ≤ 20) (hlt : i < l.length) : ∀ (d j k : Nat), j + d = i →
    ephemerisref1_MonthsError.l1 (k + d + 1) l a b (i : Int) x12 x13 (i : Int) (j : Int) = if l[i].f0.toList ∈ mrNames ((l.take i).drop j) then some 7 else (if (0 ≤ l[i].f1 ∧ l[i].f1 ≤ 400) ∧ (0 ≤ l[i].f2 ∧ l[i].f2 ≤ 400) then ephemerisref1_MonthsError.l0 k l (a || decide (l[i].f1 > 0)) (b || decide (l[i].f2 > 0)) x12 (wrap64 (x13 + 1)) else some 3) := by
  intro d
  have hty : (l.take i).length = i := by rw [List.length_take]; omega
  induction d with
  | zero =>
    intro j k hj
    conv => lhs; unfold ephemerisref1_MonthsError.l1
    rw [if_neg (by omega), List.drop_of_length_le (by omega), if_neg (show ¬ l[i].f0.toList ∈ mrNames ([] : List S101) from by unfold mrNames; simp), if_pos (by omega), if_pos (by omega), mr_at l i hlt, ephemerisref1_In_f, Option.bind_some]
    by_cases c1 : 0 ≤ l[i].f1 ∧ l[i].f1 ≤ 400
    · rw [if_pos (decide_eq_true c1), ephemerisref1_In_f, Option.bind_some]
      by_cases c2 : 0 ≤ l[i].f2 ∧ l[i].f2 ≤ 400
      · rw [if_pos (decide_eq_true c2), if_pos (show (0 ≤ l[i].f1 ∧ l[i].f1 ≤ 400) ∧ (0 ≤ l[i].f2 ∧ l[i].f2 ≤ 400) from ⟨c1, c2⟩)]
        cases a <;> cases b <;> rfl
      · rw [if_neg (by simpa using c2), if_neg (fun h => c2 h.2)]
    · rw [if_neg (by simpa using c1), if_neg (fun h => c1 h.1)]
  | succ d ih =>
    intro j k hj
    have hlj : j < l.length := by omega
    have ih := ih (j + 1) k (by omega)
    have hc : (l[i].f0.toList ∈ mrNames ((l.take i).drop j)) ↔ (l[j].f0.toList = l[i].f0.toList ∨ l[i].f0.toList ∈ mrNames ((l.take i).drop (j + 1))) := by
      rw [List.drop_eq_getElem_cons (show j < (l.take i).length by omega), List.getElem_take]
      unfold mrNames
      rw [List.map_cons, List.mem_cons]
      exact ⟨fun h => h.imp (fun e => e.symm) id, fun h => h.imp (fun e => e.symm) id⟩
    rw [show k + (d + 1) + 1 = (k + d + 1) + 1 from by omega]
    conv => lhs; unfold ephemerisref1_MonthsError.l1
    rw [if_pos (by omega), if_pos (by omega), if_pos (by omega), if_pos (by omega), if_pos (by omega), mr_at l j hlj, mr_at l i hlt, w64_id (n := (j : Int) + 1) (by omega) (by omega)]
    rw [show ((j + 1 : Nat) : Int) = (j : Int) + 1 from by omega] at ih
    by_cases c : l[j].f0.toList = l[i].f0.toList
    · rw [if_pos c, if_pos (hc.2 (.inl c))]
    · rw [if_neg c, ih]
      by_cases c2 : l[i].f0.toList ∈ mrNames ((l.take i).drop (j + 1))
      · rw [if_pos c2, if_pos (hc.2 (.inr c2))]
      · rw [if_neg c2, if_neg (fun h => (hc.1 h).elim c c2)]
theorem ephemerisref1_MonthsError_l0 (l : List S101) (hl : l.length ≤ 20) : ∀ (d i k : Nat) (a b : Bool), i + d = l.length → 50 * d + 50 < k →
    ephemerisref1_MonthsError.l0 k l a b (l.length : Int) (i : Int) = some (mrFrom a b (mrNames (l.take i)) (l.drop i)) := by
  intro d
  induction d with
  | zero =>
    intro i k a b hi hk
    obtain ⟨k, rfl⟩ : ∃ m, k = m + 1 := ⟨k - 1, by omega⟩
    conv => lhs; unfold ephemerisref1_MonthsError.l0
    rw [if_neg (by omega), List.drop_of_length_le (by omega)]
    unfold mrFrom
    cases a <;> cases b <;> rfl
  | succ d ih =>
    intro i k a b hi hk
    have hlt : i < l.length := by omega
    obtain ⟨k, rfl⟩ : ∃ m, k = m + i + 1 + 1 := ⟨k - i - 2, by omega⟩
    conv => lhs; unfold ephemerisref1_MonthsError.l0
    rw [if_pos (by omega), if_pos (by omega), if_pos (by omega), mr_at l i hlt, ephemerisref1_Name_f _ _ (by omega), Option.bind_some, List.drop_eq_getElem_cons hlt]
    unfold mrFrom
    by_cases c1 : isName l[i].f0 = true
    · have h1 := ephemerisref1_MonthsError_l1 l a b (l.length : Int) (i : Int) i hl hlt i 0 k (by omega)
      rw [if_pos c1, if_pos c1]
      rw [List.drop_zero] at h1
      refine h1.trans ?_
      by_cases c2 : l[i].f0.toList ∈ mrNames (l.take i)
      · rw [if_pos c2, if_pos c2]
      rw [if_neg c2, if_neg c2]
      by_cases c3 : (0 ≤ l[i].f1 ∧ l[i].f1 ≤ 400) ∧ (0 ≤ l[i].f2 ∧ l[i].f2 ≤ 400)
      · rw [if_pos c3, if_pos c3, mrNames_snoc l i hlt, w64_id (n := (i : Int) + 1) (by omega) (by omega)]
        exact ih (i + 1) k _ _ (by omega) (by omega)
      · rw [if_neg c3, if_neg c3]
    · rw [if_neg c1, if_neg c1]
theorem ephemerisref1_MonthsError_f (l : List S101) (k : Nat) (hk : 1100 ≤ k) : ephemerisref1_MonthsError.f k l = some (mrErr l) := by
  unfold ephemerisref1_MonthsError.f mrErr
  rw [ephemerisref1_In_f, Option.bind_some]
  by_cases c : 1 ≤ l.length ∧ l.length ≤ 20
  · rw [if_pos (decide_eq_true (by omega)), if_pos c]
    exact ephemerisref1_MonthsError_l0 l c.2 l.length 0 k false false (by omega) (by omega)
  · rw [if_neg (fun h => c (by have := of_decide_eq_true h; omega)), if_neg c]

/-- The first fault of the leap years from a place on: 'p' is the one before. -/
def clFrom (c : Int) : Option Int → List Int → Int
  | _, [] => 0
  | p, x :: t => if 1 ≤ x ∧ x ≤ c then (if (∃ q, p = some q ∧ q ≥ x) then 9 else clFrom c (some x) t) else 3
def crErr (name : ByteArray) (epoch cycle : Int) (months : List S101) (leaps : List Int) : Int :=
  if isName name = true then (if (-4000000 ≤ epoch ∧ epoch ≤ 4000000) ∧ (1 ≤ cycle ∧ cycle ≤ 3000) then (if mrErr months = 0 then clFrom cycle none leaps else mrErr months) else 3) else 5
def clPrev (l : List Int) (i : Nat) : Option Int := if i = 0 then none else some (rd l ((i : Int) - 1))
theorem clPrev_succ (l : List Int) (i : Nat) (h : i < l.length) : clPrev l (i + 1) = some l[i] := by
  unfold clPrev
  rw [if_neg (by omega), show ((i + 1 : Nat) : Int) - 1 = (i : Int) from by omega, rd_get l i h]
theorem ephemerisref1_CalendarError_l0 (l : List Int) (hl : l.length ≤ 9223372036854775806) (n : ByteArray) (e c : Int) (ms : List S101) : ∀ (d i k : Nat), i + d = l.length → d < k →
    ephemerisref1_CalendarError.l0 k l (l.length : Int) (i : Int) n e c ms l = some (clFrom c (clPrev l i) (l.drop i)) := by
  intro d
  induction d with
  | zero =>
    intro i k hi hk
    obtain ⟨k, rfl⟩ : ∃ m, k = m + 1 := ⟨k - 1, by omega⟩
    conv => lhs; unfold ephemerisref1_CalendarError.l0
    rw [if_neg (by omega), List.drop_of_length_le (by omega)]; rfl
  | succ d ih =>
    intro i k hi hk
    obtain ⟨k, rfl⟩ : ∃ m, k = m + 1 := ⟨k - 1, by omega⟩
    have hlt : i < l.length := by omega
    have ih := ih (i + 1) k (by omega) (by omega)
    rw [clPrev_succ l i hlt, show ((i + 1 : Nat) : Int) = (i : Int) + 1 from by omega] at ih
    conv => lhs; unfold ephemerisref1_CalendarError.l0
    rw [if_pos (by omega), if_pos (by omega), if_pos (by omega), rd_get l i hlt, List.drop_eq_getElem_cons hlt, ephemerisref1_In_f, Option.bind_some, w64_id (n := (i : Int) + 1) (by omega) (by omega)]
    unfold clFrom
    by_cases c1 : 1 ≤ l[i] ∧ l[i] ≤ c
    · rw [if_pos (decide_eq_true c1), if_pos c1]
      by_cases c3 : (i : Int) > 0
      · have hp : clPrev l i = some (rd l ((i : Int) - 1)) := by unfold clPrev; rw [if_neg (by omega)]
        rw [if_pos c3, w64_id (n := (i : Int) - 1) (by omega) (by omega), if_pos (by omega), if_pos (by omega), hp]
        by_cases c4 : rd l ((i : Int) - 1) ≥ l[i]
        · rw [if_pos c4, if_pos ⟨_, rfl, c4⟩]
        · rw [if_neg c4, if_neg (fun ⟨q, h, h2⟩ => c4 (by cases h; exact h2)), ih]
      · have hp : clPrev l i = none := by unfold clPrev; rw [if_pos (by omega)]
        rw [if_neg c3, hp, if_neg (fun ⟨q, h, _⟩ => by cases h), ih]
    · rw [if_neg (by simpa using c1), if_neg c1]
theorem ephemerisref1_CalendarError_f (n : ByteArray) (e c : Int) (ms : List S101) (l : List Int) (hl : l.length ≤ 9223372036854775806) (k : Nat) (hk : l.length + 1200 ≤ k) : ephemerisref1_CalendarError.f k n e c ms l = some (crErr n e c ms l) := by
  obtain ⟨k, rfl⟩ : ∃ m, k = m + 1 := ⟨k - 1, by omega⟩
  have hj : ∀ b : Bool, ephemerisref1_CalendarError.j0 (k + 1) b n e c ms l = some (if b = true then 3 else (if mrErr ms = 0 then clFrom c none l else mrErr ms)) := by
    intro b
    have hb : ephemerisref1_CalendarError.j0 (k + 1) b n e c ms l = (if b = true then (some 3) else ((ephemerisref1_MonthsError.f k ms).bind fun t => (if t = 0 then (ephemerisref1_CalendarError.l0 k l (l.length : Int) 0 n e c ms l) else (some t)))) := by simp only [ephemerisref1_CalendarError.j0]
    rw [hb]
    cases b with
    | true => rfl
    | false =>
      rw [if_neg (show ¬ (false = true) from by decide), if_neg (show ¬ (false = true) from by decide), ephemerisref1_MonthsError_f ms k (by omega), Option.bind_some]
      by_cases c1 : mrErr ms = 0
      · rw [if_pos c1, if_pos c1]
        exact ephemerisref1_CalendarError_l0 l hl n e c ms l.length 0 k (by omega) (by omega)
      · rw [if_neg c1, if_neg c1]
  unfold ephemerisref1_CalendarError.f crErr
  rw [ephemerisref1_Name_f _ _ (by omega), Option.bind_some, ephemerisref1_Day_f, ephemerisref1_In_f, Option.bind_some, Option.bind_some, hj, hj]
  by_cases c0 : isName n = true
  · rw [if_pos c0, if_pos c0]
    by_cases c1 : -4000000 ≤ e ∧ e ≤ 4000000
    · rw [if_pos (decide_eq_true c1)]
      by_cases c2 : 1 ≤ c ∧ c ≤ 3000
      · rw [decide_eq_true c2, if_neg (show ¬ ((!true) = true) from by decide), if_pos (show (-4000000 ≤ e ∧ e ≤ 4000000) ∧ (1 ≤ c ∧ c ≤ 3000) from ⟨c1, c2⟩)]
      · rw [decide_eq_false c2, if_pos (show (!false) = true from rfl), if_neg (fun h => c2 h.2)]
    · rw [if_neg (by simpa using c1), if_pos rfl, if_neg (fun h => c1 h.1)]
  · rw [if_neg c0, if_neg c0]

theorem ephemerisref1_yes_f (b : Bool) : ephemerisref1_yes.f b = some (if b = true then 1 else 0) := by unfold ephemerisref1_yes.f; split <;> rfl

theorem rule_Name_f (s : ByteArray) : rule_Name.f s = some (isName s) := by
  have e : rule_Name.all s.data.toList = letters s.data.toList := rfl
  unfold rule_Name.f isName noWord
  rw [e]
  congr 1
  by_cases h1 : (s.size : Int) < 1
  · rw [if_pos h1, decide_eq_false (show ¬ 1 ≤ s.size by omega)]; rfl
  rw [if_neg h1, decide_eq_true (show 1 ≤ s.size by omega)]
  by_cases h2 : (s.size : Int) > 12
  · rw [if_pos h2, decide_eq_false (show ¬ s.size ≤ 12 by omega)]; rfl
  rw [if_neg h2, decide_eq_true (show s.size ≤ 12 by omega)]
  by_cases c1 : s.toList = [121]
  · rw [if_pos c1]; simp [c1]
  rw [if_neg c1, bne_iff_ne.2 c1]
  by_cases c2 : s.toList = [97, 110, 100]
  · rw [if_pos c2]; simp [c2]
  rw [if_neg c2, bne_iff_ne.2 c2]
  by_cases c3 : s.toList = [111, 114]
  · rw [if_pos c3]; simp [c3]
  rw [if_neg c3, bne_iff_ne.2 c3]
  by_cases c4 : s.toList = [110, 111, 116]
  · rw [if_pos c4]; simp [c4]
  rw [if_neg c4, bne_iff_ne.2 c4]
  rfl

/-- The first fault of the months from a place on: 'a' and 'b' are the days so far, 's' the names so far. -/
def moFrom : Int → Int → List (List UInt8) → List S101 → Int
  | a, b, _, [] => if a = 0 then 8 else (if b = 0 then 8 else 0)
  | a, b, s, m :: t => if isName m.f0 = true then (if m.f0.toList ∈ s then 7 else (if (0 ≤ m.f1 ∧ m.f1 ≤ 400) ∧ (0 ≤ m.f2 ∧ m.f2 ≤ 400) then moFrom (a + m.f1) (b + m.f2) (s ++ [m.f0.toList]) t else 3)) else 5
def moErr (l : List S101) : Int := if 1 ≤ l.length ∧ l.length ≤ 20 then moFrom 0 0 [] l else 2
def moNames (l : List S101) : List (List UInt8) := l.map fun m => m.f0.toList
theorem mo_at (l : List S101) (i : Nat) (h : i < l.length) : rd_T101 l (i : Int) = l[i] := by
  unfold rd_T101
  rw [show ((i : Int).toNat) = i from by omega, List.getD_eq_getElem?_getD, List.getElem?_eq_getElem h]; rfl
theorem moNames_snoc (l : List S101) (i : Nat) (h : i < l.length) : moNames (l.take i) ++ [l[i].f0.toList] = moNames (l.take (i + 1)) := by
  rw [List.take_succ_eq_append_getElem h]
  unfold moNames
  rw [List.map_append]; rfl
theorem rule_Months_l1 (x0 : List S101) (x3 x4 : Int) (x17 : List S101) (x18 x19 : Int) (y : List S101) (n : ByteArray) (f1 f2 : Int) (hy : y.length ≤ 20) : ∀ (d i k : Nat), i + d = y.length →
    rule_Months.l1 (k + d + 1) x0 x3 x4 x17 x18 x19 y (y.length : Int) (i : Int) n f1 f2 = if n.toList ∈ moNames (y.drop i) then some 7 else (if (0 ≤ f1 ∧ f1 ≤ 400) ∧ (0 ≤ f2 ∧ f2 ≤ 400) then rule_Months.l0 k x0 (wrap64 (x3 + f1)) (wrap64 (x4 + f2)) x17 x18 (wrap64 (x19 + 1)) else some 3) := by
  intro d
  induction d with
  | zero =>
    intro i k hi
    conv => lhs; unfold rule_Months.l1
    rw [if_neg (by omega), List.drop_of_length_le (by omega), if_neg (show ¬ n.toList ∈ moNames ([] : List S101) from by unfold moNames; simp)]
    by_cases c1 : f1 < 0
    · rw [if_pos c1, if_neg (by omega)]
    rw [if_neg c1]
    by_cases c2 : f1 > 400
    · rw [if_pos c2, if_neg (by omega)]
    rw [if_neg c2]
    by_cases c3 : f2 < 0
    · rw [if_pos c3, if_neg (by omega)]
    rw [if_neg c3]
    by_cases c4 : f2 > 400
    · rw [if_pos c4, if_neg (by omega)]
    rw [if_neg c4, if_pos (show (0 ≤ f1 ∧ f1 ≤ 400) ∧ (0 ≤ f2 ∧ f2 ≤ 400) from by omega)]
  | succ d ih =>
    intro i k hi
    have hlt : i < y.length := by omega
    have ih := ih (i + 1) k (by omega)
    have hc : (n.toList ∈ moNames (y.drop i)) ↔ (y[i].f0.toList = n.toList ∨ n.toList ∈ moNames (y.drop (i + 1))) := by
      rw [List.drop_eq_getElem_cons hlt]
      unfold moNames
      rw [List.map_cons, List.mem_cons]
      exact ⟨fun h => h.imp (fun e => e.symm) id, fun h => h.imp (fun e => e.symm) id⟩
    rw [show k + (d + 1) + 1 = (k + d + 1) + 1 from by omega]
    conv => lhs; unfold rule_Months.l1
    rw [if_pos (by omega), if_pos (by omega), if_pos (by omega), mo_at y i hlt, w64_id (n := (i : Int) + 1) (by omega) (by omega)]
    rw [show ((i + 1 : Nat) : Int) = (i : Int) + 1 from by omega] at ih
    by_cases c : y[i].f0.toList = n.toList
    · rw [if_pos c, if_pos (hc.2 (.inl c))]
    · rw [if_neg c, ih]
      by_cases c2 : n.toList ∈ moNames (y.drop (i + 1))
      · rw [if_pos c2, if_pos (hc.2 (.inr c2))]
      · rw [if_neg c2, if_neg (fun h => (hc.1 h).elim c c2)]
theorem rule_Months_l0 (l : List S101) (hl : l.length ≤ 20) : ∀ (d i k : Nat) (a b : Int), i + d = l.length → 30 * d + 30 < k → 0 ≤ a → a ≤ 400 * i → 0 ≤ b → b ≤ 400 * i →
    rule_Months.l0 k l a b l (l.length : Int) (i : Int) = some (moFrom a b (moNames (l.take i)) (l.drop i)) := by
  intro d
  induction d with
  | zero =>
    intro i k a b hi hk ha ha1 hb hb1
    obtain ⟨k, rfl⟩ : ∃ m, k = m + 1 := ⟨k - 1, by omega⟩
    conv => lhs; unfold rule_Months.l0
    rw [if_neg (by omega), List.drop_of_length_le (by omega)]
    unfold moFrom
    by_cases c : a = 0
    · rw [if_pos c, if_pos c]
    rw [if_neg c, if_neg c]
    by_cases c : b = 0
    · rw [if_pos c, if_pos c]
    rw [if_neg c, if_neg c]
  | succ d ih =>
    intro i k a b hi hk ha ha1 hb hb1
    have hlt : i < l.length := by omega
    obtain ⟨k, rfl⟩ : ∃ m, k = m + i + 1 + 1 := ⟨k - i - 2, by omega⟩
    conv => lhs; unfold rule_Months.l0
    rw [if_pos (by omega), if_pos (by omega), if_pos (by omega), mo_at l i hlt, rule_Name_f, Option.bind_some, List.drop_eq_getElem_cons hlt]
    unfold moFrom
    by_cases c1 : isName l[i].f0 = true
    · have hty : (l.take i).length = i := by rw [List.length_take]; omega
      have h1 := rule_Months_l1 l a b l (l.length : Int) (i : Int) (l.take i) l[i].f0 l[i].f1 l[i].f2 (by omega) i 0 k (by omega)
      rw [if_pos c1, if_pos c1, if_pos (by omega), Option.bind_some, show ((i : Int).toNat) = i from by omega]
      rw [List.drop_zero] at h1
      refine h1.trans ?_
      by_cases c2 : l[i].f0.toList ∈ moNames (l.take i)
      · rw [if_pos c2, if_pos c2]
      rw [if_neg c2, if_neg c2]
      by_cases c3 : (0 ≤ l[i].f1 ∧ l[i].f1 ≤ 400) ∧ (0 ≤ l[i].f2 ∧ l[i].f2 ≤ 400)
      · rw [if_pos c3, if_pos c3, moNames_snoc l i hlt, w64_id (n := a + l[i].f1) (by omega) (by omega), w64_id (n := b + l[i].f2) (by omega) (by omega), w64_id (n := (i : Int) + 1) (by omega) (by omega)]
        exact ih (i + 1) k (a + l[i].f1) (b + l[i].f2) (by omega) (by omega) (by omega) (by omega) (by omega) (by omega)
      · rw [if_neg c3, if_neg c3]
    · rw [if_neg c1, if_neg c1]
theorem rule_Months_f (l : List S101) (k : Nat) (hk : 700 ≤ k) : rule_Months.f k l = some (moErr l) := by
  obtain ⟨k, rfl⟩ : ∃ m, k = m + 1 := ⟨k - 1, by omega⟩
  have e : rule_Months.f (k + 1) l = rule_Months.j0 (k + 1) l (decide (¬ (1 ≤ l.length ∧ l.length ≤ 20))) := by
    unfold rule_Months.f
    by_cases c : (l.length : Int) < 1
    · rw [if_pos c, decide_eq_true (by omega)]
    · rw [if_neg c]
      by_cases c2 : (l.length : Int) > 20
      · rw [decide_eq_true c2, decide_eq_true (by omega)]
      · rw [decide_eq_false c2, decide_eq_false (by omega)]
  rw [e]
  conv => lhs; unfold rule_Months.j0
  simp only [decide_eq_true_eq]
  unfold moErr
  by_cases c : 1 ≤ l.length ∧ l.length ≤ 20
  · rw [if_neg (fun h => h c), if_pos c]
    exact rule_Months_l0 l c.2 l.length 0 k 0 0 (by omega) (by omega) (by omega) (by omega) (by omega) (by omega)
  · rw [if_pos c, if_neg c]

theorem line_Check_f (x : Int) : line_Check.f x = some (if -4000000 ≤ x ∧ x ≤ 4000000 then 0 else 3) := by
  unfold line_Check.f
  by_cases h : x < -4000000
  · rw [if_pos h, if_neg (by omega)]
  · rw [if_neg h]
    by_cases h2 : x > 4000000
    · rw [if_pos h2, if_neg (by omega)]
    · rw [if_neg h2, if_pos (by omega)]

/-- The first fault of the leap years from a place on: 'p' is the one before. -/
def lpFrom (c : Int) : Int → List Int → Int
  | _, [] => 0
  | p, x :: t => if 1 ≤ x ∧ x ≤ c then (if x ≤ p then 9 else lpFrom c x t) else 3
def calErr (name : ByteArray) (epoch cycle : Int) (months : List S101) (leaps : List Int) : Int :=
  if isName name = true then (if (-4000000 ≤ epoch ∧ epoch ≤ 4000000) ∧ (1 ≤ cycle ∧ cycle ≤ 3000) then (if moErr months = 0 then lpFrom cycle 0 leaps else moErr months) else 3) else 5
theorem compile_Check_l0 (l : List Int) (hl : l.length ≤ 9223372036854775806) (n : ByteArray) (e c : Int) (ms : List S101) (l2 : List Int) : ∀ (d i k : Nat) (p : Int), i + d = l.length → 2 * d + 2 < k →
    compile_Check.l0 k p l (l.length : Int) (i : Int) n e c ms l2 = some (lpFrom c p (l.drop i)) := by
  intro d
  induction d with
  | zero =>
    intro i k p hi hk
    obtain ⟨k, rfl⟩ : ∃ m, k = m + 1 := ⟨k - 1, by omega⟩
    conv => lhs; unfold compile_Check.l0
    rw [if_neg (by omega), List.drop_of_length_le (by omega)]; rfl
  | succ d ih =>
    intro i k p hi hk
    obtain ⟨k, rfl⟩ : ∃ m, k = m + 2 := ⟨k - 2, by omega⟩
    have hlt : i < l.length := by omega
    have hj : (if l[i] < 1 then compile_Check.j2 (k + 1) p l[i] l (l.length : Int) (i : Int) true n e c ms l2 else compile_Check.j2 (k + 1) p l[i] l (l.length : Int) (i : Int) (decide (l[i] > c)) n e c ms l2) = compile_Check.j2 (k + 1) p l[i] l (l.length : Int) (i : Int) (decide (¬ (1 ≤ l[i] ∧ l[i] ≤ c))) n e c ms l2 := by
      by_cases c1 : l[i] < 1
      · rw [if_pos c1, dec_not_true (by omega)]
      rw [if_neg c1]
      by_cases c2 : l[i] > c
      · rw [decide_eq_true c2, dec_not_true (by omega)]
      · rw [decide_eq_false c2, dec_not_false (by omega)]
    rw [show k + 2 = (k + 1) + 1 from rfl]
    conv => lhs; unfold compile_Check.l0
    rw [if_pos (by omega), if_pos (by omega), if_pos (by omega), rd_get l i hlt, hj, List.drop_eq_getElem_cons hlt]
    conv => lhs; unfold compile_Check.j2
    simp only [decide_eq_true_eq, lpFrom]
    by_cases c1 : 1 ≤ l[i] ∧ l[i] ≤ c
    · rw [if_neg (fun h => h c1), if_pos c1]
      by_cases c2 : l[i] ≤ p
      · rw [if_pos c2, if_pos c2]
      · rw [if_neg c2, if_neg c2, w64_id (n := (i : Int) + 1) (by omega) (by omega)]
        exact ih (i + 1) k l[i] (by omega) (by omega)
    · rw [if_pos c1, if_neg c1]
theorem compile_Check_f (n : ByteArray) (e c : Int) (ms : List S101) (l : List Int) (hl : l.length ≤ 9223372036854775806) (k : Nat) (hk : 2 * l.length + 800 ≤ k) : compile_Check.f k n e c ms l = some (calErr n e c ms l) := by
  obtain ⟨k, rfl⟩ : ∃ m, k = m + 1 := ⟨k - 1, by omega⟩
  have hj : ∀ b : Bool, compile_Check.j0 (k + 1) b n e c ms l = some (if b = true then 3 else (if moErr ms = 0 then lpFrom c 0 l else moErr ms)) := by
    intro b
    have hb : compile_Check.j0 (k + 1) b n e c ms l = (if b = true then (some 3) else ((rule_Months.f k ms).bind fun t => (if t = 0 then (compile_Check.l0 k 0 l (l.length : Int) 0 n e c ms l) else (some t)))) := by simp only [compile_Check.j0]
    rw [hb]
    cases b with
    | true => rfl
    | false =>
      rw [if_neg (show ¬ (false = true) from by decide), if_neg (show ¬ (false = true) from by decide), rule_Months_f ms k (by omega), Option.bind_some]
      by_cases c1 : moErr ms = 0
      · rw [if_pos c1, if_pos c1]
        exact compile_Check_l0 l hl n e c ms l l.length 0 k 0 (by omega) (by omega)
      · rw [if_neg c1, if_neg c1]
  unfold compile_Check.f calErr
  rw [rule_Name_f, Option.bind_some, line_Check_f, hj, hj]
  by_cases c0 : isName n = true
  · rw [if_pos c0, if_pos c0, Option.bind_some]
    by_cases c1 : -4000000 ≤ e ∧ e ≤ 4000000
    · rw [if_pos c1, if_pos rfl]
      by_cases c2 : c < 1
      · rw [if_pos c2, if_pos rfl, if_neg (by omega)]
      rw [if_neg c2]
      by_cases c3 : c > 3000
      · rw [if_pos (decide_eq_true c3), if_neg (by omega)]
      · rw [if_neg (by simpa using c3), if_pos (show (-4000000 ≤ e ∧ e ≤ 4000000) ∧ (1 ≤ c ∧ c ≤ 3000) from by omega)]
    · rw [if_neg c1, if_neg (by decide), if_pos rfl, if_neg (fun h => c1 h.1)]
  · rw [if_neg c0, if_neg c0]

/-- The days of a common year and of a leap year. -/
def shortSum (l : List S101) : Int := (l.map fun m => m.f1).sum
def longSum (l : List S101) : Int := (l.map fun m => m.f2).sum
theorem shortSum_cons (m : S101) (l : List S101) : shortSum (m :: l) = m.f1 + shortSum l := by unfold shortSum; rw [List.map_cons, List.sum_cons]
theorem longSum_cons (m : S101) (l : List S101) : longSum (m :: l) = m.f2 + longSum l := by unfold longSum; rw [List.map_cons, List.sum_cons]
def okMo (l : List S101) : Prop := ∀ m ∈ l, (0 ≤ m.f1 ∧ m.f1 ≤ 400) ∧ (0 ≤ m.f2 ∧ m.f2 ≤ 400)
theorem okMo_sum : ∀ (l : List S101), okMo l → (0 ≤ shortSum l ∧ shortSum l ≤ 400 * l.length) ∧ (0 ≤ longSum l ∧ longSum l ≤ 400 * l.length)
  | [], _ => by simp [shortSum, longSum]
  | m :: t, h => by
    have ih := okMo_sum t (fun x hx => h x (List.mem_cons_of_mem _ hx))
    have hm := h m List.mem_cons_self
    rw [shortSum_cons, longSum_cons, List.length_cons]
    omega
theorem moFrom_ok : ∀ (l : List S101) (a b : Int) (s : List (List UInt8)), moFrom a b s l = 0 → okMo l ∧ a + shortSum l ≠ 0 ∧ b + longSum l ≠ 0
  | [], a, b, s, h => by
    unfold moFrom at h
    by_cases c : a = 0
    · rw [if_pos c] at h; cases h
    · rw [if_neg c] at h
      by_cases d : b = 0
      · rw [if_pos d] at h; cases h
      · exact ⟨fun m hm => by simp at hm, by simpa [shortSum] using c, by simpa [longSum] using d⟩
  | m :: t, a, b, s, h => by
    unfold moFrom at h
    by_cases c1 : isName m.f0 = true
    · rw [if_pos c1] at h
      by_cases c2 : m.f0.toList ∈ s
      · rw [if_pos c2] at h; cases h
      · rw [if_neg c2] at h
        by_cases c3 : (0 ≤ m.f1 ∧ m.f1 ≤ 400) ∧ (0 ≤ m.f2 ∧ m.f2 ≤ 400)
        · rw [if_pos c3] at h
          obtain ⟨h1, h2, h3⟩ := moFrom_ok t _ _ _ h
          refine ⟨fun x hx => ?_, by rw [shortSum_cons]; omega, by rw [longSum_cons]; omega⟩
          rcases List.mem_cons.1 hx with rfl | hx
          · exact c3
          · exact h1 x hx
        · rw [if_neg c3] at h; cases h
    · rw [if_neg c1] at h; cases h
theorem lpFrom_ok (c : Int) : ∀ (l : List Int) (p : Int), lpFrom c p l = 0 → (∀ y ∈ l, p < y ∧ 1 ≤ y ∧ y ≤ c) ∧ l.Pairwise (· < ·)
  | [], _, _ => ⟨fun y h => by simp at h, List.Pairwise.nil⟩
  | x :: t, p, h => by
    unfold lpFrom at h
    by_cases c1 : 1 ≤ x ∧ x ≤ c
    · rw [if_pos c1] at h
      by_cases c2 : x ≤ p
      · rw [if_pos c2] at h; cases h
      · rw [if_neg c2] at h
        obtain ⟨h1, h2⟩ := lpFrom_ok c t x h
        refine ⟨fun y hy => ?_, List.pairwise_cons.2 ⟨fun y hy => (h1 y hy).1, h2⟩⟩
        rcases List.mem_cons.1 hy with rfl | hy
        · omega
        · have := h1 y hy; omega
    · rw [if_neg c1] at h; cases h
/-- What is known of a valid calendar. -/
structure OkCal (e c : Int) (ms : List S101) (l : List Int) : Prop where
  ep : -4000000 ≤ e ∧ e ≤ 4000000
  cy : 1 ≤ c ∧ c ≤ 3000
  len : 1 ≤ ms.length ∧ ms.length ≤ 20
  mo : okMo ms
  sp : 1 ≤ shortSum ms ∧ shortSum ms ≤ 8000
  lp : 1 ≤ longSum ms ∧ longSum ms ≤ 8000
  lo : ∀ y ∈ l, 1 ≤ y
  hi : ∀ y ∈ l, y ≤ c
  up : l.Pairwise (· < ·)
theorem calErr_ok {n : ByteArray} {e c : Int} {ms : List S101} {l : List Int} (h : calErr n e c ms l = 0) : OkCal e c ms l := by
  unfold calErr at h
  by_cases c1 : isName n = true
  · rw [if_pos c1] at h
    by_cases c2 : (-4000000 ≤ e ∧ e ≤ 4000000) ∧ (1 ≤ c ∧ c ≤ 3000)
    · rw [if_pos c2] at h
      by_cases c3 : moErr ms = 0
      · rw [if_pos c3] at h
        unfold moErr at c3
        by_cases c4 : 1 ≤ ms.length ∧ ms.length ≤ 20
        · rw [if_pos c4] at c3
          obtain ⟨h1, h2, h3⟩ := moFrom_ok ms 0 0 [] c3
          have hs := okMo_sum ms h1
          obtain ⟨h4, h5⟩ := lpFrom_ok c l 0 h
          exact ⟨c2.1, c2.2, c4, h1, by omega, by omega, fun y hy => (h4 y hy).2.1, fun y hy => (h4 y hy).2.2, h5⟩
        · rw [if_neg c4] at c3; cases c3
      · rw [if_neg c3] at h; exact absurd h c3
    · rw [if_neg c2] at h; cases h
  · rw [if_neg c1] at h; cases h
theorem OkCal.cnt {e c : Int} {ms : List S101} {l : List Int} (h : OkCal e c ms l) : cntLe l c = l.length := cnt_all h.hi
theorem OkCal.llen {e c : Int} {ms : List S101} {l : List Int} (h : OkCal e c ms l) : (l.length : Int) ≤ c := by
  have h1 := cnt_le_self h.up h.lo c.toNat
  have hc := h.cy
  rw [show ((c.toNat : Nat) : Int) = c from by omega, h.cnt] at h1
  exact h1
/-- The years of a cycle, one by one. -/
def leapList (c : Int) (l : List Int) : List Bool := (List.range c.toNat).map fun (i : Nat) => decide (((i : Int) + 1) ∈ l)
theorem leapList_len (c : Int) (l : List Int) : (leapList c l).length = c.toNat := by unfold leapList; rw [List.length_map, List.length_range]
theorem leapList_at (c : Int) (l : List Int) (j : Int) (h0 : 0 ≤ j) (h1 : j < c) : rdOf false (leapList c l) j = decide (j + 1 ∈ l) := by
  unfold rdOf
  have hl : j.toNat < (leapList c l).length := by rw [leapList_len]; omega
  rw [List.getD_eq_getElem?_getD, List.getElem?_eq_getElem hl]
  simp only [leapList, List.getElem_map, List.getElem_range, Option.getD_some]
  rw [show ((j.toNat : Nat) : Int) = j from by omega]
theorem leapList_nil (c : Int) : leapList c [] = List.replicate c.toNat false := by
  apply List.ext_getElem
  · rw [leapList_len, List.length_replicate]
  · intro i h1 h2
    simp [leapList]
theorem leapList_set (c : Int) (l : List Int) (y : Int) (h0 : 1 ≤ y) (h1 : y ≤ c) : (leapList c l).set (y - 1).toNat true = leapList c (l ++ [y]) := by
  apply List.ext_getElem
  · rw [List.length_set, leapList_len, leapList_len]
  · intro i h1 h2
    rw [List.getElem_set]
    simp only [leapList, List.getElem_map, List.getElem_range, List.mem_append, List.mem_singleton]
    by_cases c : (y - 1).toNat = i
    · rw [if_pos c]; symm; exact decide_eq_true (.inr (by omega))
    · rw [if_neg c]; exact decide_eq_decide.2 ⟨.inl, fun h => h.elim id (fun h => by omega)⟩
/-- Is it a leap year? -/
def isLeapY (c : Int) (l : List Int) (y : Int) : Bool := decide ((y - 1) % c + 1 ∈ l)
def yearLen (c : Int) (ms : List S101) (l : List Int) (y : Int) : Int := if isLeapY c l y = true then longSum ms else shortSum ms
/-- The first day of a year. -/
def nyD (e c : Int) (ms : List S101) (l : List Int) (y : Int) : Int := e + (y - 1) / c * sumY (shortSum ms) (longSum ms) l c.toNat + sumY (shortSum ms) (longSum ms) l ((y - 1) % c).toNat
theorem yearLen_bound {e c : Int} {ms : List S101} {l : List Int} (ok : OkCal e c ms l) (y : Int) : 1 ≤ yearLen c ms l y ∧ yearLen c ms l y ≤ 8000 := by
  unfold yearLen; split
  · exact ok.lp
  · exact ok.sp
theorem nyD_succ {e c : Int} {ms : List S101} {l : List Int} (ok : OkCal e c ms l) (y : Int) : nyD e c ms l (y + 1) = nyD e c ms l y + yearLen c ms l y := by
  have hc := ok.cy
  unfold nyD yearLen isLeapY
  obtain ⟨q, r, h0, h1, hy⟩ : ∃ q r : Int, 0 ≤ r ∧ r < c ∧ y - 1 = c * q + r := ⟨(y - 1) / c, (y - 1) % c, Int.emod_nonneg _ (by omega), Int.emod_lt_of_pos _ (by omega), (Int.mul_ediv_add_emod _ _).symm⟩
  obtain ⟨e1, e2⟩ := ed_uniq (a := y - 1) (b := c) (q := q) (r := r) (by omega) hy h0 h1
  have hd : (if decide (r + 1 ∈ l) = true then longSum ms else shortSum ms) = if r + 1 ∈ l then longSum ms else shortSum ms := by by_cases h : r + 1 ∈ l <;> simp [h]
  rw [e1, e2, hd]
  by_cases hr : r + 1 < c
  · obtain ⟨e3, e4⟩ := ed_uniq (a := y + 1 - 1) (b := c) (q := q) (r := r + 1) (by omega) (by omega) (by omega) hr
    rw [e3, e4, show (r + 1).toNat = r.toNat + 1 from by omega, sumY, show ((r.toNat : Nat) : Int) = r from by omega]; omega
  · obtain ⟨e3, e4⟩ := ed_uniq (a := y + 1 - 1) (b := c) (q := q + 1) (r := 0) (by omega) (by rw [Int.mul_add]; omega) (by omega) (by omega)
    have hT : sumY (shortSum ms) (longSum ms) l (r.toNat + 1) = sumY (shortSum ms) (longSum ms) l r.toNat + if r + 1 ∈ l then longSum ms else shortSum ms := by
      rw [sumY, show ((r.toNat : Nat) : Int) = r from by omega]
    rw [e3, e4, show (0 : Int).toNat = 0 from rfl, show c.toNat = r.toNat + 1 from by omega, Int.add_mul, Int.one_mul, show sumY (shortSum ms) (longSum ms) l 0 = 0 from rfl]
    generalize (if r + 1 ∈ l then longSum ms else shortSum ms) = z at *
    omega
theorem nyD_bound {e c : Int} {ms : List S101} {l : List Int} (ok : OkCal e c ms l) {y : Int} (hy : -30000 ≤ y ∧ y ≤ 30000) :
    (-30001 ≤ (y - 1) / c ∧ (y - 1) / c ≤ 30001) ∧ (0 ≤ (y - 1) % c ∧ (y - 1) % c < c) ∧ (-720024000000 ≤ (y - 1) / c * sumY (shortSum ms) (longSum ms) l c.toNat ∧ (y - 1) / c * sumY (shortSum ms) (longSum ms) l c.toNat ≤ 720024000000) ∧ (0 ≤ sumY (shortSum ms) (longSum ms) l ((y - 1) % c).toNat ∧ sumY (shortSum ms) (longSum ms) l ((y - 1) % c).toNat ≤ 24000000) ∧ (1 ≤ sumY (shortSum ms) (longSum ms) l c.toNat ∧ sumY (shortSum ms) (longSum ms) l c.toNat ≤ 24000000) := by
  have hc := ok.cy; have hs := ok.sp; have hl := ok.lp
  have q1 : -30001 ≤ (y - 1) / c := by rw [Int.le_ediv_iff_mul_le (by omega)]; omega
  have q2 : (y - 1) / c ≤ 30001 := by
    have : (y - 1) / c < 30002 := by rw [Int.ediv_lt_iff_lt_mul (by omega)]; omega
    omega
  have r1 := Int.emod_nonneg (y - 1) (b := c) (by omega)
  have r2 := Int.emod_lt_of_pos (y - 1) (b := c) (by omega)
  have s1 := sumY_bound (s := shortSum ms) (b := longSum ms) (l := l) (by omega) (by omega) (by omega) (by omega) c.toNat
  have s2 := sumY_bound (s := shortSum ms) (b := longSum ms) (l := l) (by omega) (by omega) (by omega) (by omega) ((y - 1) % c).toNat
  have s3 : 1 ≤ sumY (shortSum ms) (longSum ms) l c.toNat := by
    obtain ⟨m, hm⟩ : ∃ m, c.toNat = m + 1 := ⟨c.toNat - 1, by omega⟩
    have s4 := sumY_bound (s := shortSum ms) (b := longSum ms) (l := l) (by omega) (by omega) (by omega) (by omega) m
    rw [hm, sumY]; split <;> omega
  generalize sumY (shortSum ms) (longSum ms) l c.toNat = T at *
  have p1 : -30001 * T ≤ (y - 1) / c * T := Int.mul_le_mul_of_nonneg_right q1 (by omega)
  have p2 : (y - 1) / c * T ≤ 30001 * T := Int.mul_le_mul_of_nonneg_right q2 (by omega)
  omega
theorem prod8000 {s c : Int} (hs : 0 ≤ s ∧ s ≤ 8000) (hc : 0 ≤ c ∧ c ≤ 3000) : 0 ≤ s * c ∧ s * c ≤ 24000000 := by
  have := mul_lt (n := 8000) (m := 3000) hs.1 hs.2 hc.1 hc.2
  omega
/-- The length of a month; the days of the first months. -/
def monL (ms : List S101) (lp : Bool) (m : Int) : Int := if lp = true then (rd_T101 ms (m - 1)).f2 else (rd_T101 ms (m - 1)).f1
def monSum (ms : List S101) (lp : Bool) : Nat → Int
  | 0 => 0
  | j + 1 => monSum ms lp j + monL ms lp ((j : Int) + 1)
theorem monL_bound {ms : List S101} (h : okMo ms) (lp : Bool) {m : Int} (h1 : 1 ≤ m) (h2 : m ≤ ms.length) : 0 ≤ monL ms lp m ∧ monL ms lp m ≤ 400 := by
  obtain ⟨i, hi⟩ : ∃ i : Nat, m - 1 = i := ⟨(m - 1).toNat, by omega⟩
  have hlt : i < ms.length := by omega
  have := h ms[i] (List.getElem_mem hlt)
  unfold monL
  rw [hi, mo_at ms i hlt]
  split <;> omega
theorem monSum_bound {ms : List S101} (h : okMo ms) (lp : Bool) : ∀ j : Nat, j ≤ ms.length → 0 ≤ monSum ms lp j ∧ monSum ms lp j ≤ 400 * j
  | 0, _ => by simp [monSum]
  | j + 1, hj => by
    have := monSum_bound h lp j (by omega)
    have := monL_bound h lp (m := (j : Int) + 1) (by omega) (by omega)
    rw [monSum]; omega
theorem monSum_all (lp : Bool) : ∀ (ms : List S101) (j : Nat), j ≤ ms.length → monSum ms lp j = if lp = true then longSum (ms.take j) else shortSum (ms.take j)
  | ms, 0, _ => by simp [monSum, longSum, shortSum]
  | ms, j + 1, hj => by
    have hlt : j < ms.length := by omega
    rw [monSum, monSum_all lp ms j (by omega), monL, show (j : Int) + 1 - 1 = (j : Int) from by omega, mo_at ms j hlt, List.take_succ_eq_append_getElem hlt]
    unfold longSum shortSum
    rw [List.map_append, List.map_append, List.sum_append, List.sum_append]
    simp only [List.map_cons, List.map_nil, List.sum_cons, List.sum_nil, Int.add_zero]
    split <;> rfl
/-- The day of a date of a valid calendar. -/
def toDayD (e c : Int) (ms : List S101) (l : List Int) (y m d : Int) : Int × Int :=
  if -10000 ≤ y ∧ y ≤ 10000 then (if (1 ≤ m ∧ m ≤ ms.length) ∧ (1 ≤ d ∧ d ≤ monL ms (isLeapY c l y) m) then
    (if -4000000 ≤ nyD e c ms l y + d - 1 + monSum ms (isLeapY c l y) (m - 1).toNat ∧ nyD e c ms l y + d - 1 + monSum ms (isLeapY c l y) (m - 1).toNat ≤ 4000000 then (nyD e c ms l y + d - 1 + monSum ms (isLeapY c l y) (m - 1).toNat, 0) else (0, 3)) else (0, 1)) else (0, 3)
theorem nyD_range {e c : Int} {ms : List S101} {l : List Int} (ok : OkCal e c ms l) {y : Int} (hy : -30000 ≤ y ∧ y ≤ 30000) : -800000000000 ≤ nyD e c ms l y ∧ nyD e c ms l y ≤ 800000000000 := by
  obtain ⟨b1, b2, b3, b4, b5⟩ := nyD_bound ok hy
  have he := ok.ep
  unfold nyD; omega
theorem nyD_mono {e c : Int} {ms : List S101} {l : List Int} (ok : OkCal e c ms l) (y : Int) : ∀ d : Nat, nyD e c ms l y + d ≤ nyD e c ms l (y + d)
  | 0 => by simp
  | d + 1 => by
    have h1 := nyD_mono ok y d
    have h2 := nyD_succ ok (y + d)
    have h3 := yearLen_bound ok (y + d)
    rw [show y + ((d + 1 : Nat) : Int) = y + d + 1 from by omega, h2]; omega
theorem nyD_lt {e c : Int} {ms : List S101} {l : List Int} (ok : OkCal e c ms l) {a b : Int} (h : a ≤ b) : nyD e c ms l a + (b - a) ≤ nyD e c ms l b := by
  have := nyD_mono ok a (b - a).toNat
  rwa [show a + (((b - a).toNat : Nat) : Int) = b from by omega, show (((b - a).toNat : Nat) : Int) = b - a from by omega] at this
/-- The year in which a day lies; the month. -/
def inYear (e c : Int) (ms : List S101) (l : List Int) (day y : Int) : Prop := nyD e c ms l y ≤ day ∧ day < nyD e c ms l (y + 1)
theorem inYear_uniq {e c : Int} {ms : List S101} {l : List Int} (ok : OkCal e c ms l) {day a b : Int} (ha : inYear e c ms l day a) (hb : inYear e c ms l day b) : a = b := by
  obtain ⟨a1, a2⟩ := ha; obtain ⟨b1, b2⟩ := hb
  rcases Int.lt_trichotomy a b with h | h | h
  · have := nyD_lt ok (show a + 1 ≤ b by omega); omega
  · exact h
  · have := nyD_lt ok (show b + 1 ≤ a by omega); omega
def inMonth (ms : List S101) (lp : Bool) (rest m : Int) : Prop := (1 ≤ m ∧ m ≤ ms.length) ∧ monSum ms lp (m - 1).toNat ≤ rest ∧ rest < monSum ms lp m.toNat
theorem monSum_mono {ms : List S101} (h : okMo ms) (lp : Bool) (i : Nat) : ∀ d : Nat, i + d ≤ ms.length → monSum ms lp i ≤ monSum ms lp (i + d)
  | 0, _ => Int.le_refl _
  | d + 1, hd => by
    have h1 := monSum_mono h lp i d (by omega)
    have h2 := monL_bound h lp (m := ((i + d : Nat) : Int) + 1) (by omega) (by omega)
    rw [show i + (d + 1) = (i + d) + 1 from by omega, monSum]; omega
theorem inMonth_uniq {ms : List S101} (h : okMo ms) {lp : Bool} {rest a b : Int} (ha : inMonth ms lp rest a) (hb : inMonth ms lp rest b) : a = b := by
  obtain ⟨⟨a0, a3⟩, a1, a2⟩ := ha; obtain ⟨⟨b0, b3⟩, b1, b2⟩ := hb
  rcases Int.lt_trichotomy a b with hh | hh | hh
  · have := monSum_mono h lp a.toNat ((b - 1).toNat - a.toNat) (by omega)
    rw [show a.toNat + ((b - 1).toNat - a.toNat) = (b - 1).toNat from by omega] at this; omega
  · exact hh
  · have := monSum_mono h lp b.toNat ((a - 1).toNat - b.toNat) (by omega)
    rw [show b.toNat + ((a - 1).toNat - b.toNat) = (a - 1).toNat from by omega] at this; omega
theorem monSum_year {e c : Int} {ms : List S101} {l : List Int} (ok : OkCal e c ms l) (y : Int) : monSum ms (isLeapY c l y) ms.length = yearLen c ms l y := by
  rw [monSum_all _ _ _ (Nat.le_refl _), List.take_length]; rfl

theorem moFrom_eq : ∀ (l : List S101) (a b : Int) (p q : Bool) (s : List (List UInt8)), 0 ≤ a → 0 ≤ b → (p = true ↔ 0 < a) → (q = true ↔ 0 < b) → moFrom a b s l = mrFrom p q s l
  | [], a, b, p, q, s, ha, hb, hp, hq => by
    unfold moFrom mrFrom
    by_cases c : a = 0
    · rw [if_pos c, if_neg (fun h => by have := hp.1 h; omega)]
    · rw [if_neg c, if_pos (hp.2 (by omega))]
      by_cases d : b = 0
      · rw [if_pos d, if_neg (fun h => by have := hq.1 h; omega)]
      · rw [if_neg d, if_pos (hq.2 (by omega))]
  | m :: t, a, b, p, q, s, ha, hb, hp, hq => by
    unfold moFrom mrFrom
    by_cases c : (0 ≤ m.f1 ∧ m.f1 ≤ 400) ∧ (0 ≤ m.f2 ∧ m.f2 ≤ 400)
    · rw [if_pos c, if_pos c, moFrom_eq t (a + m.f1) (b + m.f2) (p || decide (m.f1 > 0)) (q || decide (m.f2 > 0)) (s ++ [m.f0.toList]) (by omega) (by omega)
        (by rw [Bool.or_eq_true, hp, decide_eq_true_eq]; omega) (by rw [Bool.or_eq_true, hq, decide_eq_true_eq]; omega)]
    · rw [if_neg c, if_neg c]
theorem moErr_eq (l : List S101) : moErr l = mrErr l := by
  unfold moErr mrErr
  rw [moFrom_eq l 0 0 false false [] (by omega) (by omega) (by simp) (by simp)]
theorem lpFrom_eq (c : Int) : ∀ (l : List Int) (p : Int) (q : Option Int), (∀ x, 1 ≤ x → (x ≤ p ↔ ∃ r, q = some r ∧ r ≥ x)) → lpFrom c p l = clFrom c q l
  | [], _, _, _ => rfl
  | x :: t, p, q, h => by
    unfold lpFrom clFrom
    by_cases c1 : 1 ≤ x ∧ x ≤ c
    · rw [if_pos c1, if_pos c1]
      by_cases c2 : x ≤ p
      · rw [if_pos c2, if_pos ((h x c1.1).1 c2)]
      · rw [if_neg c2, if_neg (fun g => c2 ((h x c1.1).2 g))]
        exact lpFrom_eq c t x (some x) (fun y _ => ⟨fun g => ⟨x, rfl, g⟩, fun ⟨r, e, g⟩ => by cases e; exact g⟩)
    · rw [if_neg c1, if_neg c1]
theorem calErr_eq (n : ByteArray) (e c : Int) (ms : List S101) (l : List Int) : calErr n e c ms l = crErr n e c ms l := by
  unfold calErr crErr
  rw [moErr_eq, lpFrom_eq c l 0 none (fun x hx => ⟨fun h => by omega, fun ⟨r, h, _⟩ => by cases h⟩)]

theorem Apart_l2 (n : ByteArray) (e c : Int) (ms : List S101) (l : List Int) (ok : OkCal e c ms l) : ∀ (d i k : Nat), (i : Int) + d = c → d < k →
    ephemerisref1_Apart.l2 k (leapList c l) ((leapList c l).length : Int) (i : Int) n e c ms l (leapList c l) (shortSum ms) (longSum ms) (sumY (shortSum ms) (longSum ms) l i) =
      some (n, e, c, ms, l, leapList c l, shortSum ms, longSum ms, sumY (shortSum ms) (longSum ms) l c.toNat) := by
  have hl := leapList_len c l
  have hc := ok.cy; have hs := ok.sp; have hb := ok.lp
  intro d
  induction d with
  | zero =>
    intro i k hi hk
    obtain ⟨k, rfl⟩ : ∃ m, k = m + 1 := ⟨k - 1, by omega⟩
    simp only [ephemerisref1_Apart.l2]
    rw [if_neg (by omega), show c.toNat = i from by omega]
  | succ d ih =>
    intro i k hi hk
    obtain ⟨k, rfl⟩ : ∃ m, k = m + 1 := ⟨k - 1, by omega⟩
    have ih := ih (i + 1) k (by omega) (by omega)
    have hbd := sumY_bound (s := shortSum ms) (b := longSum ms) (l := l) (by omega) (by omega) (by omega) (by omega) i
    simp only [ephemerisref1_Apart.l2]
    rw [if_pos (by omega), if_pos (by omega), if_pos (by omega), leapList_at c l i (by omega) (by omega), ephemerisref1_yes_f, Option.bind_some, w64_id (n := (i : Int) + 1) (by omega) (by omega)]
    rw [show ((i + 1 : Nat) : Int) = (i : Int) + 1 from by omega, sumY] at ih
    by_cases hm : (i : Int) + 1 ∈ l
    · rw [if_pos hm] at ih
      rw [decide_eq_true hm, if_pos (show true = true from rfl), if_neg (by decide), if_pos rfl, w64_id (n := _ + longSum ms) (by omega) (by omega)]
      exact ih
    · rw [if_neg hm] at ih
      rw [decide_eq_false hm, if_neg Bool.false_ne_true, if_pos rfl, w64_id (n := _ + shortSum ms) (by omega) (by omega)]
      exact ih
theorem Apart_l1 (n : ByteArray) (e c : Int) (ms : List S101) (l : List Int) (ok : OkCal e c ms l) : ∀ (d i k : Nat) (a b : Int), i + d = ms.length → d + 3010 < k → 0 ≤ a → a ≤ 400 * i → 0 ≤ b → b ≤ 400 * i →
    a + shortSum (ms.drop i) = shortSum ms → b + longSum (ms.drop i) = longSum ms →
    ephemerisref1_Apart.l1 k ms (ms.length : Int) (i : Int) n e c ms l (leapList c l) a b 0 =
      some (n, e, c, ms, l, leapList c l, shortSum ms, longSum ms, sumY (shortSum ms) (longSum ms) l c.toNat) := by
  have hlen := ok.len
  intro d
  induction d with
  | zero =>
    intro i k a b hi hk a0 a1 b0 b1 ha hb
    obtain ⟨k, rfl⟩ : ∃ m, k = m + 1 := ⟨k - 1, by omega⟩
    simp only [ephemerisref1_Apart.l1]
    rw [List.drop_of_length_le (by omega)] at ha hb
    rw [if_neg (by omega), show a = shortSum ms from by simpa [shortSum] using ha, show b = longSum ms from by simpa [longSum] using hb]
    exact Apart_l2 n e c ms l ok c.toNat 0 k (by have := ok.cy; omega) (by have := ok.cy; omega)
  | succ d ih =>
    intro i k a b hi hk a0 a1 b0 b1 ha hb
    obtain ⟨k, rfl⟩ : ∃ m, k = m + 1 := ⟨k - 1, by omega⟩
    have hlt : i < ms.length := by omega
    have hm := ok.mo ms[i] (List.getElem_mem hlt)
    simp only [ephemerisref1_Apart.l1]
    rw [List.drop_eq_getElem_cons hlt, shortSum_cons] at ha
    rw [List.drop_eq_getElem_cons hlt, longSum_cons] at hb
    rw [if_pos (by omega), if_pos (by omega), if_pos (by omega), mo_at ms i hlt, w64_id (n := a + ms[i].f1) (by omega) (by omega), w64_id (n := b + ms[i].f2) (by omega) (by omega), w64_id (n := (i : Int) + 1) (by omega) (by omega)]
    have := ih (i + 1) k (a + ms[i].f1) (b + ms[i].f2) (by omega) (by omega) (by omega) (by omega) (by omega) (by omega) (by omega) (by omega)
    rw [show ((i + 1 : Nat) : Int) = (i : Int) + 1 from by omega] at this
    exact this
theorem Apart_l0 (n : ByteArray) (e c : Int) (ms : List S101) (l : List Int) (ok : OkCal e c ms l) : ∀ (d i k : Nat), i + d = l.length → d + 3100 < k →
    ephemerisref1_Apart.l0 k l (l.length : Int) (i : Int) n e c ms l n e c ms l (leapList c (l.take i)) 0 0 0 =
      some (n, e, c, ms, l, leapList c l, shortSum ms, longSum ms, sumY (shortSum ms) (longSum ms) l c.toNat) := by
  have hc := ok.cy
  have hll := ok.llen
  intro d
  induction d with
  | zero =>
    intro i k hi hk
    obtain ⟨k, rfl⟩ : ∃ m, k = m + 1 := ⟨k - 1, by omega⟩
    simp only [ephemerisref1_Apart.l0]
    rw [if_neg (by omega), List.take_of_length_le (by omega)]
    exact Apart_l1 n e c ms l ok ms.length 0 k 0 0 (by omega) (by have := ok.len; omega) (by omega) (by omega) (by omega) (by omega) (by simp) (by simp)
  | succ d ih =>
    intro i k hi hk
    obtain ⟨k, rfl⟩ : ∃ m, k = m + 1 := ⟨k - 1, by omega⟩
    have hlt : i < l.length := by omega
    have h0 := ok.lo l[i] (List.getElem_mem hlt)
    have h1 := ok.hi l[i] (List.getElem_mem hlt)
    have hl := leapList_len c (l.take i)
    simp only [ephemerisref1_Apart.l0]
    rw [if_pos (by omega), if_pos (by omega), if_pos (by omega), rd_get l i hlt, w64_id (n := l[i] - 1) (by omega) (by omega), if_pos (by omega), if_pos (by omega), leapList_set c (l.take i) l[i] h0 h1, take_snoc' l i hlt, w64_id (n := (i : Int) + 1) (by omega) (by omega)]
    exact ih (i + 1) k (by omega) (by omega)
theorem ephemerisref1_Apart_f (n : ByteArray) (e c : Int) (ms : List S101) (l : List Int) (ok : OkCal e c ms l) (k : Nat) (hk : 7000 ≤ k) :
    ephemerisref1_Apart.f k n e c ms l = some (n, e, c, ms, l, leapList c l, shortSum ms, longSum ms, sumY (shortSum ms) (longSum ms) l c.toNat) := by
  have hc := ok.cy
  have hll := ok.llen
  unfold ephemerisref1_Apart.f
  rw [if_pos (by omega), if_pos (by omega), ← leapList_nil]
  exact Apart_l0 n e c ms l ok l.length 0 k (by omega) (by omega)

theorem clone_f (ms : List S101) (h : ms.length < 4398046511104) : api_RuleMonth.f ms = some ms := by
  unfold api_RuleMonth.f
  rw [Option.bind_some, if_pos (by simpa using h)]; rfl
/-- With a cycle of n years the leap years are the same. -/
def SameY (c : Int) (l : List Int) (n : Int) : Prop := ∀ k, 1 ≤ k → k ≤ c → isLeapY c l k = isLeapY c l (k + n)
/-- The smallest cycle. -/
def LeastAt (c : Int) (l : List Int) (n : Int) : Prop := (1 ≤ n ∧ n ≤ c) ∧ (c % n = 0 ∧ SameY c l n) ∧ ∀ m, 1 ≤ m → m < n → ¬ (c % m = 0 ∧ SameY c l m)
theorem leapY_in {c : Int} {l : List Int} {y : Int} (h0 : 1 ≤ y) (h1 : y ≤ c) : isLeapY c l y = decide (y ∈ l) := by
  unfold isLeapY
  rw [Int.emod_eq_of_lt (by omega) (by omega), show y - 1 + 1 = y from by omega]
theorem leapY_add {c : Int} {l : List Int} (y : Int) : isLeapY c l (y + c) = isLeapY c l y := by
  unfold isLeapY
  rw [show y + c - 1 = y - 1 + c from by omega, Int.add_emod_right]
theorem sameY_self (c : Int) (l : List Int) : SameY c l c := fun k _ _ => (leapY_add k).symm
theorem same_iff {c : Int} {l : List Int} {n : Int} (hn : 1 ≤ n) (hnc : n < c) (hd : c % n = 0) : (∀ i, n ≤ i → i < c → decide (i + 1 ∈ l) = decide (i - n + 1 ∈ l)) ↔ SameY c l n := by
  constructor
  · intro h k h1 h2
    by_cases c1 : k + n ≤ c
    · rw [leapY_in h1 h2, leapY_in (by omega) c1]
      have := h (k + n - 1) (by omega) (by omega)
      rw [show k + n - 1 + 1 = k + n from by omega, show k + n - 1 - n + 1 = k from by omega] at this
      exact this.symm
    · have e : isLeapY c l (k + n) = isLeapY c l (k + n - c) := by
        have := leapY_add (c := c) (l := l) (k + n - c)
        rwa [show k + n - c + c = k + n from by omega] at this
      rw [e, leapY_in h1 h2, leapY_in (by omega) (by omega)]
      have it : ∀ t : Nat, k + n - c + n * t ≤ c → decide (k + n - c + n * t ∈ l) = decide (k + n - c ∈ l) := by
        intro t
        induction t with
        | zero => intro _; simp
        | succ t ih =>
          intro ht
          have e2 : n * ((t + 1 : Nat) : Int) = n * t + n := by rw [Int.natCast_add, Int.mul_add]; simp
          have p := Int.mul_nonneg (show 0 ≤ n by omega) (show (0 : Int) ≤ (t : Int) by omega)
          rw [e2] at ht ⊢
          have := h (k + n - c + n * t + n - 1) (by omega) (by omega)
          rw [show k + n - c + n * t + n - 1 + 1 = k + n - c + (n * t + n) from by omega, show k + n - c + n * t + n - 1 - n + 1 = k + n - c + n * t from by omega] at this
          rw [this]; exact ih (by omega)
      have hdiv : n * (c / n) = c := by have := Int.mul_ediv_add_emod c n; omega
      have hq : 1 ≤ c / n := by rw [Int.le_ediv_iff_mul_le (by omega)]; omega
      have hm : n * (c / n - 1) = c - n := by rw [Int.mul_sub, hdiv]; omega
      have := it (c / n - 1).toNat (by rw [show (((c / n - 1).toNat : Nat) : Int) = c / n - 1 from by omega, hm]; omega)
      rw [show (((c / n - 1).toNat : Nat) : Int) = c / n - 1 from by omega, hm, show k + n - c + (c - n) = k from by omega] at this
      exact this
  · intro h i h1 h2
    have := h (i - n + 1) (by omega) (by omega)
    rw [show i - n + 1 + n = i + 1 from by omega, leapY_in (by omega) (by omega), leapY_in (by omega) (by omega)] at this
    exact this.symm
theorem filt_succ : ∀ (l : List Int) (j : Int), l.Pairwise (· < ·) → l.filter (fun y => decide (y ≤ j + 1)) = l.filter (fun y => decide (y ≤ j)) ++ if j + 1 ∈ l then [j + 1] else []
  | [], _, _ => by simp
  | x :: t, j, h => by
    obtain ⟨h1, h2⟩ := List.pairwise_cons.1 h
    have ih := filt_succ t j h2
    by_cases c1 : x ≤ j
    · rw [List.filter_cons_of_pos (by simpa using (show x ≤ j + 1 by omega)), List.filter_cons_of_pos (by simpa using c1), ih, List.cons_append]
      have : (j + 1 ∈ x :: t) ↔ j + 1 ∈ t := by rw [List.mem_cons]; constructor <;> intro a
                                                · rcases a with a | a
                                                  · omega
                                                  · exact a
                                                · exact .inr a
      by_cases c2 : j + 1 ∈ t
      · rw [if_pos c2, if_pos (this.2 c2)]
      · rw [if_neg c2, if_neg (fun a => c2 (this.1 a))]
    · have hf : ∀ b : Int, b ≤ x → (∀ y ∈ t, b < y) → t.filter (fun y => decide (y ≤ b)) = [] := by
        intro b _ hb
        rw [List.filter_eq_nil_iff]
        intro y hy; have := hb y hy; simp; omega
      have hfj : t.filter (fun y => decide (y ≤ j)) = [] := hf j (by omega) (fun y hy => by have := h1 y hy; omega)
      have hfj1 : t.filter (fun y => decide (y ≤ j + 1)) = [] := hf (j + 1) (by omega) (fun y hy => by have := h1 y hy; omega)
      have hlx : (x :: t).filter (fun y => decide (y ≤ j)) = [] := by rw [List.filter_cons_of_neg (by simpa using c1)]; exact hfj
      rw [hlx]
      by_cases c2 : x = j + 1
      · subst c2
        rw [List.filter_cons_of_pos (by simp), hfj1, if_pos (List.mem_cons_self ..)]; rfl
      · rw [List.filter_cons_of_neg (by simp; omega), hfj1, if_neg]; rfl
        intro a
        rcases List.mem_cons.1 a with a | a
        · omega
        · have := h1 _ a; omega
theorem filt_zero {l : List Int} (h : ∀ y ∈ l, 1 ≤ y) : l.filter (fun y => decide (y ≤ (0 : Int))) = [] := by
  rw [List.filter_eq_nil_iff]
  intro y hy; have := h y hy; simp; omega

theorem Least_l3 (n : ByteArray) (e c' : Int) (ms : List S101) (l : List Int) (hl : l.length ≤ 3000) (x : Int) : ∀ (d i k : Nat), i + d = l.length → d < k →
    compile_Least.l3 k x l (l.length : Int) (i : Int) n e c' ms ((l.take i).filter (fun y => decide (y ≤ x))) = some (n, e, c', ms, l.filter (fun y => decide (y ≤ x)), 0) := by
  intro d
  induction d with
  | zero =>
    intro i k hi hk
    obtain ⟨k, rfl⟩ : ∃ m, k = m + 1 := ⟨k - 1, by omega⟩
    simp only [compile_Least.l3]
    rw [if_neg (by omega), List.take_of_length_le (by omega)]
  | succ d ih =>
    intro i k hi hk
    obtain ⟨k, rfl⟩ : ∃ m, k = m + 1 := ⟨k - 1, by omega⟩
    have hlt : i < l.length := by omega
    have ih := ih (i + 1) k (by omega) (by omega)
    rw [← take_snoc' l i hlt, List.filter_append, show ((i + 1 : Nat) : Int) = (i : Int) + 1 from by omega] at ih
    have hb : ((l.take i).filter (fun y => decide (y ≤ x))).length ≤ l.length := Nat.le_trans (List.length_filter_le _ _) (by rw [List.length_take]; omega)
    simp only [compile_Least.l3]
    rw [if_pos (by omega), if_pos (by omega), if_pos (by omega), rd_get l i hlt, w64_id (n := (i : Int) + 1) (by omega) (by omega)]
    by_cases h : l[i] ≤ x
    · rw [List.filter_cons_of_pos (by simpa using h), List.filter_nil] at ih
      rw [if_pos h, if_pos (by omega)]; exact ih
    · rw [List.filter_cons_of_neg (by simpa using h), List.filter_nil, List.append_nil] at ih
      rw [if_neg h]; exact ih
theorem Least_j3 (n : ByteArray) {e c : Int} {ms : List S101} {l : List Int} (ok : OkCal e c ms l) (x : Int) (k : Nat) (hk : 3100 ≤ k) :
    compile_Least.j3 k x n e c ms l = some (n, e, x, ms, l.filter (fun y => decide (y ≤ x)), 0) := by
  have hll := ok.llen; have hc := ok.cy
  obtain ⟨k, rfl⟩ : ∃ m, k = m + 1 := ⟨k - 1, by omega⟩
  simp only [compile_Least.j3]
  rw [clone_f ms (by have := ok.len; omega), Option.bind_some]
  have := Least_l3 n e x ms l (by omega) x l.length 0 k (by omega) (by omega)
  simpa using this
theorem Least_l2 (n : ByteArray) {e c : Int} {ms : List S101} {l : List Int} (ok : OkCal e c ms l) (x : Int) (hx : 1 ≤ x ∧ x < c) : ∀ (d k : Nat) (i : Int) (b : Bool), i + d = c → x ≤ i → d < k → ∃ k', k ≤ k' + d + 1 ∧
    (((b = true ∧ ∀ j, i ≤ j → j < c → decide (j + 1 ∈ l) = decide (j - x + 1 ∈ l)) ∧ compile_Least.l2 k (leapList c l) x b i n e c ms l = compile_Least.j3 k' x n e c ms l) ∨
     (¬ (b = true ∧ ∀ j, i ≤ j → j < c → decide (j + 1 ∈ l) = decide (j - x + 1 ∈ l)) ∧ compile_Least.l2 k (leapList c l) x b i n e c ms l = compile_Least.l1 k' (leapList c l) (x + 1) n e c ms l)) := by
  have hc := ok.cy
  have hlen := leapList_len c l
  intro d
  induction d with
  | zero =>
    intro k i b hi hxi hk
    obtain ⟨k, rfl⟩ : ∃ m, k = m + 1 := ⟨k - 1, by omega⟩
    refine ⟨k, by omega, ?_⟩
    simp only [compile_Least.l2]
    rw [if_neg (by omega), w64_id (n := x + 1) (by omega) (by omega)]
    by_cases h : b = true
    · exact .inl ⟨⟨h, fun j h1 h2 => by omega⟩, by rw [if_pos h]⟩
    · exact .inr ⟨fun a => h a.1, by rw [if_neg h]⟩
  | succ d ih =>
    intro k i b hi hxi hk
    obtain ⟨k, rfl⟩ : ∃ m, k = m + 1 := ⟨k - 1, by omega⟩
    by_cases h : b = true
    · obtain ⟨k', hk', hr⟩ := ih k (i + 1) (decide (i + 1 ∈ l) == decide (i - x + 1 ∈ l)) (by omega) (by omega) (by omega)
      have eq : compile_Least.l2 (k + 1) (leapList c l) x b i n e c ms l = compile_Least.l2 k (leapList c l) x (decide (i + 1 ∈ l) == decide (i - x + 1 ∈ l)) (i + 1) n e c ms l := by
        rw [compile_Least.l2, if_pos (by omega), if_pos h, if_pos (by omega), if_pos (by omega), w64_id (n := i - x) (by omega) (by omega), if_pos (by omega), if_pos (by omega), w64_id (n := i + 1) (by omega) (by omega), leapList_at c l i (by omega) (by omega), leapList_at c l (i - x) (by omega) (by omega)]
      refine ⟨k', by omega, ?_⟩
      rw [eq]
      rcases hr with ⟨⟨a1, a2⟩, a3⟩ | ⟨a1, a2⟩
      · refine .inl ⟨⟨h, fun j h1 h2 => ?_⟩, a3⟩
        by_cases hj : j = i
        · subst hj; exact beq_iff_eq.1 a1
        · exact a2 j (by omega) h2
      · refine .inr ⟨fun ⟨_, v⟩ => a1 ⟨beq_iff_eq.2 (v i (by omega) (by omega)), fun j h1 h2 => v j (by omega) h2⟩, a2⟩
    · refine ⟨k, by omega, .inr ⟨fun a => h a.1, ?_⟩⟩
      rw [compile_Least.l2, if_pos (by omega), if_neg h, w64_id (n := x + 1) (by omega) (by omega)]
theorem Least_l1 (n : ByteArray) {e c : Int} {ms : List S101} {l : List Int} (ok : OkCal e c ms l) : ∀ (d k : Nat) (x : Int), x + d = c → 1 ≤ x → ((d : Int) + 1) * 3100 + 5000 < (k : Int) → (∀ m, 1 ≤ m → m < x → ¬ (c % m = 0 ∧ SameY c l m)) →
    ∃ r, LeastAt c l r ∧ compile_Least.l1 k (leapList c l) x n e c ms l = some (n, e, r, ms, l.filter (fun y => decide (y ≤ r)), 0) := by
  have hc := ok.cy
  intro d
  induction d with
  | zero =>
    intro k x hi hx hk hno
    obtain ⟨k, rfl⟩ : ∃ m, k = m + 1 := ⟨k - 1, by omega⟩
    obtain rfl : x = c := by omega
    refine ⟨x, ⟨by omega, ⟨Int.emod_self, sameY_self x l⟩, hno⟩, ?_⟩
    rw [compile_Least.l1, if_neg (by omega), Least_j3 n ok x k (by omega)]
  | succ d ih =>
    intro k x hi hx hk hno
    obtain ⟨k, rfl⟩ : ∃ m, k = m + 1 := ⟨k - 1, by omega⟩
    have ht : Int.tmod c x = c % x := Int.tmod_eq_emod_of_nonneg (by omega)
    rw [compile_Least.l1, if_pos (by omega), if_neg (by omega), ht]
    by_cases h : c % x = 0
    · rw [if_pos h]
      obtain ⟨k', hk', hr⟩ := Least_l2 n ok x ⟨hx, by omega⟩ (c - x).toNat k x true (by omega) (by omega) (by omega)
      have si := same_iff (l := l) hx (show x < c by omega) h
      rcases hr with ⟨⟨_, a2⟩, a3⟩ | ⟨a1, a2⟩
      · refine ⟨x, ⟨by omega, ⟨h, si.1 a2⟩, hno⟩, ?_⟩
        rw [a3, Least_j3 n ok x k' (by omega)]
      · rw [a2]
        refine ih k' (x + 1) (by omega) (by omega) (by omega) ?_
        intro m h1 h2 hm
        by_cases hmx : m = x
        · subst hmx; exact a1 ⟨rfl, si.2 hm.2⟩
        · exact hno m h1 (by omega) hm
    · rw [if_neg h, w64_id (n := x + 1) (by omega) (by omega)]
      refine ih k (x + 1) (by omega) (by omega) (by omega) ?_
      intro m h1 h2 hm
      by_cases hmx : m = x
      · subst hmx; exact h hm.1
      · exact hno m h1 (by omega) hm
theorem Least_l0 (n : ByteArray) {e c : Int} {ms : List S101} {l : List Int} (ok : OkCal e c ms l) : ∀ (d i k : Nat), i + d = l.length → d + 10000000 < k →
    ∃ r, LeastAt c l r ∧ compile_Least.l0 k (leapList c (l.take i)) l (l.length : Int) (i : Int) n e c ms l = some (n, e, r, ms, l.filter (fun y => decide (y ≤ r)), 0) := by
  have hc := ok.cy
  have hll := ok.llen
  intro d
  induction d with
  | zero =>
    intro i k hi hk
    obtain ⟨k, rfl⟩ : ∃ m, k = m + 1 := ⟨k - 1, by omega⟩
    obtain ⟨r, h1, h2⟩ := Least_l1 n ok (c - 1).toNat k 1 (by omega) (by omega) (by omega) (fun m a b => by omega)
    refine ⟨r, h1, ?_⟩
    rw [compile_Least.l0, if_neg (by omega), List.take_of_length_le (by omega)]; exact h2
  | succ d ih =>
    intro i k hi hk
    obtain ⟨k, rfl⟩ : ∃ m, k = m + 1 := ⟨k - 1, by omega⟩
    have hlt : i < l.length := by omega
    have h0 := ok.lo l[i] (List.getElem_mem hlt)
    have h1 := ok.hi l[i] (List.getElem_mem hlt)
    have hl := leapList_len c (l.take i)
    obtain ⟨r, g1, g2⟩ := ih (i + 1) k (by omega) (by omega)
    refine ⟨r, g1, ?_⟩
    rw [compile_Least.l0, if_pos (by omega), if_pos (by omega), if_pos (by omega), rd_get l i hlt, w64_id (n := l[i] - 1) (by omega) (by omega), if_pos (by omega), if_pos (by omega), leapList_set c (l.take i) l[i] h0 h1, take_snoc' l i hlt, w64_id (n := (i : Int) + 1) (by omega) (by omega)]
    exact g2
theorem compile_Least_f (n : ByteArray) (e c : Int) (ms : List S101) (l : List Int) (hl : l.length ≤ 9223372036854775806) (k : Nat) (hk : 2 * l.length + 20000000 ≤ k) :
    (calErr n e c ms l ≠ 0 ∧ compile_Least.f k n e c ms l = some (⟨#[]⟩, 0, 0, [], [], calErr n e c ms l)) ∨
    (calErr n e c ms l = 0 ∧ ∃ r, LeastAt c l r ∧ compile_Least.f k n e c ms l = some (n, e, r, ms, l.filter (fun y => decide (y ≤ r)), 0)) := by
  unfold compile_Least.f
  rw [compile_Check_f n e c ms l hl k (by omega), Option.bind_some]
  by_cases h : calErr n e c ms l = 0
  · have ok := calErr_ok h
    have hc := ok.cy; have hll := ok.llen
    refine .inr ⟨h, ?_⟩
    rw [if_pos h, if_pos (by omega), if_pos (by omega), ← leapList_nil]
    exact Least_l0 n ok l.length 0 k (by omega) (by omega)
  · exact .inl ⟨h, by rw [if_neg h]⟩

theorem ephemerisref1_SameInts_l0 (a b : List Int) (hl : a.length = b.length) (hm : a.length ≤ 9223372036854775807) : ∀ (d i k : Nat), i + d = a.length → d < k →
    ephemerisref1_SameInts.l0 k a b (a.length : Int) (i : Int) = some (decide (a.drop i = b.drop i)) := by
  intro d
  induction d with
  | zero =>
    intro i k hi hk
    obtain ⟨k, rfl⟩ : ∃ m, k = m + 1 := ⟨k - 1, by omega⟩
    conv => lhs; unfold ephemerisref1_SameInts.l0
    rw [if_neg (by omega), List.drop_of_length_le (by omega), List.drop_of_length_le (by omega)]; rfl
  | succ d ih =>
    intro i k hi hk
    obtain ⟨k, rfl⟩ : ∃ m, k = m + 1 := ⟨k - 1, by omega⟩
    have h1 : i < a.length := by omega
    have h2 : i < b.length := by omega
    conv => lhs; unfold ephemerisref1_SameInts.l0
    rw [if_pos (by omega), if_pos (by omega), if_pos (by omega), if_pos (by omega), rd_get a i h1, rd_get b i h2, List.drop_eq_getElem_cons h1, List.drop_eq_getElem_cons h2]
    by_cases c : a[i] = b[i]
    · rw [if_pos c, w64_id (n := (i : Int) + 1) (by omega) (by omega)]
      have := ih (i + 1) k (by omega) (by omega)
      rw [show ((i + 1 : Nat) : Int) = (i : Int) + 1 from by omega] at this
      rw [this]
      congr 1
      apply decide_eq_decide.2
      constructor
      · intro h; rw [c, h]
      · intro h; exact (List.cons.inj h).2
    · rw [if_neg c]
      congr 1
      symm
      exact decide_eq_false (fun h => c (List.cons.inj h).1)
theorem ephemerisref1_SameInts_f (a b : List Int) (hm : a.length ≤ 9223372036854775807) (k : Nat) (hk : a.length < k) : ephemerisref1_SameInts.f k a b = some (decide (a = b)) := by
  unfold ephemerisref1_SameInts.f
  by_cases c : a.length = b.length
  · rw [if_pos (by omega)]
    exact ephemerisref1_SameInts_l0 a b c hm a.length 0 k (by omega) hk
  · rw [if_neg (by omega)]
    congr 1
    symm
    exact decide_eq_false (fun h => c (by rw [h]))

theorem SameCalendar_l0 (n : ByteArray) (e c : Int) (ms : List S101) (l : List Int) (n' : ByteArray) (e' c' : Int) (l' : List Int) (hm : ms.length ≤ 9223372036854775806) : ∀ (d i k : Nat), i + d = ms.length → d < k →
    ephemerisref1_SameCalendar.l0 k (ms.length : Int) (i : Int) n e c ms l n' e' c' ms l' = some true := by
  intro d
  induction d with
  | zero =>
    intro i k hi hk
    obtain ⟨k, rfl⟩ : ∃ m, k = m + 1 := ⟨k - 1, by omega⟩
    rw [ephemerisref1_SameCalendar.l0, if_neg (by omega)]
  | succ d ih =>
    intro i k hi hk
    obtain ⟨k, rfl⟩ : ∃ m, k = m + 1 := ⟨k - 1, by omega⟩
    rw [ephemerisref1_SameCalendar.l0, if_pos (by omega), if_pos (by omega), if_pos (by omega), w64_id (n := (i : Int) + 1) (by omega) (by omega)]
    simp only [beq_self_eq_true, Bool.not_true, Bool.or_self, Bool.false_eq_true, if_false]
    rw [if_pos (by omega)]
    exact ih (i + 1) k (by omega) (by omega)
theorem ephemerisref1_SameCalendar_f (n : ByteArray) (e c : Int) (ms : List S101) (l : List Int) (hm : ms.length ≤ 9223372036854775806) (hl : l.length ≤ 9223372036854775806) (k : Nat) (h1 : l.length < k) (h2 : ms.length + 3 < k) :
    ephemerisref1_SameCalendar.f k n e c ms l n e c ms l = some true := by
  obtain ⟨k, rfl⟩ : ∃ m, k = m + 1 := ⟨k - 1, by omega⟩
  unfold ephemerisref1_SameCalendar.f
  rw [if_pos rfl, if_pos rfl, if_pos rfl, if_pos rfl, ephemerisref1_SameInts_f l l (by omega) _ (by omega), Option.bind_some, decide_eq_true rfl, ephemerisref1_SameCalendar.j0, if_neg (by decide)]
  exact SameCalendar_l0 n e c ms l n e c l hm ms.length 0 k (by omega) (by omega)

theorem ephemerisref1_Size_f {a : Int} (h0 : -9223372036854775808 ≤ a) (h1 : a ≤ 9223372036854775807) : ephemerisref1_Size.f a = some (ab a) := by
  unfold ephemerisref1_Size.f ab
  by_cases c : a < 0
  · rw [if_pos c, if_pos c, w64_id (n := a + 1) (by omega) (by omega), w64_id (n := -(a + 1)) (by omega) (by omega), u64_id (n := -(a + 1)) (by omega) (by omega), u64_id (by omega) (by omega)]
    congr 1; omega
  · rw [if_neg c, if_neg c, u64_id (by omega) (by omega)]

theorem ephemerisref1_Div_l0 (X Y : Int) (hX : 0 ≤ X) (hX1 : X < 18446744073709551616) (hY : 0 < Y) (hY1 : Y ≤ 9223372036854775808) :
    ∀ (n k : Nat), n ≤ 64 → n < k → ephemerisref1_Div.l0 k X Y (X / 2 ^ n / Y * 2 ^ n) (X / 2 ^ n % Y) ((n : Int) - 1) = some (X / Y, X % Y) := by
  intro n
  induction n with
  | zero =>
    intro k _ hk
    obtain ⟨k, rfl⟩ : ∃ m, k = m + 1 := ⟨k - 1, by omega⟩
    simp only [ephemerisref1_Div.l0]
    rw [if_neg (by omega)]
    simp
  | succ n ih =>
    intro k hn hk
    obtain ⟨k, rfl⟩ : ∃ m, k = m + 1 := ⟨k - 1, by omega⟩
    have ih := ih k (by omega) (by omega)
    have hhp := half_pow X n
    have hpow : (2 : Int) ^ (n + 1) = 2 * 2 ^ n := by rw [Int.pow_succ, Int.mul_comm]
    have hpp := pow_pos' n
    have hp63 := pow_le_63 n (by omega)
    have hd1 := div_pow_le X Y (n + 1) hX hY
    have hd0 := div_pow_le X Y n hX hY
    have hz : 0 ≤ X / 2 ^ n := Int.ediv_nonneg hX (by omega)
    obtain ⟨s1, s2⟩ := long_step (X / 2 ^ n) Y hz hY
    rw [← hhp] at s1 s2
    have r0 := Int.emod_nonneg (X / 2 ^ (n + 1)) (b := Y) (by omega)
    have r1 := Int.emod_lt_of_pos (X / 2 ^ (n + 1)) hY
    have hshr : shr .u64 X ((n : Int) + 1 - 1) = X / 2 ^ n := by
      rw [show (n : Int) + 1 - 1 = n from by omega]; exact shr_pow X n (by omega)
    have hshl : shl .u64 1 ((n : Int) + 1 - 1) = 2 ^ n := by
      rw [show (n : Int) + 1 - 1 = n from by omega]; exact shl_one n (by omega)
    have hzx : X / 2 ^ n ≤ X := Int.ediv_le_self _ hX
    have hmod : (X / 2 ^ (n + 1) / Y * 2 ^ (n + 1)) % 2 ^ (n + 1) = 0 := Int.mul_emod_left _ _
    have hor : Go.bits .or .u64 (X / 2 ^ (n + 1) / Y * 2 ^ (n + 1)) (2 ^ n) = X / 2 ^ (n + 1) / Y * 2 ^ (n + 1) + 2 ^ n :=
      or_join (n + 1) _ _ hd1.1 (by omega) hmod (by omega) (by omega) (by omega)
    have q2 : X / 2 ^ (n + 1) / Y * 2 ^ (n + 1) = 2 * (X / 2 ^ (n + 1) / Y) * 2 ^ n := by
      rw [hpow, Int.mul_comm 2 (X / (2 * 2 ^ n) / Y), Int.mul_assoc]
    generalize hR : X / 2 ^ (n + 1) % Y = R at *
    generalize hQ : X / 2 ^ (n + 1) / Y * 2 ^ (n + 1) = Q at *
    simp only [ephemerisref1_Div.l0]
    rw [show (((n + 1 : Nat) : Int) - 1) = (n : Int) + 1 - 1 from by omega]
    rw [if_pos (by omega), hshr, hshl, hor, w64_id (n := (n : Int) + 1 - 1 - 1) (by omega) (by omega), show (n : Int) + 1 - 1 - 1 = (n : Int) - 1 from by omega]
    rw [and_one _ hz (by omega), u64_id (n := R * 2) (by omega) (by omega)]
    have hbit := Int.emod_nonneg (X / 2 ^ n) (b := 2) (by omega)
    have hbit1 := Int.emod_lt_of_pos (X / 2 ^ n) (b := 2) (by omega)
    rw [or_join 1 (R * 2) _ (by omega) (by omega) (by simp only [Int.reducePow]; omega) hbit (by simp only [Int.reducePow]; omega) (by omega)]
    rw [if_neg (by omega)]
    rw [show R * 2 + X / 2 ^ n % 2 = 2 * R + X / 2 ^ n % 2 from by omega]
    by_cases c : Y ≤ 2 * R + X / 2 ^ n % 2
    · rw [if_pos c, u64_id (by omega) (by omega)]
      have e := s1 c
      rw [e.1, e.2, Int.add_mul, Int.one_mul, ← q2] at ih
      exact ih
    · rw [if_neg c]
      have e := s2 c
      rw [e.1, e.2, ← q2] at ih
      exact ih
theorem ephemerisref1_Div_f {a b : Int} (k : Nat) (hk : 65 ≤ k) (ha : -9223372036854775808 ≤ a) (ha1 : a ≤ 9223372036854775807) (hb : -9223372036854775808 ≤ b) (hb1 : b ≤ 9223372036854775807) : ephemerisref1_Div.f k a b = some (divs a b) := by
  unfold ephemerisref1_Div.f
  by_cases c : b = 0
  · rw [if_pos c]; unfold divs; rw [if_pos c]
  rw [if_neg c, ephemerisref1_Size_f ha ha1, ephemerisref1_Size_f hb hb1]
  simp only [Option.bind_some]
  have hX := ab_nonneg a
  have hX1 := ab_le ha ha1
  have hY1 := ab_le hb hb1
  have hY : 0 < ab b := by unfold ab; split <;> omega
  have h64 := ephemerisref1_Div_l0 (ab a) (ab b) hX (by omega) hY hY1 64 k (by omega) (by omega)
  have hz : ab a / 2 ^ 64 = 0 := Int.ediv_eq_zero_of_lt hX (by simp only [Int.reducePow]; omega)
  rw [hz] at h64
  simp only [Int.zero_ediv, Int.zero_mul, Int.zero_emod] at h64
  rw [show (((64 : Nat) : Int) - 1) = 63 from by omega] at h64
  rw [h64]
  simp only [Option.bind_some, Option.some.injEq]
  have h1 := Int.mul_ediv_add_emod (ab a) (ab b)
  have h2 := Int.emod_nonneg (ab a) (b := ab b) (by omega)
  have h3 := Int.emod_lt_of_pos (ab a) hY
  have h4 : ab a / ab b ≤ ab a := Int.ediv_le_self _ hX
  have h5 : 0 ≤ ab a / ab b := Int.ediv_nonneg hX (by omega)
  have h6 : 2 ≤ ab b → ab a / ab b ≤ 4611686018427387904 := fun h => by
    have : ab a / ab b ≤ ab a / 2 := by
      have := Int.ediv_le_ediv (c := 2) (by omega) (a := ab a / ab b * 2) (b := ab a) (by
        have : ab a / ab b * 2 ≤ ab a / ab b * ab b := Int.mul_le_mul_of_nonneg_left h h5
        rw [Int.mul_comm (ab b)] at h1
        omega)
      omega
    omega
  have h7 : ab b = 1 → ab a / ab b = ab a ∧ ab a % ab b = 0 := fun h => by rw [h]; omega
  have uniq : ∀ {q r : Int}, a = b * q + r → (0 < b → 0 ≤ r ∧ r < b) → (b < 0 → b < r ∧ r ≤ 0) → ¬ (a = -9223372036854775808 ∧ b = -1) → divs a b = (q, r, 0) := by
    intro q r e1 e2 e3 e4
    have := fd_uniq e1 e2 e3 c
    unfold divs
    rw [if_neg c, if_neg e4, this.1, this.2]
  generalize hq : ab a / ab b = q at *
  generalize hr : ab a % ab b = r at *
  clear h64 hz
  have eY : ∀ s : Int, (-(ab b)) * s = -(ab b * s) := fun s => by rw [Int.neg_mul]
  by_cases sa : a < 0 <;> by_cases sb : b < 0
  · have xa : a = -(ab a) := by unfold ab; rw [if_pos sa]; omega
    have xb : b = -(ab b) := by unfold ab; rw [if_pos sb]; omega
    simp only [ephemerisref1_Div.e0, ephemerisref1_Div.e1, sa, sb, decide_true, bne_self_eq_false, Bool.false_eq_true, false_and, if_false, true_and, if_true]
    by_cases c2 : q > 9223372036854775807
    · rw [if_pos c2]
      unfold divs
      have : ab b = 1 := by
        by_cases h : 2 ≤ ab b
        · have := h6 h; omega
        · omega
      rw [if_neg c, if_pos (by omega)]
    · rw [if_neg c2, w64_id (by omega) (by omega), u64_def, w64_def]
      rw [uniq (q := q) (r := -r) (by rw [xb, eY]; omega) (by omega) (by omega) (fun h => by have := h7 (by omega); omega)]
      congr 2; omega
  · have xa : a = -(ab a) := by unfold ab; rw [if_pos sa]; omega
    have xb : b = ab b := by unfold ab; rw [if_neg sb]
    simp only [ephemerisref1_Div.e0, ephemerisref1_Div.e1, sa, sb, decide_true, decide_false, Bool.bne_false, Bool.false_eq_true, true_and, if_true, Bool.true_eq_false, false_and, if_false]
    by_cases c2 : r = 0
    · rw [if_neg (fun h => h c2), u64_def, w64_def, w64_id (by omega) (by omega)]
      rw [uniq (q := -q) (r := 0) (by rw [xb, Int.mul_neg]; omega) (by omega) (by omega) (by omega)]
      rw [c2]
      congr 1; omega
    · rw [if_pos c2, u64_id (n := q + 1) (by omega) (by omega), u64_id (n := ab b - r) (by omega) (by omega), u64_def, w64_def, w64_id (by omega) (by omega)]
      have : q ≤ 9223372036854775807 := by
        by_cases h : 2 ≤ ab b
        · have := h6 h; omega
        · have := h7 (by omega); omega
      have eb : b * q = ab b * q := by rw [← xb]
      rw [uniq (q := -(q + 1)) (r := ab b - r) (by rw [Int.mul_neg, Int.mul_add, Int.mul_one, eb]; omega) (by omega) (by omega) (by omega)]
      congr 1; omega
  · have xa : a = ab a := by unfold ab; rw [if_neg sa]
    have xb : b = -(ab b) := by unfold ab; rw [if_pos sb]; omega
    simp only [ephemerisref1_Div.e0, ephemerisref1_Div.e1, sa, sb, decide_true, decide_false, Bool.bne_true, Bool.not_false, Bool.false_eq_true, true_and, if_true, Bool.true_eq_false, false_and, if_false]
    by_cases c2 : r = 0
    · rw [if_neg (fun h => h c2), u64_def, w64_def, u64_def, w64_def]
      rw [uniq (q := -q) (r := 0) (by rw [xb, eY, Int.mul_neg]; omega) (by omega) (by omega) (by omega)]
      rw [c2]
      congr 1
      omega
    · rw [if_pos c2, u64_id (n := q + 1) (by omega) (by omega), u64_id (n := ab b - r) (by omega) (by omega), u64_def, w64_def, u64_def, w64_def]
      have eb := eY q
      rw [← xb] at eb
      rw [uniq (q := -(q + 1)) (r := -(ab b - r)) (by rw [Int.mul_neg, Int.mul_add, Int.mul_one, eb]; omega) (by omega) (by omega) (by omega)]
      congr 1
      · omega
      · congr 1; omega
  · have xa : a = ab a := by unfold ab; rw [if_neg sa]
    have xb : b = ab b := by unfold ab; rw [if_neg sb]
    simp only [ephemerisref1_Div.e0, ephemerisref1_Div.e1, sa, sb, decide_false, bne_self_eq_false, Bool.false_eq_true, false_and, if_false, true_and]
    rw [if_neg (by omega), w64_id (by omega) (by omega), w64_id (by omega) (by omega)]
    rw [uniq (q := q) (r := r) (by rw [xb]; omega) (by omega) (by omega) (by omega)]

theorem ephemerisref1_Mod_f {a b : Int} (k : Nat) (hk : 65 ≤ k) (ha : -9223372036854775808 ≤ a) (ha1 : a ≤ 9223372036854775807) (hb : 0 < b) (hb1 : b ≤ 9223372036854775807) : ephemerisref1_Mod.f k a b = some (a % b) := by
  unfold ephemerisref1_Mod.f
  rw [ephemerisref1_Div_f k hk ha ha1 (by omega) hb1, divs_pos hb]
  rfl

theorem ephemerisref1_Years_IsLeap_f (n : ByteArray) (e c : Int) (ms : List S101) (l : List Int) (s b t y : Int) (hc : 1 ≤ c ∧ c ≤ 3000) (hy : -1000000000 ≤ y ∧ y ≤ 1000000000) (k : Nat) (hk : 70 ≤ k) :
    ephemerisref1_Years_IsLeap.f k n e c ms l (leapList c l) s b t y = some (isLeapY c l y) := by
  unfold ephemerisref1_Years_IsLeap.f
  have h0 := Int.emod_nonneg (y - 1) (b := c) (by omega)
  have h1 := Int.emod_lt_of_pos (y - 1) (b := c) (by omega)
  rw [w64_id (n := y - 1) (by omega) (by omega), ephemerisref1_Mod_f k (by omega) (by omega) (by omega) (by omega) (by omega), Option.bind_some, if_pos h0, if_pos (by rw [leapList_len]; omega), leapList_at c l _ h0 h1]
  rfl

theorem smallM_ok : moErr smallM = 0 := by
  have n2 : isName (⟨#[111, 110, 101]⟩ : ByteArray) = true := by unfold isName noWord; rw [toList_data]; decide
  have n3 : isName (⟨#[116, 119, 111]⟩ : ByteArray) = true := by unfold isName noWord; rw [toList_data]; decide
  unfold moErr smallM
  rw [if_pos (by decide)]
  simp only [moFrom, n2, n3, if_true, toList_data]
  decide
/-- A calendar over the small rule's months. -/
theorem small_cal (e c : Int) (l : List Int) (h : (-4000000 ≤ e ∧ e ≤ 4000000) ∧ (1 ≤ c ∧ c ≤ 3000)) : calErr (⟨#[115, 109, 97, 108, 108]⟩ : ByteArray) e c smallM l = lpFrom c 0 l := by
  have n1 : isName (⟨#[115, 109, 97, 108, 108]⟩ : ByteArray) = true := by unfold isName noWord; rw [toList_data]; decide
  unfold calErr
  rw [if_pos n1, if_pos h, if_pos smallM_ok]

section
variable (n : ByteArray) {e c : Int} {ms : List S101} {l : List Int} (s b t : Int)
theorem CL_l2 (ok : OkCal e c ms l) (x : Int) (hx : 1 ≤ x ∧ x ≤ c) : ∀ (d k j : Nat), (j : Int) + d = x → d + 4000 < k →
    ephemerislaw1_CompileLeasts.l2 k 0 x ((j : Int) + 1) n e x ms (l.filter (fun y => decide (y ≤ x))) n e c ms l (leapList c l) s b t n e x ms (l.filter (fun y => decide (y ≤ (j : Int)))) = some true := by
  have hc := ok.cy; have hll := ok.llen; have hm := ok.len
  have hb : ∀ z : Int, (l.filter (fun y => decide (y ≤ z))).length ≤ l.length := fun z => List.length_filter_le _ _
  intro d
  induction d with
  | zero =>
    intro k j hj hk
    obtain ⟨k, rfl⟩ : ∃ m, k = m + 1 := ⟨k - 1, by omega⟩
    have := hb x
    rw [ephemerislaw1_CompileLeasts.l2, if_neg (by omega), if_pos rfl, show (j : Int) = x from by omega, ephemerisref1_SameCalendar_f n e x ms _ (by omega) (by omega) k (by omega) (by omega), Option.bind_some]
  | succ d ih =>
    intro k j hj hk
    obtain ⟨k, rfl⟩ : ∃ m, k = m + 1 := ⟨k - 1, by omega⟩
    have := hb (j : Int)
    have ih := ih k (j + 1) (by omega) (by omega)
    rw [show ((j + 1 : Nat) : Int) = (j : Int) + 1 from by omega, filt_succ l j ok.up] at ih
    rw [ephemerislaw1_CompileLeasts.l2, if_pos (by omega), ephemerisref1_Years_IsLeap_f n e c ms l s b t _ hc (by omega) k (by omega), Option.bind_some, leapY_in (by omega) (by omega), w64_id (n := (j : Int) + 1 + 1) (by omega) (by omega)]
    by_cases h : (j : Int) + 1 ∈ l
    · rw [if_pos h] at ih
      rw [if_pos (decide_eq_true h), if_pos (by omega)]; exact ih
    · rw [if_neg h, List.append_nil] at ih
      rw [if_neg (by simpa using h)]; exact ih
theorem CL_l1 (ok : OkCal e c ms l) (x o : Int) (hx : 1 ≤ x ∧ x ≤ c) (dn : ByteArray) (de dc : Int) (dm : List S101) (dl : List Int) : ∀ (d k : Nat) (i : Int) (f : Bool), i + d = c + 1 → 1 ≤ i → 2 * d + 100 < k → ∃ k', k ≤ k' + 2 * d + 2 ∧
    (((f = true ∧ ∀ j, i ≤ j → j ≤ c → isLeapY c l j = isLeapY c l (j + x)) ∧ ephemerislaw1_CompileLeasts.l1 k o x f i n e c ms l dn de dc dm dl n e c ms l (leapList c l) s b t = ephemerislaw1_CompileLeasts.l2 k' o x 1 dn de dc dm dl n e c ms l (leapList c l) s b t n e x ms []) ∨
     (¬ (f = true ∧ ∀ j, i ≤ j → j ≤ c → isLeapY c l j = isLeapY c l (j + x)) ∧ ephemerislaw1_CompileLeasts.l1 k o x f i n e c ms l dn de dc dm dl n e c ms l (leapList c l) s b t = ephemerislaw1_CompileLeasts.l0 k' o (x + 1) n e c ms l dn de dc dm dl n e c ms l (leapList c l) s b t)) := by
  have hc := ok.cy
  intro d
  induction d with
  | zero =>
    intro k i f hi h1 hk
    obtain ⟨k, rfl⟩ : ∃ m, k = m + 1 + 1 := ⟨k - 2, by omega⟩
    refine ⟨k, by omega, ?_⟩
    rw [ephemerislaw1_CompileLeasts.l1, if_neg (by omega), ephemerislaw1_CompileLeasts.j3, if_neg (by decide), w64_id (n := x + 1) (by omega) (by omega)]
    by_cases h : f = true
    · exact .inl ⟨⟨h, fun j h1 h2 => by omega⟩, by rw [if_pos h]⟩
    · exact .inr ⟨fun a => h a.1, by rw [if_neg h]⟩
  | succ d ih =>
    intro k i f hi h1 hk
    obtain ⟨k, rfl⟩ : ∃ m, k = m + 1 + 1 := ⟨k - 2, by omega⟩
    by_cases h : f = true
    · obtain ⟨k', hk', hr⟩ := ih k (i + 1) (isLeapY c l i == isLeapY c l (i + x)) (by omega) (by omega) (by omega)
      have eq : ephemerislaw1_CompileLeasts.l1 (k + 1 + 1) o x f i n e c ms l dn de dc dm dl n e c ms l (leapList c l) s b t = ephemerislaw1_CompileLeasts.l1 k o x (isLeapY c l i == isLeapY c l (i + x)) (i + 1) n e c ms l dn de dc dm dl n e c ms l (leapList c l) s b t := by
        rw [ephemerislaw1_CompileLeasts.l1, if_pos (by omega), ephemerislaw1_CompileLeasts.j3, if_pos h, w64_id (n := i + x) (by omega) (by omega), w64_id (n := i + 1) (by omega) (by omega), ephemerisref1_Years_IsLeap_f n e c ms l s b t i hc (by omega) k (by omega), Option.bind_some, ephemerisref1_Years_IsLeap_f n e c ms l s b t (i + x) hc (by omega) k (by omega), Option.bind_some]
      refine ⟨k', by omega, ?_⟩
      rw [eq]
      rcases hr with ⟨⟨a1, a2⟩, a3⟩ | ⟨a1, a2⟩
      · refine .inl ⟨⟨h, fun j h1 h2 => ?_⟩, a3⟩
        by_cases hj : j = i
        · subst hj; exact beq_iff_eq.1 a1
        · exact a2 j (by omega) h2
      · exact .inr ⟨fun ⟨_, v⟩ => a1 ⟨beq_iff_eq.2 (v i (by omega) (by omega)), fun j h1 h2 => v j (by omega) h2⟩, a2⟩
    · refine ⟨k, by omega, .inr ⟨fun a => h a.1, ?_⟩⟩
      rw [ephemerislaw1_CompileLeasts.l1, if_pos (by omega), ephemerislaw1_CompileLeasts.j3, if_neg h, if_neg h, w64_id (n := x + 1) (by omega) (by omega)]
theorem CL_l0 (ok : OkCal e c ms l) {r : Int} (hr : LeastAt c l r) : ∀ (d k : Nat) (x : Int), x + d = r → 1 ≤ x → ((d : Int) + 1) * 7000 + 20000 < (k : Int) →
    ephemerislaw1_CompileLeasts.l0 k 0 x n e c ms l n e r ms (l.filter (fun y => decide (y ≤ r))) n e c ms l (leapList c l) s b t = some true := by
  have hc := ok.cy
  obtain ⟨r1, r2, r3⟩ := hr
  intro d
  induction d with
  | zero =>
    intro k x hx h1 hk
    obtain ⟨k, rfl⟩ : ∃ m, k = m + 1 := ⟨k - 1, by omega⟩
    obtain rfl : x = r := by omega
    have ht : Int.tmod c x = c % x := Int.tmod_eq_emod_of_nonneg (by omega)
    rw [ephemerislaw1_CompileLeasts.l0, if_pos (by omega), if_neg (by omega), ht, if_pos r2.1]
    obtain ⟨k', hk', hq⟩ := CL_l1 n s b t ok x 0 r1 n e x ms (l.filter (fun y => decide (y ≤ x))) c.toNat k 1 true (by omega) (by omega) (by omega)
    rcases hq with ⟨_, a3⟩ | ⟨a1, _⟩
    · rw [a3]
      have := CL_l2 n s b t ok x r1 x.toNat k' 0 (by omega) (by omega)
      rw [show ((0 : Nat) : Int) = 0 from rfl, filt_zero ok.lo] at this
      exact this
    · exact absurd ⟨rfl, r2.2⟩ a1
  | succ d ih =>
    intro k x hx h1 hk
    obtain ⟨k, rfl⟩ : ∃ m, k = m + 1 := ⟨k - 1, by omega⟩
    have ht : Int.tmod c x = c % x := Int.tmod_eq_emod_of_nonneg (by omega)
    rw [ephemerislaw1_CompileLeasts.l0, if_pos (by omega), if_neg (by omega), ht]
    by_cases h : c % x = 0
    · rw [if_pos h]
      obtain ⟨k', hk', hq⟩ := CL_l1 n s b t ok x 0 (by omega) n e r ms (l.filter (fun y => decide (y ≤ r))) c.toNat k 1 true (by omega) (by omega) (by omega)
      rcases hq with ⟨⟨_, a2⟩, _⟩ | ⟨_, a2⟩
      · exact absurd ⟨h, a2⟩ (r3 x h1 (by omega))
      · rw [a2]; exact ih k' (x + 1) (by omega) (by omega) (by omega)
    · rw [if_neg h, w64_id (n := x + 1) (by omega) (by omega)]
      exact ih k (x + 1) (by omega) (by omega) (by omega)
end
theorem CompileLeasts : ephemerislaw1_CompileLeasts.Pure := by
  intro n e c ms l hn he hc hms hl
  have hll : l.length ≤ 9223372036854775806 := by have := hl.1; omega
  obtain ⟨K, hK⟩ : ∃ K : Nat, 2 * l.length + 30000000 ≤ K := ⟨_, Nat.le_refl _⟩
  refine ⟨K + 1, ?_⟩
  have e0 : calErr (⟨#[115, 109, 97, 108, 108]⟩ : ByteArray) 1 8 smallM [4, 8] = 0 := by rw [small_cal _ _ _ (by decide)]; decide
  have hsm : compile_Least.f (K + 1) (⟨#[115, 109, 97, 108, 108]⟩ : ByteArray) 1 8 smallM [4, 8] = some (⟨#[115, 109, 97, 108, 108]⟩, 1, 4, smallM, [4], 0) := by
    rcases compile_Least_f (⟨#[115, 109, 97, 108, 108]⟩ : ByteArray) 1 8 smallM [4, 8] (by simp) (K + 1) (by simp; omega) with ⟨h, _⟩ | ⟨_, r, ⟨h1, h2, h3⟩, eq⟩
    · exact absurd e0 h
    · have g4 : (8 : Int) % 4 = 0 ∧ SameY 8 [4, 8] 4 := by
        refine ⟨by decide, fun k a1 a2 => ?_⟩
        have : k = 1 ∨ k = 2 ∨ k = 3 ∨ k = 4 ∨ k = 5 ∨ k = 6 ∨ k = 7 ∨ k = 8 := by omega
        rcases this with rfl | rfl | rfl | rfl | rfl | rfl | rfl | rfl <;> decide
      have n1 : ¬ SameY 8 [4, 8] 1 := fun h => absurd (h 3 (by decide) (by decide)) (by decide)
      have n2 : ¬ SameY 8 [4, 8] 2 := fun h => absurd (h 2 (by decide) (by decide)) (by decide)
      have : r = 4 := by
        rcases Int.lt_trichotomy r 4 with h | h | h
        · have : r = 1 ∨ r = 2 ∨ r = 3 := by omega
          rcases this with rfl | rfl | rfl
          · exact absurd h2.2 n1
          · exact absurd h2.2 n2
          · exact absurd h2.1 (by decide)
        · exact h
        · exact absurd g4 (h3 4 (by decide) h)
      subst this
      rw [eq]; rfl
  unfold ephemerislaw1_CompileLeasts.f
  rw [ephemerislaw1_small_f, Option.bind_some]
  simp only [smallT]
  rw [hsm, Option.bind_some]
  simp only [if_true]
  rw [ephemerisref1_SameInts_f [4] [4] (by simp) _ (by simp; omega), Option.bind_some, decide_eq_true rfl, ephemerislaw1_CompileLeasts.j0, if_neg (by decide)]
  rw [ephemerisref1_CalendarError_f n e c ms l hll K (by omega), ← calErr_eq]
  rcases compile_Least_f n e c ms l hll K (by omega) with ⟨h, eq⟩ | ⟨h, r, hr, eq⟩
  · rw [eq, Option.bind_some, Option.bind_some, if_neg h, ephemerisref1_SameCalendar_f _ _ _ _ _ (by simp) (by simp) K (by simp; omega) (by simp; omega), Option.bind_some, if_pos rfl]; simp
  · have ok := calErr_ok h
    have hc := ok.cy; have h1 := hr.1
    rw [eq, Option.bind_some, Option.bind_some, if_pos h, ephemerisref1_Apart_f n e c ms l ok K (by omega), Option.bind_some]
    exact CL_l0 n _ _ _ ok hr (r - 1).toNat K 1 (by omega) (by omega) (by omega)
end Go.Proofs.Yteogcbhlilechaa.Pure
