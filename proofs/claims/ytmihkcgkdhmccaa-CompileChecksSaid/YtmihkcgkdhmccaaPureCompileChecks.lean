/- The law CompileChecks over numbers and lists: what the law's functions tell, and that the law holds. -/
import Derived.Test.YtmihkcgkdhmccaaPCompileChecksx4
import Derived.Test.YtmihkcgkdhmccaaM
import Derived.Test.YtmihkcgkdhmccaaT
import Derived.Test.YtmihkcgkdhmccaaL
import Derived.Test.YtmihkcgkdhmccaaO
namespace Go.Proofs.Ytmihkcgkdhmccaa.Pure
open Go.RowKit Go.Proofs.Ytmihkcgkdhmccaa.PCompileChecks Go.Proofs.YtmihkcgkdhmccaaW.PrintWords Go.Proofs.YtmihkcgkdhmccaaW.PrintLast Go.Proofs.Ytmihkcgkdhmccaa.M Go.Proofs.Ytmihkcgkdhmccaa.T Go.Proofs.Ytmihkcgkdhmccaa.L Go.Proofs.Ytmihkcgkdhmccaa.O
set_option linter.unusedVariables false
set_option linter.unusedSimpArgs false
/-- The law over numbers and lists. -/
def ephemerislaw1_CompileChecks.Pure : Prop := ∀ (a0_0 : ByteArray) (a0_1 : Int) (a0_2 : Int) (l0_3 : List (S100)) (l0_4 : List (Int)), a0_0.size ≤ 140737488351232 → (Lit.int .i64 a0_1).wf = true → (Lit.int .i64 a0_2).wf = true → (l0_3.length * 32 ≤ 140737488351232 ∧ l0_3.length ≤ 9223372036854775807 ∧ ∀ v ∈ l0_3, (v.f0.size ≤ 140737488351232 ∧ (Lit.int .i64 v.f1).wf = true ∧ (Lit.int .i64 v.f2).wf = true)) → (l0_4.length * 8 ≤ 140737488351232 ∧ l0_4.length ≤ 9223372036854775807 ∧ ∀ v ∈ l0_4, (Lit.int .i64 v).wf = true) → ∃ k, ephemerislaw1_CompileChecks.f k a0_0 a0_1 a0_2 l0_3 l0_4 = some true

theorem line_Check_f (x : Int) : line_Check.f x = some (if -4000000 ≤ x ∧ x ≤ 4000000 then 0 else 3) := by
  unfold line_Check.f
  by_cases h : x < -4000000
  · rw [if_pos h, if_neg (by omega)]
  · rw [if_neg h]
    by_cases h2 : x > 4000000
    · rw [if_pos h2, if_neg (by omega)]
    · rw [if_neg h2, if_pos (by omega)]

theorem rule_Name_f (s : ByteArray) : rule_Name.f s = some (isName s) := by
  have e : rule_Name.all s.data.toList = letters s.data.toList := rfl
  unfold rule_Name.f isName noWord
  rw [e]
  congr 1
  by_cases h1 : (s.size : Int) < 1
  · rw [if_pos h1, decide_eq_false (show ¬ 1 ≤ s.size by omega)]; rfl
  rw [if_neg h1, decide_eq_true (show 1 ≤ s.size by omega)]
  by_cases h2 : (s.size : Int) > 12
  · rw [if_pos h2, decide_eq_false (show ¬ s.size ≤ 12 by omega)]; rfl
  rw [if_neg h2, decide_eq_true (show s.size ≤ 12 by omega)]
  by_cases c1 : s.toList = [121]
  · rw [if_pos c1]; simp [c1]
  rw [if_neg c1, bne_iff_ne.2 c1]
  by_cases c2 : s.toList = [97, 110, 100]
  · rw [if_pos c2]; simp [c2]
  rw [if_neg c2, bne_iff_ne.2 c2]
  by_cases c3 : s.toList = [111, 114]
  · rw [if_pos c3]; simp [c3]
  rw [if_neg c3, bne_iff_ne.2 c3]
  by_cases c4 : s.toList = [110, 111, 116]
  · rw [if_pos c4]; simp [c4]
  rw [if_neg c4, bne_iff_ne.2 c4]
  rfl

/-- The first fault of the months from a place on: 'a' and 'b' are the days so far, 's' the names so far. -/
def moFrom : Int → Int → List (List UInt8) → List S100 → Int
  | a, b, _, [] => if a = 0 then 8 else (if b = 0 then 8 else 0)
  | a, b, s, m :: t => if isName m.f0 = true then (if m.f0.toList ∈ s then 7 else (if (0 ≤ m.f1 ∧ m.f1 ≤ 400) ∧ (0 ≤ m.f2 ∧ m.f2 ≤ 400) then moFrom (a + m.f1) (b + m.f2) (s ++ [m.f0.toList]) t else 3)) else 5
def moErr (l : List S100) : Int := if 1 ≤ l.length ∧ l.length ≤ 20 then moFrom 0 0 [] l else 2
def moNames (l : List S100) : List (List UInt8) := l.map fun m => m.f0.toList
theorem mo_at (l : List S100) (i : Nat) (h : i < l.length) : rd_T100 l (i : Int) = l[i] := by
  unfold rd_T100
  rw [show ((i : Int).toNat) = i from by omega, List.getD_eq_getElem?_getD, List.getElem?_eq_getElem h]; rfl
theorem moNames_snoc (l : List S100) (i : Nat) (h : i < l.length) : moNames (l.take i) ++ [l[i].f0.toList] = moNames (l.take (i + 1)) := by
  rw [List.take_succ_eq_append_getElem h]
  unfold moNames
  rw [List.map_append]; rfl
theorem rule_Months_l1 (x0 : List S100) (x3 x4 : Int) (x17 : List S100) (x18 x19 : Int) (y : List S100) (n : ByteArray) (f1 f2 : Int) (hy : y.length ≤ 20) : ∀ (d i k : Nat), i + d = y.length →
    rule_Months.l1 (k + d + 1) x0 x3 x4 x17 x18 x19 y (y.length : Int) (i : Int) n f1 f2 = if n.toList ∈ moNames (y.drop i) then some 7 else (if (0 ≤ f1 ∧ f1 ≤ 400) ∧ (0 ≤ f2 ∧ f2 ≤ 400) then rule_Months.l0 k x0 (wrap64 (x3 + f1)) (wrap64 (x4 + f2)) x17 x18 (wrap64 (x19 + 1)) else some 3) := by
  intro d
  induction d with
  | zero =>
    intro i k hi
    conv => lhs; unfold rule_Months.l1
    rw [if_neg (by omega), List.drop_of_length_le (by omega), if_neg (show ¬ n.toList ∈ moNames ([] : List S100) from by unfold moNames; simp)]
    by_cases c1 : f1 < 0
    · rw [if_pos c1, if_neg (by omega)]
    rw [if_neg c1]
    by_cases c2 : f1 > 400
    · rw [if_pos c2, if_neg (by omega)]
    rw [if_neg c2]
    by_cases c3 : f2 < 0
    · rw [if_pos c3, if_neg (by omega)]
    rw [if_neg c3]
    by_cases c4 : f2 > 400
    · rw [if_pos c4, if_neg (by omega)]
    rw [if_neg c4, if_pos (show (0 ≤ f1 ∧ f1 ≤ 400) ∧ (0 ≤ f2 ∧ f2 ≤ 400) from by omega)]
  | succ d ih =>
    intro i k hi
    have hlt : i < y.length := by omega
    have ih := ih (i + 1) k (by omega)
    have hc : (n.toList ∈ moNames (y.drop i)) ↔ (y[i].f0.toList = n.toList ∨ n.toList ∈ moNames (y.drop (i + 1))) := by
      rw [List.drop_eq_getElem_cons hlt]
      unfold moNames
      rw [List.map_cons, List.mem_cons]
      exact ⟨fun h => h.imp (fun e => e.symm) id, fun h => h.imp (fun e => e.symm) id⟩
    rw [show k + (d + 1) + 1 = (k + d + 1) + 1 from by omega]
    conv => lhs; unfold rule_Months.l1
    rw [if_pos (by omega), if_pos (by omega), if_pos (by omega), mo_at y i hlt, w64_id (n := (i : Int) + 1) (by omega) (by omega)]
    rw [show ((i + 1 : Nat) : Int) = (i : Int) + 1 from by omega] at ih
    by_cases c : y[i].f0.toList = n.toList
    · rw [if_pos c, if_pos (hc.2 (.inl c))]
    · rw [if_neg c, ih]
      by_cases c2 : n.toList ∈ moNames (y.drop (i + 1))
      · rw [if_pos c2, if_pos (hc.2 (.inr c2))]
      · rw [if_neg c2, if_neg (fun h => (hc.1 h).elim c c2)]
theorem rule_Months_l0 (l : List S100) (hl : l.length ≤ 20) : ∀ (d i k : Nat) (a b : Int), i + d = l.length → 30 * d + 30 < k → 0 ≤ a → a ≤ 400 * i → 0 ≤ b → b ≤ 400 * i →
    rule_Months.l0 k l a b l (l.length : Int) (i : Int) = some (moFrom a b (moNames (l.take i)) (l.drop i)) := by
  intro d
  induction d with
  | zero =>
    intro i k a b hi hk ha ha1 hb hb1
    obtain ⟨k, rfl⟩ : ∃ m, k = m + 1 := ⟨k - 1, by omega⟩
    conv => lhs; unfold rule_Months.l0
    rw [if_neg (by omega), List.drop_of_length_le (by omega)]
    unfold moFrom
    by_cases c : a = 0
    · rw [if_pos c, if_pos c]
    rw [if_neg c, if_neg c]
    by_cases c : b = 0
    · rw [if_pos c, if_pos c]
    rw [if_neg c, if_neg c]
  | succ d ih =>
    intro i k a b hi hk ha ha1 hb hb1
    have hlt : i < l.length := by omega
    obtain ⟨k, rfl⟩ : ∃ m, k = m + i + 1 + 1 := ⟨k - i - 2, by omega⟩
    conv => lhs; unfold rule_Months.l0
    rw [if_pos (by omega), if_pos (by omega), if_pos (by omega), mo_at l i hlt, rule_Name_f, Option.bind_some, List.drop_eq_getElem_cons hlt]
    unfold moFrom
    by_cases c1 : isName l[i].f0 = true
    · have hty : (l.take i).length = i := by rw [List.length_take]; omega
      have h1 := rule_Months_l1 l a b l (l.length : Int) (i : Int) (l.take i) l[i].f0 l[i].f1 l[i].f2 (by omega) i 0 k (by omega)
      rw [if_pos c1, if_pos c1, if_pos (by omega), Option.bind_some, show ((i : Int).toNat) = i from by omega]
      rw [List.drop_zero] at h1
      refine h1.trans ?_
      by_cases c2 : l[i].f0.toList ∈ moNames (l.take i)
      · rw [if_pos c2, if_pos c2]
      rw [if_neg c2, if_neg c2]
      by_cases c3 : (0 ≤ l[i].f1 ∧ l[i].f1 ≤ 400) ∧ (0 ≤ l[i].f2 ∧ l[i].f2 ≤ 400)
      · rw [if_pos c3, if_pos c3, moNames_snoc l i hlt, w64_id (n := a + l[i].f1) (by omega) (by omega), w64_id (n := b + l[i].f2) (by omega) (by omega), w64_id (n := (i : Int) + 1) (by omega) (by omega)]
        exact ih (i + 1) k (a + l[i].f1) (b + l[i].f2) (by omega) (by omega) (by omega) (by omega) (by omega) (by omega)
      · rw [if_neg c3, if_neg c3]
    · rw [if_neg c1, if_neg c1]
theorem rule_Months_f (l : List S100) (k : Nat) (hk : 700 ≤ k) : rule_Months.f k l = some (moErr l) := by
  obtain ⟨k, rfl⟩ : ∃ m, k = m + 1 := ⟨k - 1, by omega⟩
  have e : rule_Months.f (k + 1) l = rule_Months.j0 (k + 1) l (decide (¬ (1 ≤ l.length ∧ l.length ≤ 20))) := by
    unfold rule_Months.f
    by_cases c : (l.length : Int) < 1
    · rw [if_pos c, decide_eq_true (by omega)]
    · rw [if_neg c]
      by_cases c2 : (l.length : Int) > 20
      · rw [decide_eq_true c2, decide_eq_true (by omega)]
      · rw [decide_eq_false c2, decide_eq_false (by omega)]
  rw [e]
  conv => lhs; unfold rule_Months.j0
  simp only [decide_eq_true_eq]
  unfold moErr
  by_cases c : 1 ≤ l.length ∧ l.length ≤ 20
  · rw [if_neg (fun h => h c), if_pos c]
    exact rule_Months_l0 l c.2 l.length 0 k 0 0 (by omega) (by omega) (by omega) (by omega) (by omega) (by omega)
  · rw [if_pos c, if_neg c]

/-- The first fault of the leap years from a place on: 'p' is the one before. -/
def lpFrom (c : Int) : Int → List Int → Int
  | _, [] => 0
  | p, x :: t => if 1 ≤ x ∧ x ≤ c then (if x ≤ p then 9 else lpFrom c x t) else 3
def calErr (name : ByteArray) (epoch cycle : Int) (months : List S100) (leaps : List Int) : Int :=
  if isName name = true then (if (-4000000 ≤ epoch ∧ epoch ≤ 4000000) ∧ (1 ≤ cycle ∧ cycle ≤ 3000) then (if moErr months = 0 then lpFrom cycle 0 leaps else moErr months) else 3) else 5
theorem compile_Check_l0 (l : List Int) (hl : l.length ≤ 9223372036854775806) (n : ByteArray) (e c : Int) (ms : List S100) (l2 : List Int) : ∀ (d i k : Nat) (p : Int), i + d = l.length → 2 * d + 2 < k →
    compile_Check.l0 k p l (l.length : Int) (i : Int) n e c ms l2 = some (lpFrom c p (l.drop i)) := by
  intro d
  induction d with
  | zero =>
    intro i k p hi hk
    obtain ⟨k, rfl⟩ : ∃ m, k = m + 1 := ⟨k - 1, by omega⟩
    conv => lhs; unfold compile_Check.l0
    rw [if_neg (by omega), List.drop_of_length_le (by omega)]; rfl
  | succ d ih =>
    intro i k p hi hk
    obtain ⟨k, rfl⟩ : ∃ m, k = m + 2 := ⟨k - 2, by omega⟩
    have hlt : i < l.length := by omega
    have hj : (if l[i] < 1 then compile_Check.j2 (k + 1) p l[i] l (l.length : Int) (i : Int) true n e c ms l2 else compile_Check.j2 (k + 1) p l[i] l (l.length : Int) (i : Int) (decide (l[i] > c)) n e c ms l2) = compile_Check.j2 (k + 1) p l[i] l (l.length : Int) (i : Int) (decide (¬ (1 ≤ l[i] ∧ l[i] ≤ c))) n e c ms l2 := by
      by_cases c1 : l[i] < 1
      · rw [if_pos c1, dec_not_true (by omega)]
      rw [if_neg c1]
      by_cases c2 : l[i] > c
      · rw [decide_eq_true c2, dec_not_true (by omega)]
      · rw [decide_eq_false c2, dec_not_false (by omega)]
    rw [show k + 2 = (k + 1) + 1 from rfl]
    conv => lhs; unfold compile_Check.l0
    rw [if_pos (by omega), if_pos (by omega), if_pos (by omega), rd_get l i hlt, hj, List.drop_eq_getElem_cons hlt]
    conv => lhs; unfold compile_Check.j2
    simp only [decide_eq_true_eq, lpFrom]
    by_cases c1 : 1 ≤ l[i] ∧ l[i] ≤ c
    · rw [if_neg (fun h => h c1), if_pos c1]
      by_cases c2 : l[i] ≤ p
      · rw [if_pos c2, if_pos c2]
      · rw [if_neg c2, if_neg c2, w64_id (n := (i : Int) + 1) (by omega) (by omega)]
        exact ih (i + 1) k l[i] (by omega) (by omega)
    · rw [if_pos c1, if_neg c1]
theorem compile_Check_f (n : ByteArray) (e c : Int) (ms : List S100) (l : List Int) (hl : l.length ≤ 9223372036854775806) (k : Nat) (hk : 2 * l.length + 800 ≤ k) : compile_Check.f k n e c ms l = some (calErr n e c ms l) := by
  obtain ⟨k, rfl⟩ : ∃ m, k = m + 1 := ⟨k - 1, by omega⟩
  have hj : ∀ b : Bool, compile_Check.j0 (k + 1) b n e c ms l = some (if b = true then 3 else (if moErr ms = 0 then lpFrom c 0 l else moErr ms)) := by
    intro b
    have hb : compile_Check.j0 (k + 1) b n e c ms l = (if b = true then (some 3) else ((rule_Months.f k ms).bind fun t => (if t = 0 then (compile_Check.l0 k 0 l (l.length : Int) 0 n e c ms l) else (some t)))) := by simp only [compile_Check.j0]
    rw [hb]
    cases b with
    | true => rfl
    | false =>
      rw [if_neg (show ¬ (false = true) from by decide), if_neg (show ¬ (false = true) from by decide), rule_Months_f ms k (by omega), Option.bind_some]
      by_cases c1 : moErr ms = 0
      · rw [if_pos c1, if_pos c1]
        exact compile_Check_l0 l hl n e c ms l l.length 0 k 0 (by omega) (by omega)
      · rw [if_neg c1, if_neg c1]
  unfold compile_Check.f calErr
  rw [rule_Name_f, Option.bind_some, line_Check_f, hj, hj]
  by_cases c0 : isName n = true
  · rw [if_pos c0, if_pos c0, Option.bind_some]
    by_cases c1 : -4000000 ≤ e ∧ e ≤ 4000000
    · rw [if_pos c1, if_pos rfl]
      by_cases c2 : c < 1
      · rw [if_pos c2, if_pos rfl, if_neg (by omega)]
      rw [if_neg c2]
      by_cases c3 : c > 3000
      · rw [if_pos (decide_eq_true c3), if_neg (by omega)]
      · rw [if_neg (by simpa using c3), if_pos (show (-4000000 ≤ e ∧ e ≤ 4000000) ∧ (1 ≤ c ∧ c ≤ 3000) from by omega)]
    · rw [if_neg c1, if_neg (by decide), if_pos rfl, if_neg (fun h => c1 h.1)]
  · rw [if_neg c0, if_neg c0]

theorem ephemerisref1_In_f (x lo hi : Int) : ephemerisref1_In.f x lo hi = some (decide (lo ≤ x ∧ x ≤ hi)) := by
  unfold ephemerisref1_In.f
  by_cases h : x ≥ lo
  · rw [if_pos h]; congr 1; simp; omega
  · rw [if_neg h]; congr 1; simp; omega

theorem ephemerisref1_Day_f (x : Int) : ephemerisref1_Day.f x = some (decide (-4000000 ≤ x ∧ x ≤ 4000000)) := by
  unfold ephemerisref1_Day.f
  rw [ephemerisref1_In_f]; rfl

theorem ephemerisref1_Name_l0 (s : ByteArray) (hs : s.size ≤ 12) : ∀ (d i k : Nat), i + d = s.size → d < k →
    ephemerisref1_Name.l0 k s (s.size : Int) (i : Int) = some (noWord s && letters (s.data.toList.drop i)) := by
  intro d
  induction d with
  | zero =>
    intro i k hi hk
    obtain ⟨k, rfl⟩ : ∃ m, k = m + 1 := ⟨k - 1, by omega⟩
    obtain rfl : i = s.size := by omega
    simp only [ephemerisref1_Name.l0]
    rw [if_neg (by omega), letters_end, Bool.and_true]
    unfold noWord
    by_cases c1 : s.toList = [121]
    · rw [if_pos c1]; simp [c1]
    rw [if_neg c1, bne_iff_ne.2 c1]
    by_cases c2 : s.toList = [97, 110, 100]
    · rw [if_pos c2]; simp [c2]
    rw [if_neg c2, bne_iff_ne.2 c2]
    by_cases c3 : s.toList = [111, 114]
    · rw [if_pos c3]; simp [c3]
    rw [if_neg c3, bne_iff_ne.2 c3]
    rfl
  | succ d ih =>
    intro i k hi hk
    obtain ⟨k, rfl⟩ : ∃ m, k = m + 1 := ⟨k - 1, by omega⟩
    simp only [ephemerisref1_Name.l0]
    rw [if_pos (by omega), if_pos (by omega), if_pos (by omega), letters_cons s i (by omega)]
    by_cases c1 : bt s i < 97
    · rw [if_pos c1, decide_eq_false (show ¬ 97 ≤ bt s i by omega)]; simp
    rw [if_neg c1, decide_eq_true (show 97 ≤ bt s i by omega)]
    by_cases c2 : bt s i > 122
    · rw [if_pos c2, decide_eq_false (show ¬ bt s i ≤ 122 by omega)]; simp
    rw [if_neg c2, decide_eq_true (show bt s i ≤ 122 by omega), w64_id (by omega) (by omega)]
    have := ih (i + 1) k (by omega) (by omega)
    rw [show ((i + 1 : Nat) : Int) = (i : Int) + 1 from by omega] at this
    rw [this]; simp
theorem ephemerisref1_Name_f (s : ByteArray) (k : Nat) (hk : 20 ≤ k) : ephemerisref1_Name.f k s = some (isName s) := by
  obtain ⟨k, rfl⟩ : ∃ m, k = m + 1 := ⟨k - 1, by omega⟩
  unfold ephemerisref1_Name.f isName
  by_cases h1 : s.toList = []
  · rw [if_pos h1, decide_eq_false (show ¬ 1 ≤ s.size by have := (toList_nil s).1 h1; omega)]
    simp [ephemerisref1_Name.j0]
  have h1' : ¬ s.size = 0 := fun h => h1 ((toList_nil s).2 h)
  rw [if_neg h1, decide_eq_true (show 1 ≤ s.size by omega)]
  simp only [ephemerisref1_Name.j0, decide_eq_true_eq]
  by_cases h2 : (s.size : Int) > 12
  · rw [if_pos h2, decide_eq_false (show ¬ s.size ≤ 12 by omega)]; rfl
  rw [if_neg h2, decide_eq_true (show s.size ≤ 12 by omega)]
  exact ephemerisref1_Name_l0 s (by omega) s.size 0 k (by omega) (by omega)

/-- The first fault of the months from a place on, as the other reading tells it: 'a' and 'b' tell whether there was a day so far. -/
def mrFrom : Bool → Bool → List (List UInt8) → List S100 → Int
  | a, b, _, [] => if a = true then (if b = true then 0 else 8) else 8
  | a, b, s, m :: t => if isName m.f0 = true then (if m.f0.toList ∈ s then 7 else (if (0 ≤ m.f1 ∧ m.f1 ≤ 400) ∧ (0 ≤ m.f2 ∧ m.f2 ≤ 400) then mrFrom (a || decide (m.f1 > 0)) (b || decide (m.f2 > 0)) (s ++ [m.f0.toList]) t else 3)) else 5
def mrErr (l : List S100) : Int := if 1 ≤ l.length ∧ l.length ≤ 20 then mrFrom false false [] l else 2
def mrNames (l : List S100) : List (List UInt8) := l.map fun m => m.f0.toList
theorem mr_at (l : List S100) (i : Nat) (h : i < l.length) : rd_T100 l (i : Int) = l[i] := by
  unfold rd_T100
  rw [show ((i : Int).toNat) = i from by omega, List.getD_eq_getElem?_getD, List.getElem?_eq_getElem h]; rfl
theorem mrNames_snoc (l : List S100) (i : Nat) (h : i < l.length) : mrNames (l.take i) ++ [l[i].f0.toList] = mrNames (l.take (i + 1)) := by
  rw [List.take_succ_eq_append_getElem h]
  unfold mrNames
  rw [List.map_append]; rfl
theorem ephemerisref1_MonthsError_l1 (l : List S100) (a b : Bool) (x12 x13 : Int) (i : Nat) (hl : l.length ≤ 20) (hlt : i < l.length) : ∀ (d j k : Nat), j + d = i →
    ephemerisref1_MonthsError.l1 (k + d + 1) l a b (i : Int) x12 x13 (i : Int) (j : Int) = if l[i].f0.toList ∈ mrNames ((l.take i).drop j) then some 7 else (if (0 ≤ l[i].f1 ∧ l[i].f1 ≤ 400) ∧ (0 ≤ l[i].f2 ∧ l[i].f2 ≤ 400) then ephemerisref1_MonthsError.l0 k l (a || decide (l[i].f1 > 0)) (b || decide (l[i].f2 > 0)) x12 (wrap64 (x13 + 1)) else some 3) := by
  intro d
  have hty : (l.take i).length = i := by rw [List.length_take]; omega
  induction d with
  | zero =>
    intro j k hj
    conv => lhs; unfold ephemerisref1_MonthsError.l1
    rw [if_neg (by omega), List.drop_of_length_le (by omega), if_neg (show ¬ l[i].f0.toList ∈ mrNames ([] : List S100) from by unfold mrNames; simp), if_pos (by omega), if_pos (by omega), mr_at l i hlt, ephemerisref1_In_f, Option.bind_some]
    by_cases c1 : 0 ≤ l[i].f1 ∧ l[i].f1 ≤ 400
    · rw [if_pos (decide_eq_true c1), ephemerisref1_In_f, Option.bind_some]
      by_cases c2 : 0 ≤ l[i].f2 ∧ l[i].f2 ≤ 400
      · rw [if_pos (decide_eq_true c2), if_pos (show (0 ≤ l[i].f1 ∧ l[i].f1 ≤ 400) ∧ (0 ≤ l[i].f2 ∧ l[i].f2 ≤ 400) from ⟨c1, c2⟩)]
        cases a <;> cases b <;> rfl
      · rw [if_neg (by simpa using c2), if_neg (fun h => c2 h.2)]
    · rw [if_neg (by simpa using c1), if_neg (fun h => c1 h.1)]
  | succ d ih =>
    intro j k hj
    have hlj : j < l.length := by omega
    have ih := ih (j + 1) k (by omega)
    have hc : (l[i].f0.toList ∈ mrNames ((l.take i).drop j)) ↔ (l[j].f0.toList = l[i].f0.toList ∨ l[i].f0.toList ∈ mrNames ((l.take i).drop (j + 1))) := by
      rw [List.drop_eq_getElem_cons (show j < (l.take i).length by omega), List.getElem_take]
      unfold mrNames
      rw [List.map_cons, List.mem_cons]
      exact ⟨fun h => h.imp (fun e => e.symm) id, fun h => h.imp (fun e => e.symm) id⟩
    rw [show k + (d + 1) + 1 = (k + d + 1) + 1 from by omega]
    conv => lhs; unfold ephemerisref1_MonthsError.l1
    rw [if_pos (by omega), if_pos (by omega), if_pos (by omega), if_pos (by omega), if_pos (by omega), mr_at l j hlj, mr_at l i hlt, w64_id (n := (j : Int) + 1) (by omega) (by omega)]
    rw [show ((j + 1 : Nat) : Int) = (j : Int) + 1 from by omega] at ih
    by_cases c : l[j].f0.toList = l[i].f0.toList
    · rw [if_pos c, if_pos (hc.2 (.inl c))]
    · rw [if_neg c, ih]
      by_cases c2 : l[i].f0.toList ∈ mrNames ((l.take i).drop (j + 1))
      · rw [if_pos c2, if_pos (hc.2 (.inr c2))]
      · rw [if_neg c2, if_neg (fun h => (hc.1 h).elim c c2)]
theorem ephemerisref1_MonthsError_l0 (l : List S100) (hl : l.length ≤ 20) : ∀ (d i k : Nat) (a b : Bool), i + d = l.length → 50 * d + 50 < k →
    ephemerisref1_MonthsError.l0 k l a b (l.length : Int) (i : Int) = some (mrFrom a b (mrNames (l.take i)) (l.drop i)) := by
  intro d
  induction d with
  | zero =>
    intro i k a b hi hk
    obtain ⟨k, rfl⟩ : ∃ m, k = m + 1 := ⟨k - 1, by omega⟩
    conv => lhs; unfold ephemerisref1_MonthsError.l0
    rw [if_neg (by omega), List.drop_of_length_le (by omega)]
    unfold mrFrom
    cases a <;> cases b <;> rfl
  | succ d ih =>
    intro i k a b hi hk
    have hlt : i < l.length := by omega
    obtain ⟨k, rfl⟩ : ∃ m, k = m + i + 1 + 1 := ⟨k - i - 2, by omega⟩
    conv => lhs; unfold ephemerisref1_MonthsError.l0
    rw [if_pos (by omega), if_pos (by omega), if_pos (by omega), mr_at l i hlt, ephemerisref1_Name_f _ _ (by omega), Option.bind_some, List.drop_eq_getElem_cons hlt]
    unfold mrFrom
    by_cases c1 : isName l[i].f0 = true
    · have h1 := ephemerisref1_MonthsError_l1 l a b (l.length : Int) (i : Int) i hl hlt i 0 k (by omega)
      rw [if_pos c1, if_pos c1]
      rw [List.drop_zero] at h1
      refine h1.trans ?_
      by_cases c2 : l[i].f0.toList ∈ mrNames (l.take i)
      · rw [if_pos c2, if_pos c2]
      rw [if_neg c2, if_neg c2]
      by_cases c3 : (0 ≤ l[i].f1 ∧ l[i].f1 ≤ 400) ∧ (0 ≤ l[i].f2 ∧ l[i].f2 ≤ 400)
      · rw [if_pos c3, if_pos c3, mrNames_snoc l i hlt, w64_id (n := (i : Int) + 1) (by omega) (by omega)]
        exact ih (i + 1) k _ _ (by omega) (by omega)
      · rw [if_neg c3, if_neg c3]
    · rw [if_neg c1, if_neg c1]
theorem ephemerisref1_MonthsError_f (l : List S100) (k : Nat) (hk : 1100 ≤ k) : ephemerisref1_MonthsError.f k l = some (mrErr l) := by
  unfold ephemerisref1_MonthsError.f mrErr
  rw [ephemerisref1_In_f, Option.bind_some]
  by_cases c : 1 ≤ l.length ∧ l.length ≤ 20
  · rw [if_pos (decide_eq_true (by omega)), if_pos c]
    exact ephemerisref1_MonthsError_l0 l c.2 l.length 0 k false false (by omega) (by omega)
  · rw [if_neg (fun h => c (by have := of_decide_eq_true h; omega)), if_neg c]

/-- The first fault of the leap years from a place on: 'p' is the one before. -/
def clFrom (c : Int) : Option Int → List Int → Int
  | _, [] => 0
  | p, x :: t => if 1 ≤ x ∧ x ≤ c then (if (∃ q, p = some q ∧ q ≥ x) then 9 else clFrom c (some x) t) else 3
def crErr (name : ByteArray) (epoch cycle : Int) (months : List S100) (leaps : List Int) : Int :=
  if isName name = true then (if (-4000000 ≤ epoch ∧ epoch ≤ 4000000) ∧ (1 ≤ cycle ∧ cycle ≤ 3000) then (if mrErr months = 0 then clFrom cycle none leaps else mrErr months) else 3) else 5
def clPrev (l : List Int) (i : Nat) : Option Int := if i = 0 then none else some (rd l ((i : Int) - 1))
theorem clPrev_succ (l : List Int) (i : Nat) (h : i < l.length) : clPrev l (i + 1) = some l[i] := by
  unfold clPrev
  rw [if_neg (by omega), show ((i + 1 : Nat) : Int) - 1 = (i : Int) from by omega, rd_get l i h]
theorem ephemerisref1_CalendarError_l0 (l : List Int) (hl : l.length ≤ 9223372036854775806) (n : ByteArray) (e c : Int) (ms : List S100) : ∀ (d i k : Nat), i + d = l.length → d < k →
    ephemerisref1_CalendarError.l0 k l (l.length : Int) (i : Int) n e c ms l = some (clFrom c (clPrev l i) (l.drop i)) := by
  intro d
  induction d with
  | zero =>
    intro i k hi hk
    obtain ⟨k, rfl⟩ : ∃ m, k = m + 1 := ⟨k - 1, by omega⟩
    conv => lhs; unfold ephemerisref1_CalendarError.l0
    rw [if_neg (by omega), List.drop_of_length_le (by omega)]; rfl
  | succ d ih =>
    intro i k hi hk
    obtain ⟨k, rfl⟩ : ∃ m, k = m + 1 := ⟨k - 1, by omega⟩
    have hlt : i < l.length := by omega
    have ih := ih (i + 1) k (by omega) (by omega)
    rw [clPrev_succ l i hlt, show ((i + 1 : Nat) : Int) = (i : Int) + 1 from by omega] at ih
    conv => lhs; unfold ephemerisref1_CalendarError.l0
    rw [if_pos (by omega), if_pos (by omega), if_pos (by omega), rd_get l i hlt, List.drop_eq_getElem_cons hlt, ephemerisref1_In_f, Option.bind_some, w64_id (n := (i : Int) + 1) (by omega) (by omega)]
    unfold clFrom
    by_cases c1 : 1 ≤ l[i] ∧ l[i] ≤ c
    · rw [if_pos (decide_eq_true c1), if_pos c1]
      by_cases c3 : (i : Int) > 0
      · have hp : clPrev l i = some (rd l ((i : Int) - 1)) := by unfold clPrev; rw [if_neg (by omega)]
        rw [if_pos c3, w64_id (n := (i : Int) - 1) (by omega) (by omega), if_pos (by omega), if_pos (by omega), hp]
        by_cases c4 : rd l ((i : Int) - 1) ≥ l[i]
        · rw [if_pos c4, if_pos ⟨_, rfl, c4⟩]
        · rw [if_neg c4, if_neg (fun ⟨q, h, h2⟩ => c4 (by cases h; exact h2)), ih]
      · have hp : clPrev l i = none := by unfold clPrev; rw [if_pos (by omega)]
        rw [if_neg c3, hp, if_neg (fun ⟨q, h, _⟩ => by cases h), ih]
    · rw [if_neg (by simpa using c1), if_neg c1]
theorem ephemerisref1_CalendarError_f (n : ByteArray) (e c : Int) (ms : List S100) (l : List Int) (hl : l.length ≤ 9223372036854775806) (k : Nat) (hk : l.length + 1200 ≤ k) : ephemerisref1_CalendarError.f k n e c ms l = some (crErr n e c ms l) := by
  obtain ⟨k, rfl⟩ : ∃ m, k = m + 1 := ⟨k - 1, by omega⟩
  have hj : ∀ b : Bool, ephemerisref1_CalendarError.j0 (k + 1) b n e c ms l = some (if b = true then 3 else (if mrErr ms = 0 then clFrom c none l else mrErr ms)) := by
    intro b
    have hb : ephemerisref1_CalendarError.j0 (k + 1) b n e c ms l = (if b = true then (some 3) else ((ephemerisref1_MonthsError.f k ms).bind fun t => (if t = 0 then (ephemerisref1_CalendarError.l0 k l (l.length : Int) 0 n e c ms l) else (some t)))) := by simp only [ephemerisref1_CalendarError.j0]
    rw [hb]
    cases b with
    | true => rfl
    | false =>
      rw [if_neg (show ¬ (false = true) from by decide), if_neg (show ¬ (false = true) from by decide), ephemerisref1_MonthsError_f ms k (by omega), Option.bind_some]
      by_cases c1 : mrErr ms = 0
      · rw [if_pos c1, if_pos c1]
        exact ephemerisref1_CalendarError_l0 l hl n e c ms l.length 0 k (by omega) (by omega)
      · rw [if_neg c1, if_neg c1]
  unfold ephemerisref1_CalendarError.f crErr
  rw [ephemerisref1_Name_f _ _ (by omega), Option.bind_some, ephemerisref1_Day_f, ephemerisref1_In_f, Option.bind_some, Option.bind_some, hj, hj]
  by_cases c0 : isName n = true
  · rw [if_pos c0, if_pos c0]
    by_cases c1 : -4000000 ≤ e ∧ e ≤ 4000000
    · rw [if_pos (decide_eq_true c1)]
      by_cases c2 : 1 ≤ c ∧ c ≤ 3000
      · rw [decide_eq_true c2, if_neg (show ¬ ((!true) = true) from by decide), if_pos (show (-4000000 ≤ e ∧ e ≤ 4000000) ∧ (1 ≤ c ∧ c ≤ 3000) from ⟨c1, c2⟩)]
      · rw [decide_eq_false c2, if_pos (show (!false) = true from rfl), if_neg (fun h => c2 h.2)]
    · rw [if_neg (by simpa using c1), if_pos rfl, if_neg (fun h => c1 h.1)]
  · rw [if_neg c0, if_neg c0]

theorem moFrom_eq : ∀ (l : List S100) (a b : Int) (p q : Bool) (s : List (List UInt8)), 0 ≤ a → 0 ≤ b → (p = true ↔ 0 < a) → (q = true ↔ 0 < b) → moFrom a b s l = mrFrom p q s l
  | [], a, b, p, q, s, ha, hb, hp, hq => by
    unfold moFrom mrFrom
    by_cases c : a = 0
    · rw [if_pos c, if_neg (fun h => by have := hp.1 h; omega)]
    · rw [if_neg c, if_pos (hp.2 (by omega))]
      by_cases d : b = 0
      · rw [if_pos d, if_neg (fun h => by have := hq.1 h; omega)]
      · rw [if_neg d, if_pos (hq.2 (by omega))]
  | m :: t, a, b, p, q, s, ha, hb, hp, hq => by
    unfold moFrom mrFrom
    by_cases c : (0 ≤ m.f1 ∧ m.f1 ≤ 400) ∧ (0 ≤ m.f2 ∧ m.f2 ≤ 400)
    · rw [if_pos c, if_pos c, moFrom_eq t (a + m.f1) (b + m.f2) (p || decide (m.f1 > 0)) (q || decide (m.f2 > 0)) (s ++ [m.f0.toList]) (by omega) (by omega)
        (by rw [Bool.or_eq_true, hp, decide_eq_true_eq]; omega) (by rw [Bool.or_eq_true, hq, decide_eq_true_eq]; omega)]
    · rw [if_neg c, if_neg c]
theorem moErr_eq (l : List S100) : moErr l = mrErr l := by
  unfold moErr mrErr
  rw [moFrom_eq l 0 0 false false [] (by omega) (by omega) (by simp) (by simp)]
theorem lpFrom_eq (c : Int) : ∀ (l : List Int) (p : Int) (q : Option Int), (∀ x, 1 ≤ x → (x ≤ p ↔ ∃ r, q = some r ∧ r ≥ x)) → lpFrom c p l = clFrom c q l
  | [], _, _, _ => rfl
  | x :: t, p, q, h => by
    unfold lpFrom clFrom
    by_cases c1 : 1 ≤ x ∧ x ≤ c
    · rw [if_pos c1, if_pos c1]
      by_cases c2 : x ≤ p
      · rw [if_pos c2, if_pos ((h x c1.1).1 c2)]
      · rw [if_neg c2, if_neg (fun g => c2 ((h x c1.1).2 g))]
        exact lpFrom_eq c t x (some x) (fun y _ => ⟨fun g => ⟨x, rfl, g⟩, fun ⟨r, e, g⟩ => by cases e; exact g⟩)
    · rw [if_neg c1, if_neg c1]
theorem calErr_eq (n : ByteArray) (e c : Int) (ms : List S100) (l : List Int) : calErr n e c ms l = crErr n e c ms l := by
  unfold calErr crErr
  rw [moErr_eq, lpFrom_eq c l 0 none (fun x hx => ⟨fun h => by omega, fun ⟨r, h, _⟩ => by cases h⟩)]
theorem small_bad : calErr (⟨#[115, 109, 97, 108, 108]⟩ : ByteArray) 1 4 [(⟨(⟨#[111, 110, 101]⟩ : ByteArray), 31, 31⟩ : S100), (⟨(⟨#[116, 119, 111]⟩ : ByteArray), 28, 29⟩ : S100)] [5] = 3 := by
  have n1 : isName (⟨#[115, 109, 97, 108, 108]⟩ : ByteArray) = true := by unfold isName noWord; rw [toList_data]; decide
  have n2 : isName (⟨#[111, 110, 101]⟩ : ByteArray) = true := by unfold isName noWord; rw [toList_data]; decide
  have n3 : isName (⟨#[116, 119, 111]⟩ : ByteArray) = true := by unfold isName noWord; rw [toList_data]; decide
  unfold calErr
  rw [if_pos n1, if_pos (by omega)]
  have h : moErr [(⟨(⟨#[111, 110, 101]⟩ : ByteArray), 31, 31⟩ : S100), (⟨(⟨#[116, 119, 111]⟩ : ByteArray), 28, 29⟩ : S100)] = 0 := by
    unfold moErr
    rw [if_pos (by decide)]
    simp only [moFrom, n2, n3, if_true, toList_data]
    decide
  rw [if_pos h]
  decide
theorem CompileChecks : ephemerislaw1_CompileChecks.Pure := by
  intro n e c ms l hn he hc hms hl
  have hll : l.length ≤ 9223372036854775806 := by have := hl.1; omega
  refine ⟨2 * l.length + 2000, ?_⟩
  generalize hK : 2 * l.length + 2000 = K
  unfold ephemerislaw1_CompileChecks.f
  rw [show ephemerislaw1_small.f = some _ from rfl, Option.bind_some]
  refine (congrArg (fun o => Option.bind o _) (compile_Check_f _ 1 4 _ [5] (by decide) K (by simp; omega))).trans ?_
  refine (congrArg (fun o => Option.bind o _) (congrArg some small_bad)).trans ?_
  rw [Option.bind_some, if_pos rfl, compile_Check_f n e c ms l hll K (by omega), Option.bind_some, ephemerisref1_CalendarError_f n e c ms l hll K (by omega), Option.bind_some, calErr_eq]
  simp
end Go.Proofs.Ytmihkcgkdhmccaa.Pure
