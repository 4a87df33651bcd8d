/- The law ArithLaters over numbers and lists: what the law's functions tell, and that the law holds. -/
import Derived.Test.YtlfammlboncmeaaPArithLatersx12
import Derived.Test.YtlfammlboncmeaaM
import Derived.Test.YtlfammlboncmeaaQ
import Derived.Test.YtlfammlboncmeaaT
import Derived.Test.YtlfammlboncmeaaL
import Derived.Test.YtlfammlboncmeaaO
namespace Go.Proofs.Ytlfammlboncmeaa.Pure
open Go.RowKit Go.Proofs.Ytlfammlboncmeaa.PArithLaters Go.Proofs.YtlfammlboncmeaaW.PrintWords Go.Proofs.YtlfammlboncmeaaW.PrintLast Go.Proofs.Ytlfammlboncmeaa.M Go.Proofs.Ytlfammlboncmeaa.Q Go.Proofs.Ytlfammlboncmeaa.T Go.Proofs.Ytlfammlboncmeaa.L Go.Proofs.Ytlfammlboncmeaa.O
set_option linter.unusedVariables false
set_option linter.unusedSimpArgs false
/-- The law over numbers and lists. -/
def ephemerislaw1_ArithLaters.Pure : Prop := ∀ (a0_0 : ByteArray) (a0_1 : Int) (a0_2 : Int) (l0_3 : List (S125)) (l0_4 : List (Int)) (a1 : Int) (a2 : Int) (a3 : Int), a0_0.size ≤ 140737488351232 → (Lit.int .i64 a0_1).wf = true → (Lit.int .i64 a0_2).wf = true → (l0_3.length * 32 ≤ 140737488351232 ∧ l0_3.length ≤ 9223372036854775807 ∧ ∀ v ∈ l0_3, (v.f0.size ≤ 140737488351232 ∧ (Lit.int .i64 v.f1).wf = true ∧ (Lit.int .i64 v.f2).wf = true)) → (l0_4.length * 8 ≤ 140737488351232 ∧ l0_4.length ≤ 9223372036854775807 ∧ ∀ v ∈ l0_4, (Lit.int .i64 v).wf = true) → (Lit.int .i64 a1).wf = true → (Lit.int .i64 a2).wf = true → (Lit.int .i64 a3).wf = true → ∃ k, ephemerislaw1_ArithLaters.f k a0_0 a0_1 a0_2 l0_3 l0_4 a1 a2 a3 = some true

theorem line_Check_f (x : Int) : line_Check.f x = some (if -4000000 ≤ x ∧ x ≤ 4000000 then 0 else 3) := by
  unfold line_Check.f
  by_cases h : x < -4000000
  · rw [if_pos h, if_neg (by omega)]
  · rw [if_neg h]
    by_cases h2 : x > 4000000
    · rw [if_pos h2, if_neg (by omega)]
    · rw [if_neg h2, if_pos (by omega)]

theorem whole_Mod_f {a m : Int} (hm : 0 < m) (hm1 : m ≤ 9223372036854775807) : whole_Mod.f a m = some (a % m) := by
  unfold whole_Mod.f
  rw [if_neg (by omega)]
  obtain ⟨h1, h2⟩ := tmod_emod a m hm
  have h3 := Int.emod_nonneg a (b := m) (by omega)
  have h4 := Int.emod_lt_of_pos a hm
  by_cases c : Int.tmod a m < 0
  · rw [if_pos c, h1 c, w64_id (by omega) (by omega)]
  · rw [if_neg c, h2 c]

theorem sort_SearchInts_f {l : List Int} (hp : l.Pairwise (· < ·)) (hl : l.length ≤ 100000) (r : Int) : sort_SearchInts.f l (r + 1) = some ((l.countP fun y => decide (y ≤ r) : Nat) : Int) := by
  unfold sort_SearchInts.f
  have : sort_SearchInts.asc l = true := decide_eq_true ⟨hp.imp (fun h => Int.le_of_lt h), by omega⟩
  rw [if_pos this, count_fun]

theorem rule_Name_f (s : ByteArray) : rule_Name.f s = some (isName s) := by
  have e : rule_Name.all s.data.toList = letters s.data.toList := rfl
  unfold rule_Name.f isName noWord
  rw [e]
  congr 1
  by_cases h1 : (s.size : Int) < 1
  · rw [if_pos h1, decide_eq_false (show ¬ 1 ≤ s.size by omega)]; rfl
  rw [if_neg h1, decide_eq_true (show 1 ≤ s.size by omega)]
  by_cases h2 : (s.size : Int) > 12
  · rw [if_pos h2, decide_eq_false (show ¬ s.size ≤ 12 by omega)]; rfl
  rw [if_neg h2, decide_eq_true (show s.size ≤ 12 by omega)]
  by_cases c1 : s.toList = [121]
  · rw [if_pos c1]; simp [c1]
  rw [if_neg c1, bne_iff_ne.2 c1]
  by_cases c2 : s.toList = [97, 110, 100]
  · rw [if_pos c2]; simp [c2]
  rw [if_neg c2, bne_iff_ne.2 c2]
  by_cases c3 : s.toList = [111, 114]
  · rw [if_pos c3]; simp [c3]
  rw [if_neg c3, bne_iff_ne.2 c3]
  by_cases c4 : s.toList = [110, 111, 116]
  · rw [if_pos c4]; simp [c4]
  rw [if_neg c4, bne_iff_ne.2 c4]
  rfl

/-- The first fault of the months from a place on: 'a' and 'b' are the days so far, 's' the names so far. -/
def moFrom : Int → Int → List (List UInt8) → List S125 → Int
  | a, b, _, [] => if a = 0 then 8 else (if b = 0 then 8 else 0)
  | a, b, s, m :: t => if isName m.f0 = true then (if m.f0.toList ∈ s then 7 else (if (0 ≤ m.f1 ∧ m.f1 ≤ 400) ∧ (0 ≤ m.f2 ∧ m.f2 ≤ 400) then moFrom (a + m.f1) (b + m.f2) (s ++ [m.f0.toList]) t else 3)) else 5
def moErr (l : List S125) : Int := if 1 ≤ l.length ∧ l.length ≤ 20 then moFrom 0 0 [] l else 2
def moNames (l : List S125) : List (List UInt8) := l.map fun m => m.f0.toList
theorem mo_at (l : List S125) (i : Nat) (h : i < l.length) : rd_T125 l (i : Int) = l[i] := by
  unfold rd_T125
  rw [show ((i : Int).toNat) = i from by omega, List.getD_eq_getElem?_getD, List.getElem?_eq_getElem h]; rfl
theorem moNames_snoc (l : List S125) (i : Nat) (h : i < l.length) : moNames (l.take i) ++ [l[i].f0.toList] = moNames (l.take (i + 1)) := by
  rw [List.take_succ_eq_append_getElem h]
  unfold moNames
  rw [List.map_append]; rfl
theorem rule_Months_l1 (x0 : List S125) (x3 x4 : Int) (x17 : List S125) (x18 x19 : Int) (y : List S125) (n : ByteArray) (f1 f2 : Int) (hy : y.length ≤ 20) : ∀ (d i k : Nat), i + d = y.length →
    rule_Months.l1 (k + d + 1) x0 x3 x4 x17 x18 x19 y (y.length : Int) (i : Int) n f1 f2 = if n.toList ∈ moNames (y.drop i) then some 7 else (if (0 ≤ f1 ∧ f1 ≤ 400) ∧ (0 ≤ f2 ∧ f2 ≤ 400) then rule_Months.l0 k x0 (wrap64 (x3 + f1)) (wrap64 (x4 + f2)) x17 x18 (wrap64 (x19 + 1)) else some 3) := by
  intro d
  induction d with
  | zero =>
    intro i k hi
    conv => lhs; unfold rule_Months.l1
    rw [if_neg (by omega), List.drop_of_length_le (by omega), if_neg (show ¬ n.toList ∈ moNames ([] : List S125) from by unfold moNames; simp)]
    by_cases c1 : f1 < 0
    · rw [if_pos c1, if_neg (by omega)]
    rw [if_neg c1]
    by_cases c2 : f1 > 400
    · rw [if_pos c2, if_neg (by omega)]
    rw [if_neg c2]
    by_cases c3 : f2 < 0
    · rw [if_pos c3, if_neg (by omega)]
    rw [if_neg c3]
    by_cases c4 : f2 > 400
    · rw [if_pos c4, if_neg (by omega)]
    rw [if_neg c4, if_pos (show (0 ≤ f1 ∧ f1 ≤ 400) ∧ (0 ≤ f2 ∧ f2 ≤ 400) from by omega)]
  | succ d ih =>
    intro i k hi
    have hlt : i < y.length := by omega
    have ih := ih (i + 1) k (by omega)
    have hc : (n.toList ∈ moNames (y.drop i)) ↔ (y[i].f0.toList = n.toList ∨ n.toList ∈ moNames (y.drop (i + 1))) := by
      rw [List.drop_eq_getElem_cons hlt]
      unfold moNames
      rw [List.map_cons, List.mem_cons]
      exact ⟨fun h => h.imp (fun e => e.symm) id, fun h => h.imp (fun e => e.symm) id⟩
    rw [show k + (d + 1) + 1 = (k + d + 1) + 1 from by omega]
    conv => lhs; unfold rule_Months.l1
    rw [if_pos (by omega), if_pos (by omega), if_pos (by omega), mo_at y i hlt, w64_id (n := (i : Int) + 1) (by omega) (by omega)]
    rw [show ((i + 1 : Nat) : Int) = (i : Int) + 1 from by omega] at ih
    by_cases c : y[i].f0.toList = n.toList
    · rw [if_pos c, if_pos (hc.2 (.inl c))]
    · rw [if_neg c, ih]
      by_cases c2 : n.toList ∈ moNames (y.drop (i + 1))
      · rw [if_pos c2, if_pos (hc.2 (.inr c2))]
      · rw [if_neg c2, if_neg (fun h => (hc.1 h).elim c c2)]
theorem rule_Months_l0 (l : List S125) (hl : l.length ≤ 20) : ∀ (d i k : Nat) (a b : Int), i + d = l.length → 30 * d + 30 < k → 0 ≤ a → a ≤ 400 * i → 0 ≤ b → b ≤ 400 * i →
    rule_Months.l0 k l a b l (l.length : Int) (i : Int) = some (moFrom a b (moNames (l.take i)) (l.drop i)) := by
  intro d
  induction d with
  | zero =>
    intro i k a b hi hk ha ha1 hb hb1
    obtain ⟨k, rfl⟩ : ∃ m, k = m + 1 := ⟨k - 1, by omega⟩
    conv => lhs; unfold rule_Months.l0
    rw [if_neg (by omega), List.drop_of_length_le (by omega)]
    unfold moFrom
    by_cases c : a = 0
    · rw [if_pos c, if_pos c]
    rw [if_neg c, if_neg c]
    by_cases c : b = 0
    · rw [if_pos c, if_pos c]
    rw [if_neg c, if_neg c]
  | succ d ih =>
    intro i k a b hi hk ha ha1 hb hb1
    have hlt : i < l.length := by omega
    obtain ⟨k, rfl⟩ : ∃ m, k = m + i + 1 + 1 := ⟨k - i - 2, by omega⟩
    conv => lhs; unfold rule_Months.l0
    rw [if_pos (by omega), if_pos (by omega), if_pos (by omega), mo_at l i hlt, rule_Name_f, Option.bind_some, List.drop_eq_getElem_cons hlt]
    unfold moFrom
    by_cases c1 : isName l[i].f0 = true
    · have hty : (l.take i).length = i := by rw [List.length_take]; omega
      have h1 := rule_Months_l1 l a b l (l.length : Int) (i : Int) (l.take i) l[i].f0 l[i].f1 l[i].f2 (by omega) i 0 k (by omega)
      rw [if_pos c1, if_pos c1, if_pos (by omega), Option.bind_some, show ((i : Int).toNat) = i from by omega]
      rw [List.drop_zero] at h1
      refine h1.trans ?_
      by_cases c2 : l[i].f0.toList ∈ moNames (l.take i)
      · rw [if_pos c2, if_pos c2]
      rw [if_neg c2, if_neg c2]
      by_cases c3 : (0 ≤ l[i].f1 ∧ l[i].f1 ≤ 400) ∧ (0 ≤ l[i].f2 ∧ l[i].f2 ≤ 400)
      · rw [if_pos c3, if_pos c3, moNames_snoc l i hlt, w64_id (n := a + l[i].f1) (by omega) (by omega), w64_id (n := b + l[i].f2) (by omega) (by omega), w64_id (n := (i : Int) + 1) (by omega) (by omega)]
        exact ih (i + 1) k (a + l[i].f1) (b + l[i].f2) (by omega) (by omega) (by omega) (by omega) (by omega) (by omega)
      · rw [if_neg c3, if_neg c3]
    · rw [if_neg c1, if_neg c1]
theorem rule_Months_f (l : List S125) (k : Nat) (hk : 700 ≤ k) : rule_Months.f k l = some (moErr l) := by
  obtain ⟨k, rfl⟩ : ∃ m, k = m + 1 := ⟨k - 1, by omega⟩
  have e : rule_Months.f (k + 1) l = rule_Months.j0 (k + 1) l (decide (¬ (1 ≤ l.length ∧ l.length ≤ 20))) := by
    unfold rule_Months.f
    by_cases c : (l.length : Int) < 1
    · rw [if_pos c, decide_eq_true (by omega)]
    · rw [if_neg c]
      by_cases c2 : (l.length : Int) > 20
      · rw [decide_eq_true c2, decide_eq_true (by omega)]
      · rw [decide_eq_false c2, decide_eq_false (by omega)]
  rw [e]
  conv => lhs; unfold rule_Months.j0
  simp only [decide_eq_true_eq]
  unfold moErr
  by_cases c : 1 ≤ l.length ∧ l.length ≤ 20
  · rw [if_neg (fun h => h c), if_pos c]
    exact rule_Months_l0 l c.2 l.length 0 k 0 0 (by omega) (by omega) (by omega) (by omega) (by omega) (by omega)
  · rw [if_pos c, if_neg c]

/-- The first fault of the leap years from a place on: 'p' is the one before. -/
def lpFrom (c : Int) : Int → List Int → Int
  | _, [] => 0
  | p, x :: t => if 1 ≤ x ∧ x ≤ c then (if x ≤ p then 9 else lpFrom c x t) else 3
def calErr (name : ByteArray) (epoch cycle : Int) (months : List S125) (leaps : List Int) : Int :=
  if isName name = true then (if (-4000000 ≤ epoch ∧ epoch ≤ 4000000) ∧ (1 ≤ cycle ∧ cycle ≤ 3000) then (if moErr months = 0 then lpFrom cycle 0 leaps else moErr months) else 3) else 5
theorem compile_Check_l0 (l : List Int) (hl : l.length ≤ 9223372036854775806) (n : ByteArray) (e c : Int) (ms : List S125) (l2 : List Int) : ∀ (d i k : Nat) (p : Int), i + d = l.length → 2 * d + 2 < k →
    compile_Check.l0 k p l (l.length : Int) (i : Int) n e c ms l2 = some (lpFrom c p (l.drop i)) := by
  intro d
  induction d with
  | zero =>
    intro i k p hi hk
    obtain ⟨k, rfl⟩ : ∃ m, k = m + 1 := ⟨k - 1, by omega⟩
    conv => lhs; unfold compile_Check.l0
    rw [if_neg (by omega), List.drop_of_length_le (by omega)]; rfl
  | succ d ih =>
    intro i k p hi hk
    obtain ⟨k, rfl⟩ : ∃ m, k = m + 2 := ⟨k - 2, by omega⟩
    have hlt : i < l.length := by omega
    have hj : (if l[i] < 1 then compile_Check.j2 (k + 1) p l[i] l (l.length : Int) (i : Int) true n e c ms l2 else compile_Check.j2 (k + 1) p l[i] l (l.length : Int) (i : Int) (decide (l[i] > c)) n e c ms l2) = compile_Check.j2 (k + 1) p l[i] l (l.length : Int) (i : Int) (decide (¬ (1 ≤ l[i] ∧ l[i] ≤ c))) n e c ms l2 := by
      by_cases c1 : l[i] < 1
      · rw [if_pos c1, dec_not_true (by omega)]
      rw [if_neg c1]
      by_cases c2 : l[i] > c
      · rw [decide_eq_true c2, dec_not_true (by omega)]
      · rw [decide_eq_false c2, dec_not_false (by omega)]
    rw [show k + 2 = (k + 1) + 1 from rfl]
    conv => lhs; unfold compile_Check.l0
    rw [if_pos (by omega), if_pos (by omega), if_pos (by omega), rd_get l i hlt, hj, List.drop_eq_getElem_cons hlt]
    conv => lhs; unfold compile_Check.j2
    simp only [decide_eq_true_eq, lpFrom]
    by_cases c1 : 1 ≤ l[i] ∧ l[i] ≤ c
    · rw [if_neg (fun h => h c1), if_pos c1]
      by_cases c2 : l[i] ≤ p
      · rw [if_pos c2, if_pos c2]
      · rw [if_neg c2, if_neg c2, w64_id (n := (i : Int) + 1) (by omega) (by omega)]
        exact ih (i + 1) k l[i] (by omega) (by omega)
    · rw [if_pos c1, if_neg c1]
theorem compile_Check_f (n : ByteArray) (e c : Int) (ms : List S125) (l : List Int) (hl : l.length ≤ 9223372036854775806) (k : Nat) (hk : 2 * l.length + 800 ≤ k) : compile_Check.f k n e c ms l = some (calErr n e c ms l) := by
  obtain ⟨k, rfl⟩ : ∃ m, k = m + 1 := ⟨k - 1, by omega⟩
  have hj : ∀ b : Bool, compile_Check.j0 (k + 1) b n e c ms l = some (if b = true then 3 else (if moErr ms = 0 then lpFrom c 0 l else moErr ms)) := by
    intro b
    have hb : compile_Check.j0 (k + 1) b n e c ms l = (if b = true then (some 3) else ((rule_Months.f k ms).bind fun t => (if t = 0 then (compile_Check.l0 k 0 l (l.length : Int) 0 n e c ms l) else (some t)))) := by simp only [compile_Check.j0]
    rw [hb]
    cases b with
    | true => rfl
    | false =>
      rw [if_neg (show ¬ (false = true) from by decide), if_neg (show ¬ (false = true) from by decide), rule_Months_f ms k (by omega), Option.bind_some]
      by_cases c1 : moErr ms = 0
      · rw [if_pos c1, if_pos c1]
        exact compile_Check_l0 l hl n e c ms l l.length 0 k 0 (by omega) (by omega)
      · rw [if_neg c1, if_neg c1]
  unfold compile_Check.f calErr
  rw [rule_Name_f, Option.bind_some, line_Check_f, hj, hj]
  by_cases c0 : isName n = true
  · rw [if_pos c0, if_pos c0, Option.bind_some]
    by_cases c1 : -4000000 ≤ e ∧ e ≤ 4000000
    · rw [if_pos c1, if_pos rfl]
      by_cases c2 : c < 1
      · rw [if_pos c2, if_pos rfl, if_neg (by omega)]
      rw [if_neg c2]
      by_cases c3 : c > 3000
      · rw [if_pos (decide_eq_true c3), if_neg (by omega)]
      · rw [if_neg (by simpa using c3), if_pos (show (-4000000 ≤ e ∧ e ≤ 4000000) ∧ (1 ≤ c ∧ c ≤ 3000) from by omega)]
    · rw [if_neg c1, if_neg (by decide), if_pos rfl, if_neg (fun h => c1 h.1)]
  · rw [if_neg c0, if_neg c0]

/-- The days of a common year and of a leap year. -/
def shortSum (l : List S125) : Int := (l.map fun m => m.f1).sum
def longSum (l : List S125) : Int := (l.map fun m => m.f2).sum
theorem shortSum_cons (m : S125) (l : List S125) : shortSum (m :: l) = m.f1 + shortSum l := by unfold shortSum; rw [List.map_cons, List.sum_cons]
theorem longSum_cons (m : S125) (l : List S125) : longSum (m :: l) = m.f2 + longSum l := by unfold longSum; rw [List.map_cons, List.sum_cons]
def okMo (l : List S125) : Prop := ∀ m ∈ l, (0 ≤ m.f1 ∧ m.f1 ≤ 400) ∧ (0 ≤ m.f2 ∧ m.f2 ≤ 400)
theorem okMo_sum : ∀ (l : List S125), okMo l → (0 ≤ shortSum l ∧ shortSum l ≤ 400 * l.length) ∧ (0 ≤ longSum l ∧ longSum l ≤ 400 * l.length)
  | [], _ => by simp [shortSum, longSum]
  | m :: t, h => by
    have ih := okMo_sum t (fun x hx => h x (List.mem_cons_of_mem _ hx))
    have hm := h m List.mem_cons_self
    rw [shortSum_cons, longSum_cons, List.length_cons]
    omega
theorem moFrom_ok : ∀ (l : List S125) (a b : Int) (s : List (List UInt8)), moFrom a b s l = 0 → okMo l ∧ a + shortSum l ≠ 0 ∧ b + longSum l ≠ 0
  | [], a, b, s, h => by
    unfold moFrom at h
    by_cases c : a = 0
    · rw [if_pos c] at h; cases h
    · rw [if_neg c] at h
      by_cases d : b = 0
      · rw [if_pos d] at h; cases h
      · exact ⟨fun m hm => by simp at hm, by simpa [shortSum] using c, by simpa [longSum] using d⟩
  | m :: t, a, b, s, h => by
    unfold moFrom at h
    by_cases c1 : isName m.f0 = true
    · rw [if_pos c1] at h
      by_cases c2 : m.f0.toList ∈ s
      · rw [if_pos c2] at h; cases h
      · rw [if_neg c2] at h
        by_cases c3 : (0 ≤ m.f1 ∧ m.f1 ≤ 400) ∧ (0 ≤ m.f2 ∧ m.f2 ≤ 400)
        · rw [if_pos c3] at h
          obtain ⟨h1, h2, h3⟩ := moFrom_ok t _ _ _ h
          refine ⟨fun x hx => ?_, by rw [shortSum_cons]; omega, by rw [longSum_cons]; omega⟩
          rcases List.mem_cons.1 hx with rfl | hx
          · exact c3
          · exact h1 x hx
        · rw [if_neg c3] at h; cases h
    · rw [if_neg c1] at h; cases h
theorem lpFrom_ok (c : Int) : ∀ (l : List Int) (p : Int), lpFrom c p l = 0 → (∀ y ∈ l, p < y ∧ 1 ≤ y ∧ y ≤ c) ∧ l.Pairwise (· < ·)
  | [], _, _ => ⟨fun y h => by simp at h, List.Pairwise.nil⟩
  | x :: t, p, h => by
    unfold lpFrom at h
    by_cases c1 : 1 ≤ x ∧ x ≤ c
    · rw [if_pos c1] at h
      by_cases c2 : x ≤ p
      · rw [if_pos c2] at h; cases h
      · rw [if_neg c2] at h
        obtain ⟨h1, h2⟩ := lpFrom_ok c t x h
        refine ⟨fun y hy => ?_, List.pairwise_cons.2 ⟨fun y hy => (h1 y hy).1, h2⟩⟩
        rcases List.mem_cons.1 hy with rfl | hy
        · omega
        · have := h1 y hy; omega
    · rw [if_neg c1] at h; cases h
/-- What is known of a valid calendar. -/
structure OkCal (e c : Int) (ms : List S125) (l : List Int) : Prop where
  ep : -4000000 ≤ e ∧ e ≤ 4000000
  cy : 1 ≤ c ∧ c ≤ 3000
  len : 1 ≤ ms.length ∧ ms.length ≤ 20
  mo : okMo ms
  sp : 1 ≤ shortSum ms ∧ shortSum ms ≤ 8000
  lp : 1 ≤ longSum ms ∧ longSum ms ≤ 8000
  lo : ∀ y ∈ l, 1 ≤ y
  hi : ∀ y ∈ l, y ≤ c
  up : l.Pairwise (· < ·)
theorem calErr_ok {n : ByteArray} {e c : Int} {ms : List S125} {l : List Int} (h : calErr n e c ms l = 0) : OkCal e c ms l := by
  unfold calErr at h
  by_cases c1 : isName n = true
  · rw [if_pos c1] at h
    by_cases c2 : (-4000000 ≤ e ∧ e ≤ 4000000) ∧ (1 ≤ c ∧ c ≤ 3000)
    · rw [if_pos c2] at h
      by_cases c3 : moErr ms = 0
      · rw [if_pos c3] at h
        unfold moErr at c3
        by_cases c4 : 1 ≤ ms.length ∧ ms.length ≤ 20
        · rw [if_pos c4] at c3
          obtain ⟨h1, h2, h3⟩ := moFrom_ok ms 0 0 [] c3
          have hs := okMo_sum ms h1
          obtain ⟨h4, h5⟩ := lpFrom_ok c l 0 h
          exact ⟨c2.1, c2.2, c4, h1, by omega, by omega, fun y hy => (h4 y hy).2.1, fun y hy => (h4 y hy).2.2, h5⟩
        · rw [if_neg c4] at c3; cases c3
      · rw [if_neg c3] at h; exact absurd h c3
    · rw [if_neg c2] at h; cases h
  · rw [if_neg c1] at h; cases h
theorem OkCal.cnt {e c : Int} {ms : List S125} {l : List Int} (h : OkCal e c ms l) : cntLe l c = l.length := cnt_all h.hi
theorem OkCal.llen {e c : Int} {ms : List S125} {l : List Int} (h : OkCal e c ms l) : (l.length : Int) ≤ c := by
  have h1 := cnt_le_self h.up h.lo c.toNat
  have hc := h.cy
  rw [show ((c.toNat : Nat) : Int) = c from by omega, h.cnt] at h1
  exact h1
/-- The years of a cycle, one by one. -/
def leapList (c : Int) (l : List Int) : List Bool := (List.range c.toNat).map fun (i : Nat) => decide (((i : Int) + 1) ∈ l)
theorem leapList_len (c : Int) (l : List Int) : (leapList c l).length = c.toNat := by unfold leapList; rw [List.length_map, List.length_range]
theorem leapList_at (c : Int) (l : List Int) (j : Int) (h0 : 0 ≤ j) (h1 : j < c) : rdOf false (leapList c l) j = decide (j + 1 ∈ l) := by
  unfold rdOf
  have hl : j.toNat < (leapList c l).length := by rw [leapList_len]; omega
  rw [List.getD_eq_getElem?_getD, List.getElem?_eq_getElem hl]
  simp only [leapList, List.getElem_map, List.getElem_range, Option.getD_some]
  rw [show ((j.toNat : Nat) : Int) = j from by omega]
theorem leapList_nil (c : Int) : leapList c [] = List.replicate c.toNat false := by
  apply List.ext_getElem
  · rw [leapList_len, List.length_replicate]
  · intro i h1 h2
    simp [leapList]
theorem leapList_set (c : Int) (l : List Int) (y : Int) (h0 : 1 ≤ y) (h1 : y ≤ c) : (leapList c l).set (y - 1).toNat true = leapList c (l ++ [y]) := by
  apply List.ext_getElem
  · rw [List.length_set, leapList_len, leapList_len]
  · intro i h1 h2
    rw [List.getElem_set]
    simp only [leapList, List.getElem_map, List.getElem_range, List.mem_append, List.mem_singleton]
    by_cases c : (y - 1).toNat = i
    · rw [if_pos c]; symm; exact decide_eq_true (.inr (by omega))
    · rw [if_neg c]; exact decide_eq_decide.2 ⟨.inl, fun h => h.elim id (fun h => by omega)⟩
/-- Is it a leap year? -/
def isLeapY (c : Int) (l : List Int) (y : Int) : Bool := decide ((y - 1) % c + 1 ∈ l)
def yearLen (c : Int) (ms : List S125) (l : List Int) (y : Int) : Int := if isLeapY c l y = true then longSum ms else shortSum ms
/-- The first day of a year. -/
def nyD (e c : Int) (ms : List S125) (l : List Int) (y : Int) : Int := e + (y - 1) / c * sumY (shortSum ms) (longSum ms) l c.toNat + sumY (shortSum ms) (longSum ms) l ((y - 1) % c).toNat
theorem yearLen_bound {e c : Int} {ms : List S125} {l : List Int} (ok : OkCal e c ms l) (y : Int) : 1 ≤ yearLen c ms l y ∧ yearLen c ms l y ≤ 8000 := by
  unfold yearLen; split
  · exact ok.lp
  · exact ok.sp
theorem nyD_succ {e c : Int} {ms : List S125} {l : List Int} (ok : OkCal e c ms l) (y : Int) : nyD e c ms l (y + 1) = nyD e c ms l y + yearLen c ms l y := by
  have hc := ok.cy
  unfold nyD yearLen isLeapY
  obtain ⟨q, r, h0, h1, hy⟩ : ∃ q r : Int, 0 ≤ r ∧ r < c ∧ y - 1 = c * q + r := ⟨(y - 1) / c, (y - 1) % c, Int.emod_nonneg _ (by omega), Int.emod_lt_of_pos _ (by omega), (Int.mul_ediv_add_emod _ _).symm⟩
  obtain ⟨e1, e2⟩ := ed_uniq (a := y - 1) (b := c) (q := q) (r := r) (by omega) hy h0 h1
  have hd : (if decide (r + 1 ∈ l) = true then longSum ms else shortSum ms) = if r + 1 ∈ l then longSum ms else shortSum ms := by by_cases h : r + 1 ∈ l <;> simp [h]
  rw [e1, e2, hd]
  by_cases hr : r + 1 < c
  · obtain ⟨e3, e4⟩ := ed_uniq (a := y + 1 - 1) (b := c) (q := q) (r := r + 1) (by omega) (by omega) (by omega) hr
    rw [e3, e4, show (r + 1).toNat = r.toNat + 1 from by omega, sumY, show ((r.toNat : Nat) : Int) = r from by omega]; omega
  · obtain ⟨e3, e4⟩ := ed_uniq (a := y + 1 - 1) (b := c) (q := q + 1) (r := 0) (by omega) (by rw [Int.mul_add]; omega) (by omega) (by omega)
    have hT : sumY (shortSum ms) (longSum ms) l (r.toNat + 1) = sumY (shortSum ms) (longSum ms) l r.toNat + if r + 1 ∈ l then longSum ms else shortSum ms := by
      rw [sumY, show ((r.toNat : Nat) : Int) = r from by omega]
    rw [e3, e4, show (0 : Int).toNat = 0 from rfl, show c.toNat = r.toNat + 1 from by omega, Int.add_mul, Int.one_mul, show sumY (shortSum ms) (longSum ms) l 0 = 0 from rfl]
    generalize (if r + 1 ∈ l then longSum ms else shortSum ms) = z at *
    omega
theorem nyD_bound {e c : Int} {ms : List S125} {l : List Int} (ok : OkCal e c ms l) {y : Int} (hy : -30000 ≤ y ∧ y ≤ 30000) :
    (-30001 ≤ (y - 1) / c ∧ (y - 1) / c ≤ 30001) ∧ (0 ≤ (y - 1) % c ∧ (y - 1) % c < c) ∧ (-720024000000 ≤ (y - 1) / c * sumY (shortSum ms) (longSum ms) l c.toNat ∧ (y - 1) / c * sumY (shortSum ms) (longSum ms) l c.toNat ≤ 720024000000) ∧ (0 ≤ sumY (shortSum ms) (longSum ms) l ((y - 1) % c).toNat ∧ sumY (shortSum ms) (longSum ms) l ((y - 1) % c).toNat ≤ 24000000) ∧ (1 ≤ sumY (shortSum ms) (longSum ms) l c.toNat ∧ sumY (shortSum ms) (longSum ms) l c.toNat ≤ 24000000) := by
  have hc := ok.cy; have hs := ok.sp; have hl := ok.lp
  have q1 : -30001 ≤ (y - 1) / c := by rw [Int.le_ediv_iff_mul_le (by omega)]; omega
  have q2 : (y - 1) / c ≤ 30001 := by
    have : (y - 1) / c < 30002 := by rw [Int.ediv_lt_iff_lt_mul (by omega)]; omega
    omega
  have r1 := Int.emod_nonneg (y - 1) (b := c) (by omega)
  have r2 := Int.emod_lt_of_pos (y - 1) (b := c) (by omega)
  have s1 := sumY_bound (s := shortSum ms) (b := longSum ms) (l := l) (by omega) (by omega) (by omega) (by omega) c.toNat
  have s2 := sumY_bound (s := shortSum ms) (b := longSum ms) (l := l) (by omega) (by omega) (by omega) (by omega) ((y - 1) % c).toNat
  have s3 : 1 ≤ sumY (shortSum ms) (longSum ms) l c.toNat := by
    obtain ⟨m, hm⟩ : ∃ m, c.toNat = m + 1 := ⟨c.toNat - 1, by omega⟩
    have s4 := sumY_bound (s := shortSum ms) (b := longSum ms) (l := l) (by omega) (by omega) (by omega) (by omega) m
    rw [hm, sumY]; split <;> omega
  generalize sumY (shortSum ms) (longSum ms) l c.toNat = T at *
  have p1 : -30001 * T ≤ (y - 1) / c * T := Int.mul_le_mul_of_nonneg_right q1 (by omega)
  have p2 : (y - 1) / c * T ≤ 30001 * T := Int.mul_le_mul_of_nonneg_right q2 (by omega)
  omega
theorem prod8000 {s c : Int} (hs : 0 ≤ s ∧ s ≤ 8000) (hc : 0 ≤ c ∧ c ≤ 3000) : 0 ≤ s * c ∧ s * c ≤ 24000000 := by
  have := mul_lt (n := 8000) (m := 3000) hs.1 hs.2 hc.1 hc.2
  omega
/-- The length of a month; the days of the first months. -/
def monL (ms : List S125) (lp : Bool) (m : Int) : Int := if lp = true then (rd_T125 ms (m - 1)).f2 else (rd_T125 ms (m - 1)).f1
def monSum (ms : List S125) (lp : Bool) : Nat → Int
  | 0 => 0
  | j + 1 => monSum ms lp j + monL ms lp ((j : Int) + 1)
theorem monL_bound {ms : List S125} (h : okMo ms) (lp : Bool) {m : Int} (h1 : 1 ≤ m) (h2 : m ≤ ms.length) : 0 ≤ monL ms lp m ∧ monL ms lp m ≤ 400 := by
  obtain ⟨i, hi⟩ : ∃ i : Nat, m - 1 = i := ⟨(m - 1).toNat, by omega⟩
  have hlt : i < ms.length := by omega
  have := h ms[i] (List.getElem_mem hlt)
  unfold monL
  rw [hi, mo_at ms i hlt]
  split <;> omega
theorem monSum_bound {ms : List S125} (h : okMo ms) (lp : Bool) : ∀ j : Nat, j ≤ ms.length → 0 ≤ monSum ms lp j ∧ monSum ms lp j ≤ 400 * j
  | 0, _ => by simp [monSum]
  | j + 1, hj => by
    have := monSum_bound h lp j (by omega)
    have := monL_bound h lp (m := (j : Int) + 1) (by omega) (by omega)
    rw [monSum]; omega
theorem monSum_all (lp : Bool) : ∀ (ms : List S125) (j : Nat), j ≤ ms.length → monSum ms lp j = if lp = true then longSum (ms.take j) else shortSum (ms.take j)
  | ms, 0, _ => by simp [monSum, longSum, shortSum]
  | ms, j + 1, hj => by
    have hlt : j < ms.length := by omega
    rw [monSum, monSum_all lp ms j (by omega), monL, show (j : Int) + 1 - 1 = (j : Int) from by omega, mo_at ms j hlt, List.take_succ_eq_append_getElem hlt]
    unfold longSum shortSum
    rw [List.map_append, List.map_append, List.sum_append, List.sum_append]
    simp only [List.map_cons, List.map_nil, List.sum_cons, List.sum_nil, Int.add_zero]
    split <;> rfl
/-- The day of a date of a valid calendar. -/
def toDayD (e c : Int) (ms : List S125) (l : List Int) (y m d : Int) : Int × Int :=
  if -10000 ≤ y ∧ y ≤ 10000 then (if (1 ≤ m ∧ m ≤ ms.length) ∧ (1 ≤ d ∧ d ≤ monL ms (isLeapY c l y) m) then
    (if -4000000 ≤ nyD e c ms l y + d - 1 + monSum ms (isLeapY c l y) (m - 1).toNat ∧ nyD e c ms l y + d - 1 + monSum ms (isLeapY c l y) (m - 1).toNat ≤ 4000000 then (nyD e c ms l y + d - 1 + monSum ms (isLeapY c l y) (m - 1).toNat, 0) else (0, 3)) else (0, 1)) else (0, 3)
theorem nyD_range {e c : Int} {ms : List S125} {l : List Int} (ok : OkCal e c ms l) {y : Int} (hy : -30000 ≤ y ∧ y ≤ 30000) : -800000000000 ≤ nyD e c ms l y ∧ nyD e c ms l y ≤ 800000000000 := by
  obtain ⟨b1, b2, b3, b4, b5⟩ := nyD_bound ok hy
  have he := ok.ep
  unfold nyD; omega
theorem nyD_mono {e c : Int} {ms : List S125} {l : List Int} (ok : OkCal e c ms l) (y : Int) : ∀ d : Nat, nyD e c ms l y + d ≤ nyD e c ms l (y + d)
  | 0 => by simp
  | d + 1 => by
    have h1 := nyD_mono ok y d
    have h2 := nyD_succ ok (y + d)
    have h3 := yearLen_bound ok (y + d)
    rw [show y + ((d + 1 : Nat) : Int) = y + d + 1 from by omega, h2]; omega
theorem nyD_lt {e c : Int} {ms : List S125} {l : List Int} (ok : OkCal e c ms l) {a b : Int} (h : a ≤ b) : nyD e c ms l a + (b - a) ≤ nyD e c ms l b := by
  have := nyD_mono ok a (b - a).toNat
  rwa [show a + (((b - a).toNat : Nat) : Int) = b from by omega, show (((b - a).toNat : Nat) : Int) = b - a from by omega] at this
/-- The year in which a day lies; the month. -/
def inYear (e c : Int) (ms : List S125) (l : List Int) (day y : Int) : Prop := nyD e c ms l y ≤ day ∧ day < nyD e c ms l (y + 1)
theorem inYear_uniq {e c : Int} {ms : List S125} {l : List Int} (ok : OkCal e c ms l) {day a b : Int} (ha : inYear e c ms l day a) (hb : inYear e c ms l day b) : a = b := by
  obtain ⟨a1, a2⟩ := ha; obtain ⟨b1, b2⟩ := hb
  rcases Int.lt_trichotomy a b with h | h | h
  · have := nyD_lt ok (show a + 1 ≤ b by omega); omega
  · exact h
  · have := nyD_lt ok (show b + 1 ≤ a by omega); omega
def inMonth (ms : List S125) (lp : Bool) (rest m : Int) : Prop := (1 ≤ m ∧ m ≤ ms.length) ∧ monSum ms lp (m - 1).toNat ≤ rest ∧ rest < monSum ms lp m.toNat
theorem monSum_mono {ms : List S125} (h : okMo ms) (lp : Bool) (i : Nat) : ∀ d : Nat, i + d ≤ ms.length → monSum ms lp i ≤ monSum ms lp (i + d)
  | 0, _ => Int.le_refl _
  | d + 1, hd => by
    have h1 := monSum_mono h lp i d (by omega)
    have h2 := monL_bound h lp (m := ((i + d : Nat) : Int) + 1) (by omega) (by omega)
    rw [show i + (d + 1) = (i + d) + 1 from by omega, monSum]; omega
theorem inMonth_uniq {ms : List S125} (h : okMo ms) {lp : Bool} {rest a b : Int} (ha : inMonth ms lp rest a) (hb : inMonth ms lp rest b) : a = b := by
  obtain ⟨⟨a0, a3⟩, a1, a2⟩ := ha; obtain ⟨⟨b0, b3⟩, b1, b2⟩ := hb
  rcases Int.lt_trichotomy a b with hh | hh | hh
  · have := monSum_mono h lp a.toNat ((b - 1).toNat - a.toNat) (by omega)
    rw [show a.toNat + ((b - 1).toNat - a.toNat) = (b - 1).toNat from by omega] at this; omega
  · exact hh
  · have := monSum_mono h lp b.toNat ((a - 1).toNat - b.toNat) (by omega)
    rw [show b.toNat + ((a - 1).toNat - b.toNat) = (a - 1).toNat from by omega] at this; omega
theorem monSum_year {e c : Int} {ms : List S125} {l : List Int} (ok : OkCal e c ms l) (y : Int) : monSum ms (isLeapY c l y) ms.length = yearLen c ms l y := by
  rw [monSum_all _ _ _ (Nat.le_refl _), List.take_length]; rfl

theorem arith_leap_f {n : ByteArray} {e c : Int} {ms : List S125} {l : List Int} (ok : OkCal e c ms l) (y : Int) (hy : -30000 ≤ y ∧ y ≤ 30000) : arith_leap.f n e c ms l y = some (isLeapY c l y) := by
  have hc := ok.cy; have hll := ok.llen
  have r1 := Int.emod_nonneg (y - 1) (b := c) (by omega)
  have r2 := Int.emod_lt_of_pos (y - 1) (b := c) (by omega)
  have hs := srch_at (l := l) ((y - 1) % c) ok.up
  unfold arith_leap.f isLeapY
  rw [w64_id (n := y - 1) (by omega) (by omega), whole_Mod_f (by omega) (by omega), Option.bind_some, w64_id (n := (y - 1) % c + 1) (by omega) (by omega), sort_SearchInts_f ok.up (by omega), Option.bind_some]
  by_cases hlt : (l.countP fun y_1 => decide (y_1 ≤ (y - 1) % c)) < l.length
  · rw [if_pos (by omega), if_pos (by omega), rd_get l _ hlt, beq_dec]
    congr 1
    exact decide_eq_decide.2 ⟨fun h => hs.2 ⟨hlt, h⟩, fun h => (hs.1 h).2⟩
  · rw [if_neg (by omega)]
    congr 1
    symm
    exact decide_eq_false (fun h => hlt (hs.1 h).1)

theorem arith_month_f {n : ByteArray} {e c : Int} {ms : List S125} {l : List Int} (ok : OkCal e c ms l) (y m : Int) (hy : -30000 ≤ y ∧ y ≤ 30000) (hm : 1 ≤ m ∧ m ≤ ms.length) : arith_month.f n e c ms l y m = some (monL ms (isLeapY c l y) m) := by
  have hl := ok.len
  unfold arith_month.f monL
  rw [arith_leap_f ok y hy, Option.bind_some, w64_id (n := m - 1) (by omega) (by omega), if_pos (show 0 ≤ m - 1 by omega), if_pos (show m - 1 < (ms.length : Int) by omega)]
  by_cases h : isLeapY c l y = true
  · rw [if_pos h, if_pos h]
  · rw [if_neg h, if_neg h, if_pos (show 0 ≤ m - 1 by omega), if_pos (show m - 1 < (ms.length : Int) by omega)]

theorem whole_Div_f {a b : Int} (k : Nat) (hk : 1 ≤ k) (ha : -9223372036854775808 ≤ a) (ha1 : a ≤ 9223372036854775807) (hb : -9223372036854775808 ≤ b) (hb1 : b ≤ 9223372036854775807) : whole_Div.f k a b = some (divs a b) := by
  obtain ⟨k, rfl⟩ : ∃ m, k = m + 1 := ⟨k - 1, by omega⟩
  unfold whole_Div.f divs
  by_cases c : b = 0
  · rw [if_pos c, if_pos c]
  rw [if_neg c, if_neg c]
  by_cases d : a = -9223372036854775808 ∧ b = -1
  · rw [if_pos d.1, if_pos d, d.2]; simp [whole_Div.j0]
  have e : (if a = (-9223372036854775808) then (whole_Div.j0 (k + 1) a b (b == (-1))) else (whole_Div.j0 (k + 1) a b false)) = whole_Div.j0 (k + 1) a b false := by
    by_cases c1 : a = -9223372036854775808
    · rw [if_pos c1, show (b == -1) = false from beq_eq_false_iff_ne.2 (fun h => d ⟨c1, h⟩)]
    · rw [if_neg c1]
  rw [e, if_neg d]
  simp only [whole_Div.j0, Bool.false_eq_true, if_false]
  rw [if_neg c]
  obtain ⟨b1, b2⟩ := tdiv_bound a b c ha ha1 d
  obtain ⟨g1, g2, g3⟩ := fd_of_t a b c
  obtain ⟨t0, t1, t2, t3, t4⟩ := tdm a b c
  rw [w64_id b1 b2]
  by_cases hz : Int.tmod a b = 0
  · rw [if_pos hz, (g1 hz).1, (g1 hz).2, hz]
  · rw [if_neg hz]
    cases hs : (decide (Int.tmod a b < 0) != decide (b < 0)) with
    | true =>
      have hq : fd a b = Int.tdiv a b - 1 := (g2 hz hs).1
      have hfs := fd_spec a b c
      have hlow : -9223372036854775808 ≤ Int.tdiv a b - 1 := by
        by_cases hm : Int.tdiv a b = -9223372036854775808
        · exfalso
          have h9 : (Int.tdiv a b).natAbs = a.natAbs / b.natAbs := Int.natAbs_tdiv a b
          rw [hm] at h9
          have h10 : a.natAbs / b.natAbs ≤ a.natAbs := Nat.div_le_self _ _
          by_cases hb2 : b.natAbs = 1
          · have : b = 1 ∨ b = -1 := by omega
            rcases this with rfl | rfl
            · exact hz (by rw [Int.tmod_one])
            · exact hz (by rw [Int.tmod_neg, Int.tmod_one])
          · have : a.natAbs / b.natAbs ≤ a.natAbs / 2 := Nat.div_le_div_left (by omega) (by omega)
            omega
        · omega
      have hss : (Int.tmod a b < 0 ∧ 0 < b) ∨ (0 < Int.tmod a b ∧ b < 0) := by
        by_cases hx : Int.tmod a b < 0 <;> by_cases hy : b < 0 <;> simp [hx, hy] at hs
        · exact .inl ⟨hx, by omega⟩
        · exact .inr ⟨by omega, hy⟩
      simp only [if_true]
      rw [(g2 hz hs).1, (g2 hz hs).2, w64_id hlow (by omega), w64_id (n := Int.tmod a b + b) (by omega) (by omega)]
    | false =>
      simp only [Bool.false_eq_true, if_false]
      rw [(g3 hz hs).1, (g3 hz hs).2]

theorem compile_Lengths_l0 (ms : List S125) (hm : okMo ms) (hl : ms.length ≤ 20) : ∀ (d i k : Nat) (a b : Int), i + d = ms.length → d < k → 0 ≤ a → a ≤ 400 * i → 0 ≤ b → b ≤ 400 * i →
    compile_Lengths.l0 k a b ms (ms.length : Int) (i : Int) = some (a + shortSum (ms.drop i), b + longSum (ms.drop i)) := by
  intro d
  induction d with
  | zero =>
    intro i k a b hi hk a0 a1 b0 b1
    obtain ⟨k, rfl⟩ : ∃ m, k = m + 1 := ⟨k - 1, by omega⟩
    simp only [compile_Lengths.l0]
    rw [if_neg (by omega), List.drop_of_length_le (by omega)]; simp [shortSum, longSum]
  | succ d ih =>
    intro i k a b hi hk a0 a1 b0 b1
    obtain ⟨k, rfl⟩ : ∃ m, k = m + 1 := ⟨k - 1, by omega⟩
    have hlt : i < ms.length := by omega
    have hb := hm ms[i] (List.getElem_mem hlt)
    simp only [compile_Lengths.l0]
    rw [if_pos (by omega), if_pos (by omega), if_pos (by omega), mo_at ms i hlt, w64_id (n := a + ms[i].f1) (by omega) (by omega), w64_id (n := b + ms[i].f2) (by omega) (by omega), w64_id (n := (i : Int) + 1) (by omega) (by omega), List.drop_eq_getElem_cons hlt, shortSum_cons, longSum_cons]
    have := ih (i + 1) k (a + ms[i].f1) (b + ms[i].f2) (by omega) (by omega) (by omega) (by omega) (by omega) (by omega)
    rw [show ((i + 1 : Nat) : Int) = (i : Int) + 1 from by omega, Int.add_assoc, Int.add_assoc] at this
    exact this
theorem compile_Lengths_f {n : ByteArray} {e c : Int} {ms : List S125} {l : List Int} (hm : okMo ms) (hl : ms.length ≤ 20) (k : Nat) (hk : 30 ≤ k) : compile_Lengths.f k n e c ms l = some (shortSum ms, longSum ms) := by
  unfold compile_Lengths.f
  have := compile_Lengths_l0 ms hm hl ms.length 0 k 0 0 (by omega) (by omega) (by omega) (by omega) (by omega) (by omega)
  simpa using this

theorem arith_first_f {n : ByteArray} {e c : Int} {ms : List S125} {l : List Int} (ok : OkCal e c ms l) (y : Int) (hy : -30000 ≤ y ∧ y ≤ 30000) (k : Nat) (hk : 100 ≤ k) :
    arith_first.f k n e c ms l y = some (nyD e c ms l y) := by
  have hc := ok.cy; have he := ok.ep; have hs := ok.sp; have hl := ok.lp; have hll := ok.llen
  obtain ⟨b1, b2, b3, b4, b5⟩ := nyD_bound ok hy
  have hd : divs (y - 1) c = ((y - 1) / c, (y - 1) % c, 0) := divs_pos (by omega)
  have eT : sumY (shortSum ms) (longSum ms) l c.toNat = shortSum ms * (c - l.length) + longSum ms * l.length := by
    rw [sumY_eq _ _ ok.up ok.lo, show ((c.toNat : Nat) : Int) = c from by omega, ok.cnt]
  have eR : sumY (shortSum ms) (longSum ms) l ((y - 1) % c).toNat = shortSum ms * ((y - 1) % c - cntLe l ((y - 1) % c)) + longSum ms * cntLe l ((y - 1) % c) := by
    rw [sumY_eq _ _ ok.up ok.lo, show ((((y - 1) % c).toNat : Nat) : Int) = (y - 1) % c from by omega]
  have hcl := cnt_nonneg l ((y - 1) % c)
  have hcr : cntLe l ((y - 1) % c) ≤ (y - 1) % c := by
    have := cnt_le_self ok.up ok.lo ((y - 1) % c).toNat
    rwa [show ((((y - 1) % c).toNat : Nat) : Int) = (y - 1) % c from by omega] at this
  unfold arith_first.f nyD
  rw [w64_id (n := y - 1) (by omega) (by omega), whole_Div_f k (by omega) (by omega) (by omega) (by omega) (by omega), hd, Option.bind_some, compile_Lengths_f ok.mo ok.len.2 k (by omega), Option.bind_some]
  simp only
  rw [w64_id (n := (y - 1) % c + 1) (by omega) (by omega), sort_SearchInts_f ok.up (by omega), Option.bind_some]
  rw [show (((l.countP fun y_1 => decide (y_1 ≤ (y - 1) % c) : Nat)) : Int) = cntLe l ((y - 1) % c) from rfl]
  have p1 := prod8000 (s := shortSum ms) (c := c - l.length) (by omega) (by omega)
  have p2 := prod8000 (s := longSum ms) (c := l.length) (by omega) (by omega)
  have p3 := prod8000 (s := shortSum ms) (c := (y - 1) % c - cntLe l ((y - 1) % c)) (by omega) (by omega)
  have p4 := prod8000 (s := longSum ms) (c := cntLe l ((y - 1) % c)) (by omega) (by omega)
  rw [w64_id (n := c - l.length) (by omega) (by omega), w64_id (n := shortSum ms * (c - l.length)) (by omega) (by omega), w64_id (n := longSum ms * l.length) (by omega) (by omega), w64_id (n := shortSum ms * (c - l.length) + longSum ms * l.length) (by omega) (by omega), ← eT]
  rw [w64_id (n := (y - 1) / c * _) (by omega) (by omega), w64_id (n := e + _) (by omega) (by omega), w64_id (n := (y - 1) % c - _) (by omega) (by omega), w64_id (n := shortSum ms * ((y - 1) % c - cntLe l ((y - 1) % c))) (by omega) (by omega), w64_id (n := longSum ms * cntLe l ((y - 1) % c)) (by omega) (by omega), eR]
  rw [w64_id (n := e + _ + _) (by omega) (by omega), w64_id (by omega) (by omega)]
  congr 1; omega

theorem arith_FromDay_l1 {n : ByteArray} {e c : Int} {ms : List S125} {l : List Int} (ok : OkCal e c ms l) (y rest : Int) (hy : -30000 ≤ y ∧ y ≤ 30000) (hr : 0 ≤ rest) (hr2 : rest < yearLen c ms l y) : ∀ (f j k : Nat), j + f + 1 = ms.length → f < k → monSum ms (isLeapY c l y) j ≤ rest →
    ∃ m, inMonth ms (isLeapY c l y) rest m ∧ arith_FromDay.l1 k y (rest + 1 - monSum ms (isLeapY c l y) j) ((j : Int) + 1) n e c ms l = some (y, m, rest - monSum ms (isLeapY c l y) (m - 1).toNat + 1, 0) := by
  have hl := ok.len
  have hyl := yearLen_bound ok y
  intro f
  induction f with
  | zero =>
    intro j k hj hk hlow
    obtain ⟨k, rfl⟩ : ∃ m, k = m + 1 := ⟨k - 1, by omega⟩
    have hall := monSum_year ok y
    rw [show ms.length = j + 1 from by omega, monSum] at hall
    have h1 := monSum_bound ok.mo (isLeapY c l y) j (by omega)
    refine ⟨(j : Int) + 1, ⟨by omega, by rw [show ((j : Int) + 1 - 1).toNat = j from by omega]; exact hlow, by rw [show ((j : Int) + 1).toNat = j + 1 from by omega, monSum]; omega⟩, ?_⟩
    simp only [arith_FromDay.l1]
    rw [arith_month_f ok y _ hy (by omega), Option.bind_some, if_neg (by omega), show ((j : Int) + 1 - 1).toNat = j from by omega]
    congr 4; omega
  | succ f ih =>
    intro j k hj hk hlow
    obtain ⟨k, rfl⟩ : ∃ m, k = m + 1 := ⟨k - 1, by omega⟩
    have h1 := monSum_bound ok.mo (isLeapY c l y) j (by omega)
    have h2 := monL_bound ok.mo (isLeapY c l y) (m := (j : Int) + 1) (by omega) (by omega)
    by_cases h : rest + 1 - monSum ms (isLeapY c l y) j > monL ms (isLeapY c l y) ((j : Int) + 1)
    · obtain ⟨m, hm, e1⟩ := ih (j + 1) k (by omega) (by omega) (by rw [monSum]; omega)
      refine ⟨m, hm, ?_⟩
      rw [monSum, show ((j + 1 : Nat) : Int) = (j : Int) + 1 from by omega] at e1
      simp only [arith_FromDay.l1]
      rw [arith_month_f ok y _ hy (by omega), Option.bind_some, if_pos h, Option.bind_some, w64_id (n := _ - monL _ _ _) (by omega) (by omega), w64_id (n := (j : Int) + 1 + 1) (by omega) (by omega), ← e1]
      congr 1; omega
    · refine ⟨(j : Int) + 1, ⟨by omega, by rw [show ((j : Int) + 1 - 1).toNat = j from by omega]; exact hlow, by rw [show ((j : Int) + 1).toNat = j + 1 from by omega, monSum]; omega⟩, ?_⟩
      simp only [arith_FromDay.l1]
      rw [arith_month_f ok y _ hy (by omega), Option.bind_some, if_neg h, show ((j : Int) + 1 - 1).toNat = j from by omega]
      congr 4; omega
theorem arith_FromDay_l0 {n : ByteArray} {e c : Int} {ms : List S125} {l : List Int} (ok : OkCal e c ms l) (day : Int) (hd : -4000000 ≤ day ∧ day ≤ 4000000) : ∀ (f : Nat) (lo hi : Int) (k : Nat), hi - lo ≤ f → f + 200 < k → -10000 ≤ lo → hi ≤ 10001 → lo < hi → nyD e c ms l lo ≤ day → day < nyD e c ms l hi →
    ∃ y m, (-10000 ≤ y ∧ y ≤ 10000) ∧ inYear e c ms l day y ∧ inMonth ms (isLeapY c l y) (day - nyD e c ms l y) m ∧ arith_FromDay.l0 k day lo hi n e c ms l = some (y, m, day - nyD e c ms l y - monSum ms (isLeapY c l y) (m - 1).toNat + 1, 0) := by
  have hl := ok.len
  intro f
  induction f with
  | zero => intro lo hi k h1 h2 h3 h4 h5; omega
  | succ f ih =>
    intro lo hi k h1 h2 h3 h4 h5 h6 h7
    obtain ⟨k, rfl⟩ : ∃ m, k = m + 1 := ⟨k - 1, by omega⟩
    conv => enter [1, y, 1, m, 2, 2, 2, 1]; unfold arith_FromDay.l0
    rw [w64_id (n := hi - lo) (by omega) (by omega)]
    by_cases c1 : hi - lo > 1
    · have ht : Int.tdiv (hi - lo) 2 = (hi - lo) / 2 := Int.tdiv_eq_ediv_of_nonneg (by omega)
      rw [if_pos c1, ht, w64_id (n := (hi - lo) / 2) (by omega) (by omega), w64_id (n := lo + (hi - lo) / 2) (by omega) (by omega), arith_first_f ok _ (by omega) k (by omega), Option.bind_some]
      by_cases c2 : nyD e c ms l (lo + (hi - lo) / 2) ≤ day
      · rw [if_pos c2]
        exact ih _ hi k (by omega) (by omega) (by omega) h4 (by omega) c2 h7
      · rw [if_neg c2]
        exact ih lo _ k (by omega) (by omega) h3 (by omega) (by omega) h6 (by omega)
    · obtain rfl : hi = lo + 1 := by omega
      have hr := nyD_range ok (y := lo) (by omega)
      rw [if_neg c1, arith_first_f ok lo (by omega) k (by omega), Option.bind_some, w64_id (n := day - nyD e c ms l lo) (by omega) (by omega), w64_id (n := day - nyD e c ms l lo + 1) (by omega) (by omega)]
      have hs := nyD_succ ok lo
      obtain ⟨m, hm, e1⟩ := arith_FromDay_l1 (n := n) ok lo (day - nyD e c ms l lo) (by omega) (by omega) (by omega) (ms.length - 1) 0 k (by omega) (by omega) (by simp [monSum]; omega)
      rw [show monSum ms (isLeapY c l lo) 0 = 0 from rfl, Int.sub_zero] at e1
      exact ⟨lo, m, by omega, ⟨h6, h7⟩, hm, e1⟩
theorem arith_FromDay_f (n : ByteArray) (e c : Int) (ms : List S125) (l : List Int) (day : Int) (hl : l.length ≤ 9223372036854775806) (k : Nat) (hk : 2 * l.length + 30000 ≤ k) :
    (calErr n e c ms l ≠ 0 ∧ arith_FromDay.f k n e c ms l day = some (0, 0, 0, calErr n e c ms l)) ∨
    (calErr n e c ms l = 0 ∧ ((¬ (-4000000 ≤ day ∧ day ≤ 4000000) ∧ arith_FromDay.f k n e c ms l day = some (0, 0, 0, 3)) ∨ ((-4000000 ≤ day ∧ day ≤ 4000000) ∧
      ((¬ (nyD e c ms l (-10000) ≤ day ∧ day < nyD e c ms l 10001) ∧ arith_FromDay.f k n e c ms l day = some (0, 0, 0, 3)) ∨
       (∃ y m, (-10000 ≤ y ∧ y ≤ 10000) ∧ inYear e c ms l day y ∧ inMonth ms (isLeapY c l y) (day - nyD e c ms l y) m ∧ arith_FromDay.f k n e c ms l day = some (y, m, day - nyD e c ms l y - monSum ms (isLeapY c l y) (m - 1).toNat + 1, 0)))))) := by
  obtain ⟨k, rfl⟩ : ∃ m, k = m + 1 := ⟨k - 1, by omega⟩
  unfold arith_FromDay.f
  rw [compile_Check_f n e c ms l hl _ (by omega), Option.bind_some, line_Check_f, Option.bind_some]
  by_cases h : calErr n e c ms l = 0
  rotate_left
  · exact .inl ⟨h, by rw [if_neg h]⟩
  refine .inr ⟨h, ?_⟩
  have ok := calErr_ok h
  rw [if_pos h]
  by_cases h2 : -4000000 ≤ day ∧ day ≤ 4000000
  rotate_left
  · exact .inl ⟨h2, by rw [if_neg h2, if_neg (by decide)]⟩
  refine .inr ⟨h2, ?_⟩
  rw [if_pos h2, if_pos rfl, arith_first_f ok _ (by omega) (k + 1) (by omega), Option.bind_some, arith_first_f ok _ (by omega) (k + 1) (by omega), Option.bind_some]
  have jt : arith_FromDay.j0 (k + 1) day (-10000) 10001 true n e c ms l = some (0, 0, 0, 3) := by simp only [arith_FromDay.j0, if_true]
  by_cases c1 : nyD e c ms l (-10000) > day
  · exact .inl ⟨fun h => by omega, by rw [if_pos c1, jt]⟩
  rw [if_neg c1]
  by_cases c2 : nyD e c ms l 10001 ≤ day
  · exact .inl ⟨fun h => by omega, by rw [decide_eq_true c2, jt]⟩
  rw [decide_eq_false c2]
  right
  have := arith_FromDay_l0 (n := n) ok day h2 20001 (-10000) 10001 k (by omega) (by omega) (by omega) (by omega) (by omega) (by omega) (by omega)
  simp only [arith_FromDay.j0, Bool.false_eq_true, if_false]
  exact this

theorem arith_begin_f (n : ByteArray) (e c : Int) (ms : List S125) (l : List Int) (y : Int) (hl : l.length ≤ 9223372036854775806) (k : Nat) (hk : 2 * l.length + 800 ≤ k) :
    arith_begin.f k n e c ms l y = some (if calErr n e c ms l = 0 then (if -10000 ≤ y ∧ y ≤ 10000 then 0 else 3) else calErr n e c ms l) := by
  unfold arith_begin.f
  rw [compile_Check_f n e c ms l hl k hk, Option.bind_some]
  grind

theorem arith_ToDay_l0 {n : ByteArray} {e c : Int} {ms : List S125} {l : List Int} (ok : OkCal e c ms l) (y m d b : Int) (hy : -30000 ≤ y ∧ y ≤ 30000) (hm : 1 ≤ m ∧ m ≤ ms.length) (hb : -900000000000 ≤ b ∧ b ≤ 900000000000) : ∀ (f j k : Nat), (j : Int) + 1 + f = m → f + 10 < k →
    arith_ToDay.l0 k (b + monSum ms (isLeapY c l y) j) ((j : Int) + 1) n e c ms l y m d = some (if -4000000 ≤ b + monSum ms (isLeapY c l y) (m - 1).toNat ∧ b + monSum ms (isLeapY c l y) (m - 1).toNat ≤ 4000000 then (b + monSum ms (isLeapY c l y) (m - 1).toNat, 0) else (0, 3)) := by
  have hl := ok.len
  intro f
  induction f with
  | zero =>
    intro j k hj hk
    obtain ⟨k, rfl⟩ : ∃ m, k = m + 1 := ⟨k - 1, by omega⟩
    simp only [arith_ToDay.l0]
    rw [if_neg (by omega), show (m - 1).toNat = j from by omega, line_Check_f, Option.bind_some]
    by_cases h : -4000000 ≤ b + monSum ms (isLeapY c l y) j ∧ b + monSum ms (isLeapY c l y) j ≤ 4000000
    · rw [if_pos h, if_pos rfl, if_pos h]
    · rw [if_neg h, if_neg (by decide), if_neg h]
  | succ f ih =>
    intro j k hj hk
    obtain ⟨k, rfl⟩ : ∃ m, k = m + 1 := ⟨k - 1, by omega⟩
    have h1 := monSum_bound ok.mo (isLeapY c l y) j (by omega)
    have h2 := monL_bound ok.mo (isLeapY c l y) (m := (j : Int) + 1) (by omega) (by omega)
    have ih := ih (j + 1) k (by omega) (by omega)
    rw [monSum, show ((j + 1 : Nat) : Int) = (j : Int) + 1 from by omega, ← Int.add_assoc] at ih
    simp only [arith_ToDay.l0]
    rw [if_pos (by omega), arith_month_f ok y _ hy (by omega), Option.bind_some, w64_id (n := _ + monL _ _ _) (by omega) (by omega), w64_id (n := (j : Int) + 1 + 1) (by omega) (by omega)]
    exact ih
theorem arith_ToDay_f (n : ByteArray) (e c : Int) (ms : List S125) (l : List Int) (y m d : Int) (hl : l.length ≤ 9223372036854775806) (hd : -9223372036854775808 ≤ d ∧ d ≤ 9223372036854775807) (k : Nat) (hk : 2 * l.length + 1000 ≤ k) :
    arith_ToDay.f k n e c ms l y m d = some (if calErr n e c ms l = 0 then toDayD e c ms l y m d else (0, calErr n e c ms l)) := by
  obtain ⟨k, rfl⟩ : ∃ m, k = m + 1 := ⟨k - 1, by omega⟩
  unfold arith_ToDay.f
  rw [arith_begin_f n e c ms l y hl (k + 1) (by omega), Option.bind_some]
  by_cases h : calErr n e c ms l = 0
  rotate_left
  · rw [if_neg h, if_neg h, if_neg h]
  rw [if_pos h, if_pos h]
  have ok := calErr_ok h
  have hlen := ok.len
  unfold toDayD
  by_cases h2 : -10000 ≤ y ∧ y ≤ 10000
  rotate_left
  · rw [if_neg h2, if_neg (by decide), if_neg h2]
  rw [if_pos h2, if_pos rfl, if_pos h2]
  have jt : arith_ToDay.j0 (k + 1) true n e c ms l y m d = some (0, 1) := by simp only [arith_ToDay.j0, if_true]
  rw [jt]
  by_cases c1 : m < 1
  · rw [if_pos c1, if_neg (fun h => by omega)]
  rw [if_neg c1]
  by_cases c2 : m > ms.length
  · rw [if_pos c2, if_neg (fun h => by omega)]
  rw [if_neg c2]
  by_cases c3 : d < 1
  · rw [if_pos c3, if_neg (fun h => by omega)]
  rw [if_neg c3, arith_month_f ok y m (by omega) (by omega), Option.bind_some]
  have hml := monL_bound ok.mo (isLeapY c l y) (m := m) (by omega) (by omega)
  by_cases c4 : d > monL ms (isLeapY c l y) m
  · rw [decide_eq_true c4, jt, if_neg (fun h => by omega)]
  rw [decide_eq_false c4, if_pos (by omega)]
  have hr := nyD_range ok (y := y) (by omega)
  simp only [arith_ToDay.j0, Bool.false_eq_true, if_false]
  rw [arith_first_f ok y (by omega) k (by omega), Option.bind_some, w64_id (n := nyD e c ms l y + d) (by omega) (by omega), w64_id (n := nyD e c ms l y + d - 1) (by omega) (by omega)]
  have := arith_ToDay_l0 (n := n) ok y m d (nyD e c ms l y + d - 1) (by omega) (by omega) (by omega) (m - 1).toNat 0 k (by omega) (by omega)
  rw [show monSum ms (isLeapY c l y) 0 = 0 from rfl, Int.add_zero] at this
  exact this

/-- The small rule: its months. -/
def smallM : List S125 := [⟨⟨#[111, 110, 101]⟩, 31, 31⟩, ⟨⟨#[116, 119, 111]⟩, 28, 29⟩]
def smallT : ByteArray × Int × Int × Int × Int × List S119 × List S125 :=
  (⟨#[115, 109, 97, 108, 108]⟩, 1, 8, 10, 0, [⟨8, 0, [⟨2, 0, []⟩, ⟨1, 4, []⟩]⟩, ⟨1, 0, []⟩], smallM)

theorem ephemerislaw1_small_f : ephemerislaw1_small.f = some smallT := rfl

theorem ephemerislaw1_four_f : ephemerislaw1_four.f = some ((⟨#[115, 109, 97, 108, 108]⟩ : ByteArray), 1, 4, smallM, [4]) := by
  unfold ephemerislaw1_four.f; rw [ephemerislaw1_small_f]; rfl

theorem ephemerisref1_In_f (x lo hi : Int) : ephemerisref1_In.f x lo hi = some (decide (lo ≤ x ∧ x ≤ hi)) := by
  unfold ephemerisref1_In.f
  by_cases h : x ≥ lo
  · rw [if_pos h]; congr 1; simp; omega
  · rw [if_neg h]; congr 1; simp; omega

theorem ephemerisref1_Day_f (x : Int) : ephemerisref1_Day.f x = some (decide (-4000000 ≤ x ∧ x ≤ 4000000)) := by
  unfold ephemerisref1_Day.f
  rw [ephemerisref1_In_f]; rfl

theorem ephemerisref1_Name_l0 (s : ByteArray) (hs : s.size ≤ 12) : ∀ (d i k : Nat), i + d = s.size → d < k →
    ephemerisref1_Name.l0 k s (s.size : Int) (i : Int) = some (noWord s && letters (s.data.toList.drop i)) := by
  intro d
  induction d with
  | zero =>
    intro i k hi hk
    obtain ⟨k, rfl⟩ : ∃ m, k = m + 1 := ⟨k - 1, by omega⟩
    obtain rfl : i = s.size := by omega
    simp only [ephemerisref1_Name.l0]
    rw [if_neg (by omega), letters_end, Bool.and_true]
    unfold noWord
    by_cases c1 : s.toList = [121]
    · rw [if_pos c1]; simp [c1]
    rw [if_neg c1, bne_iff_ne.2 c1]
    by_cases c2 : s.toList = [97, 110, 100]
    · rw [if_pos c2]; simp [c2]
    rw [if_neg c2, bne_iff_ne.2 c2]
    by_cases c3 : s.toList = [111, 114]
    · rw [if_pos c3]; simp [c3]
    rw [if_neg c3, bne_iff_ne.2 c3]
    rfl
  | succ d ih =>
    intro i k hi hk
    obtain ⟨k, rfl⟩ : ∃ m, k = m + 1 := ⟨k - 1, by omega⟩
    simp only [ephemerisref1_Name.l0]
    rw [if_pos (by omega), if_pos (by omega), if_pos (by omega), letters_cons s i (by omega)]
    by_cases c1 : bt s i < 97
    · rw [if_pos c1, decide_eq_false (show ¬ 97 ≤ bt s i by omega)]; simp
    rw [if_neg c1, decide_eq_true (show 97 ≤ bt s i by omega)]
    by_cases c2 : bt s i > 122
    · rw [if_pos c2, decide_eq_false (show ¬ bt s i ≤ 122 by omega)]; simp
    rw [if_neg c2, decide_eq_true (show bt s i ≤ 122 by omega), w64_id (by omega) (by omega)]
    have := ih (i + 1) k (by omega) (by omega)
    rw [show ((i + 1 : Nat) : Int) = (i : Int) + 1 from by omega] at this
    rw [this]; simp
theorem ephemerisref1_Name_f (s : ByteArray) (k : Nat) (hk : 20 ≤ k) : ephemerisref1_Name.f k s = some (isName s) := by
  obtain ⟨k, rfl⟩ : ∃ m, k = m + 1 := ⟨k - 1, by omega⟩
  unfold ephemerisref1_Name.f isName
  by_cases h1 : s.toList = []
  · rw [if_pos h1, decide_eq_false (show ¬ 1 ≤ s.size by have := (toList_nil s).1 h1; omega)]
    simp [ephemerisref1_Name.j0]
  have h1' : ¬ s.size = 0 := fun h => h1 ((toList_nil s).2 h)
  rw [if_neg h1, decide_eq_true (show 1 ≤ s.size by omega)]
  simp only [ephemerisref1_Name.j0, decide_eq_true_eq]
  by_cases h2 : (s.size : Int) > 12
  · rw [if_pos h2, decide_eq_false (show ¬ s.size ≤ 12 by omega)]; rfl
  rw [if_neg h2, decide_eq_true (show s.size ≤ 12 by omega)]
  exact ephemerisref1_Name_l0 s (by omega) s.size 0 k (by omega) (by omega)

/-- The first fault of the months from a place on, as the other reading tells it: 'a' and 'b' tell whether there was a day so far. -/
def mrFrom : Bool → Bool → List (List UInt8) → List S125 → Int
  | a, b, _, [] => if a = true then (if b = true then 0 else 8) else 8
  | a, b, s, m :: t => if isName m.f0 = true then (if m.f0.toList ∈ s then 7 else (if (0 ≤ m.f1 ∧ m.f1 ≤ 400) ∧ (0 ≤ m.f2 ∧ m.f2 ≤ 400) then mrFrom (a || decide (m.f1 > 0)) (b || decide (m.f2 > 0)) (s ++ [m.f0.toList]) t else 3)) else 5
def mrErr (l : List S125) : Int := if 1 ≤ l.length ∧ l.length ≤ 20 then mrFrom false false [] l else 2
def mrNames (l : List S125) : List (List UInt8) := l.map fun m => m.f0.toList
theorem mr_at (l : List S125) (i : Nat) (h : i < l.length) : rd_T125 l (i : Int) = l[i] := by
  unfold rd_T125
  rw [show ((i : Int).toNat) = i from by omega, List.getD_eq_getElem?_getD, List.getElem?_eq_getElem h]; rfl
theorem mrNames_snoc (l : List S125) (i : Nat) (h : i < l.length) : mrNames (l.take i) ++ [l[i].f0.toList] = mrNames (l.take (i + 1)) := by
  rw [List.take_succ_eq_append_getElem h]
  unfold mrNames
  rw [List.map_append]; rfl
theorem ephemerisref1_MonthsError_l1 (l : List S125) (a b : Bool) (x12 x13 : Int) (i : Nat) (hl : l.length ≤ 20) (hlt : i < l.length) : ∀ (d j k : Nat), j + d = i →
    ephemerisref1_MonthsError.l1 (k + d + 1) l a b (i : Int) x12 x13 (i : Int) (j : Int) = if l[i].f0.toList ∈ mrNames ((l.take i).drop j) then some 7 else (if (0 ≤ l[i].f1 ∧ l[i].f1 ≤ 400) ∧ (0 ≤ l[i].f2 ∧ l[i].f2 ≤ 400) then ephemerisref1_MonthsError.l0 k l (a || decide (l[i].f1 > 0)) (b || decide (l[i].f2 > 0)) x12 (wrap64 (x13 + 1)) else some 3) := by
  intro d
  have hty : (l.take i).length = i := by rw [List.length_take]; omega
  induction d with
  | zero =>
    intro j k hj
    conv => lhs; unfold ephemerisref1_MonthsError.l1
    rw [if_neg (by omega), List.drop_of_length_le (by omega), if_neg (show ¬ l[i].f0.toList ∈ mrNames ([] : List S125) from by unfold mrNames; simp), if_pos (by omega), if_pos (by omega), mr_at l i hlt, ephemerisref1_In_f, Option.bind_some]
    by_cases c1 : 0 ≤ l[i].f1 ∧ l[i].f1 ≤ 400
    · rw [if_pos (decide_eq_true c1), ephemerisref1_In_f, Option.bind_some]
      by_cases c2 : 0 ≤ l[i].f2 ∧ l[i].f2 ≤ 400
      · rw [if_pos (decide_eq_true c2), if_pos (show (0 ≤ l[i].f1 ∧ l[i].f1 ≤ 400) ∧ (0 ≤ l[i].f2 ∧ l[i].f2 ≤ 400) from ⟨c1, c2⟩)]
        cases a <;> cases b <;> rfl
      · rw [if_neg (by simpa using c2), if_neg (fun h => c2 h.2)]
    · rw [if_neg (by simpa using c1), if_neg (fun h => c1 h.1)]
  | succ d ih =>
    intro j k hj
    have hlj : j < l.length := by omega
    have ih := ih (j + 1) k (by omega)
    have hc : (l[i].f0.toList ∈ mrNames ((l.take i).drop j)) ↔ (l[j].f0.toList = l[i].f0.toList ∨ l[i].f0.toList ∈ mrNames ((l.take i).drop (j + 1))) := by
      rw [List.drop_eq_getElem_cons (show j < (l.take i).length by omega), List.getElem_take]
      unfold mrNames
      rw [List.map_cons, List.mem_cons]
      exact ⟨fun h => h.imp (fun e => e.symm) id, fun h => h.imp (fun e => e.symm) id⟩
    rw [show k + (d + 1) + 1 = (k + d + 1) + 1 from by omega]
    conv => lhs; unfold ephemerisref1_MonthsError.l1
    rw [if_pos (by omega), if_pos (by omega), if_pos (by omega), if_pos (by omega), if_pos (by omega), mr_at l j hlj, mr_at l i hlt, w64_id (n := (j : Int) + 1) (by omega) (by omega)]
    rw [show ((j + 1 : Nat) : Int) = (j : Int) + 1 from by omega] at ih
    by_cases c : l[j].f0.toList = l[i].f0.toList
    · rw [if_pos c, if_pos (hc.2 (.inl c))]
    · rw [if_neg c, ih]
      by_cases c2 : l[i].f0.toList ∈ mrNames ((l.take i).drop (j + 1))
      · rw [if_pos c2, if_pos (hc.2 (.inr c2))]
      · rw [if_neg c2, if_neg (fun h => (hc.1 h).elim c c2)]
theorem ephemerisref1_MonthsError_l0 (l : List S125) (hl : l.length ≤ 20) : ∀ (d i k : Nat) (a b : Bool), i + d = l.length → 50 * d + 50 < k →
    ephemerisref1_MonthsError.l0 k l a b (l.length : Int) (i : Int) = some (mrFrom a b (mrNames (l.take i)) (l.drop i)) := by
  intro d
  induction d with
  | zero =>
    intro i k a b hi hk
    obtain ⟨k, rfl⟩ : ∃ m, k = m + 1 := ⟨k - 1, by omega⟩
    conv => lhs; unfold ephemerisref1_MonthsError.l0
    rw [if_neg (by omega), List.drop_of_length_le (by omega)]
    unfold mrFrom
    cases a <;> cases b <;> rfl
  | succ d ih =>
    intro i k a b hi hk
    have hlt : i < l.length := by omega
    obtain ⟨k, rfl⟩ : ∃ m, k = m + i + 1 + 1 := ⟨k - i - 2, by omega⟩
    conv => lhs; unfold ephemerisref1_MonthsError.l0
    rw [if_pos (by omega), if_pos (by omega), if_pos (by omega), mr_at l i hlt, ephemerisref1_Name_f _ _ (by omega), Option.bind_some, List.drop_eq_getElem_cons hlt]
    unfold mrFrom
    by_cases c1 : isName l[i].f0 = true
    · have h1 := ephemerisref1_MonthsError_l1 l a b (l.length : Int) (i : Int) i hl hlt i 0 k (by omega)
      rw [if_pos c1, if_pos c1]
      rw [List.drop_zero] at h1
      refine h1.trans ?_
      by_cases c2 : l[i].f0.toList ∈ mrNames (l.take i)
      · rw [if_pos c2, if_pos c2]
      rw [if_neg c2, if_neg c2]
      by_cases c3 : (0 ≤ l[i].f1 ∧ l[i].f1 ≤ 400) ∧ (0 ≤ l[i].f2 ∧ l[i].f2 ≤ 400)
      · rw [if_pos c3, if_pos c3, mrNames_snoc l i hlt, w64_id (n := (i : Int) + 1) (by omega) (by omega)]
        exact ih (i + 1) k _ _ (by omega) (by omega)
      · rw [if_neg c3, if_neg c3]
    · rw [if_neg c1, if_neg c1]
theorem ephemerisref1_MonthsError_f (l : List S125) (k : Nat) (hk : 1100 ≤ k) : ephemerisref1_MonthsError.f k l = some (mrErr l) := by
  unfold ephemerisref1_MonthsError.f mrErr
  rw [ephemerisref1_In_f, Option.bind_some]
  by_cases c : 1 ≤ l.length ∧ l.length ≤ 20
  · rw [if_pos (decide_eq_true (by omega)), if_pos c]
    exact ephemerisref1_MonthsError_l0 l c.2 l.length 0 k false false (by omega) (by omega)
  · rw [if_neg (fun h => c (by have := of_decide_eq_true h; omega)), if_neg c]

/-- The first fault of the leap years from a place on: 'p' is the one before. -/
def clFrom (c : Int) : Option Int → List Int → Int
  | _, [] => 0
  | p, x :: t => if 1 ≤ x ∧ x ≤ c then (if (∃ q, p = some q ∧ q ≥ x) then 9 else clFrom c (some x) t) else 3
def crErr (name : ByteArray) (epoch cycle : Int) (months : List S125) (leaps : List Int) : Int :=
  if isName name = true then (if (-4000000 ≤ epoch ∧ epoch ≤ 4000000) ∧ (1 ≤ cycle ∧ cycle ≤ 3000) then (if mrErr months = 0 then clFrom cycle none leaps else mrErr months) else 3) else 5
def clPrev (l : List Int) (i : Nat) : Option Int := if i = 0 then none else some (rd l ((i : Int) - 1))
theorem clPrev_succ (l : List Int) (i : Nat) (h : i < l.length) : clPrev l (i + 1) = some l[i] := by
  unfold clPrev
  rw [if_neg (by omega), show ((i + 1 : Nat) : Int) - 1 = (i : Int) from by omega, rd_get l i h]
theorem ephemerisref1_CalendarError_l0 (l : List Int) (hl : l.length ≤ 9223372036854775806) (n : ByteArray) (e c : Int) (ms : List S125) : ∀ (d i k : Nat), i + d = l.length → d < k →
    ephemerisref1_CalendarError.l0 k l (l.length : Int) (i : Int) n e c ms l = some (clFrom c (clPrev l i) (l.drop i)) := by
  intro d
  induction d with
  | zero =>
    intro i k hi hk
    obtain ⟨k, rfl⟩ : ∃ m, k = m + 1 := ⟨k - 1, by omega⟩
    conv => lhs; unfold ephemerisref1_CalendarError.l0
    rw [if_neg (by omega), List.drop_of_length_le (by omega)]; rfl
  | succ d ih =>
    intro i k hi hk
    obtain ⟨k, rfl⟩ : ∃ m, k = m + 1 := ⟨k - 1, by omega⟩
    have hlt : i < l.length := by omega
    have ih := ih (i + 1) k (by omega) (by omega)
    rw [clPrev_succ l i hlt, show ((i + 1 : Nat) : Int) = (i : Int) + 1 from by omega] at ih
    conv => lhs; unfold ephemerisref1_CalendarError.l0
    rw [if_pos (by omega), if_pos (by omega), if_pos (by omega), rd_get l i hlt, List.drop_eq_getElem_cons hlt, ephemerisref1_In_f, Option.bind_some, w64_id (n := (i : Int) + 1) (by omega) (by omega)]
    unfold clFrom
    by_cases c1 : 1 ≤ l[i] ∧ l[i] ≤ c
    · rw [if_pos (decide_eq_true c1), if_pos c1]
      by_cases c3 : (i : Int) > 0
      · have hp : clPrev l i = some (rd l ((i : Int) - 1)) := by unfold clPrev; rw [if_neg (by omega)]
        rw [if_pos c3, w64_id (n := (i : Int) - 1) (by omega) (by omega), if_pos (by omega), if_pos (by omega), hp]
        by_cases c4 : rd l ((i : Int) - 1) ≥ l[i]
        · rw [if_pos c4, if_pos ⟨_, rfl, c4⟩]
        · rw [if_neg c4, if_neg (fun ⟨q, h, h2⟩ => c4 (by cases h; exact h2)), ih]
      · have hp : clPrev l i = none := by unfold clPrev; rw [if_pos (by omega)]
        rw [if_neg c3, hp, if_neg (fun ⟨q, h, _⟩ => by cases h), ih]
    · rw [if_neg (by simpa using c1), if_neg c1]
theorem ephemerisref1_CalendarError_f (n : ByteArray) (e c : Int) (ms : List S125) (l : List Int) (hl : l.length ≤ 9223372036854775806) (k : Nat) (hk : l.length + 1200 ≤ k) : ephemerisref1_CalendarError.f k n e c ms l = some (crErr n e c ms l) := by
  obtain ⟨k, rfl⟩ : ∃ m, k = m + 1 := ⟨k - 1, by omega⟩
  have hj : ∀ b : Bool, ephemerisref1_CalendarError.j0 (k + 1) b n e c ms l = some (if b = true then 3 else (if mrErr ms = 0 then clFrom c none l else mrErr ms)) := by
    intro b
    have hb : ephemerisref1_CalendarError.j0 (k + 1) b n e c ms l = (if b = true then (some 3) else ((ephemerisref1_MonthsError.f k ms).bind fun t => (if t = 0 then (ephemerisref1_CalendarError.l0 k l (l.length : Int) 0 n e c ms l) else (some t)))) := by simp only [ephemerisref1_CalendarError.j0]
    rw [hb]
    cases b with
    | true => rfl
    | false =>
      rw [if_neg (show ¬ (false = true) from by decide), if_neg (show ¬ (false = true) from by decide), ephemerisref1_MonthsError_f ms k (by omega), Option.bind_some]
      by_cases c1 : mrErr ms = 0
      · rw [if_pos c1, if_pos c1]
        exact ephemerisref1_CalendarError_l0 l hl n e c ms l.length 0 k (by omega) (by omega)
      · rw [if_neg c1, if_neg c1]
  unfold ephemerisref1_CalendarError.f crErr
  rw [ephemerisref1_Name_f _ _ (by omega), Option.bind_some, ephemerisref1_Day_f, ephemerisref1_In_f, Option.bind_some, Option.bind_some, hj, hj]
  by_cases c0 : isName n = true
  · rw [if_pos c0, if_pos c0]
    by_cases c1 : -4000000 ≤ e ∧ e ≤ 4000000
    · rw [if_pos (decide_eq_true c1)]
      by_cases c2 : 1 ≤ c ∧ c ≤ 3000
      · rw [decide_eq_true c2, if_neg (show ¬ ((!true) = true) from by decide), if_pos (show (-4000000 ≤ e ∧ e ≤ 4000000) ∧ (1 ≤ c ∧ c ≤ 3000) from ⟨c1, c2⟩)]
      · rw [decide_eq_false c2, if_pos (show (!false) = true from rfl), if_neg (fun h => c2 h.2)]
    · rw [if_neg (by simpa using c1), if_pos rfl, if_neg (fun h => c1 h.1)]
  · rw [if_neg c0, if_neg c0]

theorem ephemerisref1_yes_f (b : Bool) : ephemerisref1_yes.f b = some (if b = true then 1 else 0) := by unfold ephemerisref1_yes.f; split <;> rfl

theorem moFrom_eq : ∀ (l : List S125) (a b : Int) (p q : Bool) (s : List (List UInt8)), 0 ≤ a → 0 ≤ b → (p = true ↔ 0 < a) → (q = true ↔ 0 < b) → moFrom a b s l = mrFrom p q s l
  | [], a, b, p, q, s, ha, hb, hp, hq => by
    unfold moFrom mrFrom
    by_cases c : a = 0
    · rw [if_pos c, if_neg (fun h => by have := hp.1 h; omega)]
    · rw [if_neg c, if_pos (hp.2 (by omega))]
      by_cases d : b = 0
      · rw [if_pos d, if_neg (fun h => by have := hq.1 h; omega)]
      · rw [if_neg d, if_pos (hq.2 (by omega))]
  | m :: t, a, b, p, q, s, ha, hb, hp, hq => by
    unfold moFrom mrFrom
    by_cases c : (0 ≤ m.f1 ∧ m.f1 ≤ 400) ∧ (0 ≤ m.f2 ∧ m.f2 ≤ 400)
    · rw [if_pos c, if_pos c, moFrom_eq t (a + m.f1) (b + m.f2) (p || decide (m.f1 > 0)) (q || decide (m.f2 > 0)) (s ++ [m.f0.toList]) (by omega) (by omega)
        (by rw [Bool.or_eq_true, hp, decide_eq_true_eq]; omega) (by rw [Bool.or_eq_true, hq, decide_eq_true_eq]; omega)]
    · rw [if_neg c, if_neg c]
theorem moErr_eq (l : List S125) : moErr l = mrErr l := by
  unfold moErr mrErr
  rw [moFrom_eq l 0 0 false false [] (by omega) (by omega) (by simp) (by simp)]
theorem lpFrom_eq (c : Int) : ∀ (l : List Int) (p : Int) (q : Option Int), (∀ x, 1 ≤ x → (x ≤ p ↔ ∃ r, q = some r ∧ r ≥ x)) → lpFrom c p l = clFrom c q l
  | [], _, _, _ => rfl
  | x :: t, p, q, h => by
    unfold lpFrom clFrom
    by_cases c1 : 1 ≤ x ∧ x ≤ c
    · rw [if_pos c1, if_pos c1]
      by_cases c2 : x ≤ p
      · rw [if_pos c2, if_pos ((h x c1.1).1 c2)]
      · rw [if_neg c2, if_neg (fun g => c2 ((h x c1.1).2 g))]
        exact lpFrom_eq c t x (some x) (fun y _ => ⟨fun g => ⟨x, rfl, g⟩, fun ⟨r, e, g⟩ => by cases e; exact g⟩)
    · rw [if_neg c1, if_neg c1]
theorem calErr_eq (n : ByteArray) (e c : Int) (ms : List S125) (l : List Int) : calErr n e c ms l = crErr n e c ms l := by
  unfold calErr crErr
  rw [moErr_eq, lpFrom_eq c l 0 none (fun x hx => ⟨fun h => by omega, fun ⟨r, h, _⟩ => by cases h⟩)]

theorem Apart_l2 (n : ByteArray) (e c : Int) (ms : List S125) (l : List Int) (ok : OkCal e c ms l) : ∀ (d i k : Nat), (i : Int) + d = c → d < k →
    ephemerisref1_Apart.l2 k (leapList c l) ((leapList c l).length : Int) (i : Int) n e c ms l (leapList c l) (shortSum ms) (longSum ms) (sumY (shortSum ms) (longSum ms) l i) =
      some (n, e, c, ms, l, leapList c l, shortSum ms, longSum ms, sumY (shortSum ms) (longSum ms) l c.toNat) := by
  have hl := leapList_len c l
  have hc := ok.cy; have hs := ok.sp; have hb := ok.lp
  intro d
  induction d with
  | zero =>
    intro i k hi hk
    obtain ⟨k, rfl⟩ : ∃ m, k = m + 1 := ⟨k - 1, by omega⟩
    simp only [ephemerisref1_Apart.l2]
    rw [if_neg (by omega), show c.toNat = i from by omega]
  | succ d ih =>
    intro i k hi hk
    obtain ⟨k, rfl⟩ : ∃ m, k = m + 1 := ⟨k - 1, by omega⟩
    have ih := ih (i + 1) k (by omega) (by omega)
    have hbd := sumY_bound (s := shortSum ms) (b := longSum ms) (l := l) (by omega) (by omega) (by omega) (by omega) i
    simp only [ephemerisref1_Apart.l2]
    rw [if_pos (by omega), if_pos (by omega), if_pos (by omega), leapList_at c l i (by omega) (by omega), ephemerisref1_yes_f, Option.bind_some, w64_id (n := (i : Int) + 1) (by omega) (by omega)]
    rw [show ((i + 1 : Nat) : Int) = (i : Int) + 1 from by omega, sumY] at ih
    by_cases hm : (i : Int) + 1 ∈ l
    · rw [if_pos hm] at ih
      rw [decide_eq_true hm, if_pos (show true = true from rfl), if_neg (by decide), if_pos rfl, w64_id (n := _ + longSum ms) (by omega) (by omega)]
      exact ih
    · rw [if_neg hm] at ih
      rw [decide_eq_false hm, if_neg Bool.false_ne_true, if_pos rfl, w64_id (n := _ + shortSum ms) (by omega) (by omega)]
      exact ih
theorem Apart_l1 (n : ByteArray) (e c : Int) (ms : List S125) (l : List Int) (ok : OkCal e c ms l) : ∀ (d i k : Nat) (a b : Int), i + d = ms.length → d + 3010 < k → 0 ≤ a → a ≤ 400 * i → 0 ≤ b → b ≤ 400 * i →
    a + shortSum (ms.drop i) = shortSum ms → b + longSum (ms.drop i) = longSum ms →
    ephemerisref1_Apart.l1 k ms (ms.length : Int) (i : Int) n e c ms l (leapList c l) a b 0 =
      some (n, e, c, ms, l, leapList c l, shortSum ms, longSum ms, sumY (shortSum ms) (longSum ms) l c.toNat) := by
  have hlen := ok.len
  intro d
  induction d with
  | zero =>
    intro i k a b hi hk a0 a1 b0 b1 ha hb
    obtain ⟨k, rfl⟩ : ∃ m, k = m + 1 := ⟨k - 1, by omega⟩
    simp only [ephemerisref1_Apart.l1]
    rw [List.drop_of_length_le (by omega)] at ha hb
    rw [if_neg (by omega), show a = shortSum ms from by simpa [shortSum] using ha, show b = longSum ms from by simpa [longSum] using hb]
    exact Apart_l2 n e c ms l ok c.toNat 0 k (by have := ok.cy; omega) (by have := ok.cy; omega)
  | succ d ih =>
    intro i k a b hi hk a0 a1 b0 b1 ha hb
    obtain ⟨k, rfl⟩ : ∃ m, k = m + 1 := ⟨k - 1, by omega⟩
    have hlt : i < ms.length := by omega
    have hm := ok.mo ms[i] (List.getElem_mem hlt)
    simp only [ephemerisref1_Apart.l1]
    rw [List.drop_eq_getElem_cons hlt, shortSum_cons] at ha
    rw [List.drop_eq_getElem_cons hlt, longSum_cons] at hb
    rw [if_pos (by omega), if_pos (by omega), if_pos (by omega), mo_at ms i hlt, w64_id (n := a + ms[i].f1) (by omega) (by omega), w64_id (n := b + ms[i].f2) (by omega) (by omega), w64_id (n := (i : Int) + 1) (by omega) (by omega)]
    have := ih (i + 1) k (a + ms[i].f1) (b + ms[i].f2) (by omega) (by omega) (by omega) (by omega) (by omega) (by omega) (by omega) (by omega)
    rw [show ((i + 1 : Nat) : Int) = (i : Int) + 1 from by omega] at this
    exact this
theorem Apart_l0 (n : ByteArray) (e c : Int) (ms : List S125) (l : List Int) (ok : OkCal e c ms l) : ∀ (d i k : Nat), i + d = l.length → d + 3100 < k →
    ephemerisref1_Apart.l0 k l (l.length : Int) (i : Int) n e c ms l n e c ms l (leapList c (l.take i)) 0 0 0 =
      some (n, e, c, ms, l, leapList c l, shortSum ms, longSum ms, sumY (shortSum ms) (longSum ms) l c.toNat) := by
  have hc := ok.cy
  have hll := ok.llen
  intro d
  induction d with
  | zero =>
    intro i k hi hk
    obtain ⟨k, rfl⟩ : ∃ m, k = m + 1 := ⟨k - 1, by omega⟩
    simp only [ephemerisref1_Apart.l0]
    rw [if_neg (by omega), List.take_of_length_le (by omega)]
    exact Apart_l1 n e c ms l ok ms.length 0 k 0 0 (by omega) (by have := ok.len; omega) (by omega) (by omega) (by omega) (by omega) (by simp) (by simp)
  | succ d ih =>
    intro i k hi hk
    obtain ⟨k, rfl⟩ : ∃ m, k = m + 1 := ⟨k - 1, by omega⟩
    have hlt : i < l.length := by omega
    have h0 := ok.lo l[i] (List.getElem_mem hlt)
    have h1 := ok.hi l[i] (List.getElem_mem hlt)
    have hl := leapList_len c (l.take i)
    simp only [ephemerisref1_Apart.l0]
    rw [if_pos (by omega), if_pos (by omega), if_pos (by omega), rd_get l i hlt, w64_id (n := l[i] - 1) (by omega) (by omega), if_pos (by omega), if_pos (by omega), leapList_set c (l.take i) l[i] h0 h1, take_snoc' l i hlt, w64_id (n := (i : Int) + 1) (by omega) (by omega)]
    exact ih (i + 1) k (by omega) (by omega)
theorem ephemerisref1_Apart_f (n : ByteArray) (e c : Int) (ms : List S125) (l : List Int) (ok : OkCal e c ms l) (k : Nat) (hk : 7000 ≤ k) :
    ephemerisref1_Apart.f k n e c ms l = some (n, e, c, ms, l, leapList c l, shortSum ms, longSum ms, sumY (shortSum ms) (longSum ms) l c.toNat) := by
  have hc := ok.cy
  have hll := ok.llen
  unfold ephemerisref1_Apart.f
  rw [if_pos (by omega), if_pos (by omega), ← leapList_nil]
  exact Apart_l0 n e c ms l ok l.length 0 k (by omega) (by omega)

theorem ephemerisref1_Size_f {a : Int} (h0 : -9223372036854775808 ≤ a) (h1 : a ≤ 9223372036854775807) : ephemerisref1_Size.f a = some (ab a) := by
  unfold ephemerisref1_Size.f ab
  by_cases c : a < 0
  · rw [if_pos c, if_pos c, w64_id (n := a + 1) (by omega) (by omega), w64_id (n := -(a + 1)) (by omega) (by omega), u64_id (n := -(a + 1)) (by omega) (by omega), u64_id (by omega) (by omega)]
    congr 1; omega
  · rw [if_neg c, if_neg c, u64_id (by omega) (by omega)]

theorem ephemerisref1_Div_l0 (X Y : Int) (hX : 0 ≤ X) (hX1 : X < 18446744073709551616) (hY : 0 < Y) (hY1 : Y ≤ 9223372036854775808) :
    ∀ (n k : Nat), n ≤ 64 → n < k → ephemerisref1_Div.l0 k X Y (X / 2 ^ n / Y * 2 ^ n) (X / 2 ^ n % Y) ((n : Int) - 1) = some (X / Y, X % Y) := by
  intro n
  induction n with
  | zero =>
    intro k _ hk
    obtain ⟨k, rfl⟩ : ∃ m, k = m + 1 := ⟨k - 1, by omega⟩
    simp only [ephemerisref1_Div.l0]
    rw [if_neg (by omega)]
    simp
  | succ n ih =>
    intro k hn hk
    obtain ⟨k, rfl⟩ : ∃ m, k = m + 1 := ⟨k - 1, by omega⟩
    have ih := ih k (by omega) (by omega)
    have hhp := half_pow X n
    have hpow : (2 : Int) ^ (n + 1) = 2 * 2 ^ n := by rw [Int.pow_succ, Int.mul_comm]
    have hpp := pow_pos' n
    have hp63 := pow_le_63 n (by omega)
    have hd1 := div_pow_le X Y (n + 1) hX hY
    have hd0 := div_pow_le X Y n hX hY
    have hz : 0 ≤ X / 2 ^ n := Int.ediv_nonneg hX (by omega)
    obtain ⟨s1, s2⟩ := long_step (X / 2 ^ n) Y hz hY
    rw [← hhp] at s1 s2
    have r0 := Int.emod_nonneg (X / 2 ^ (n + 1)) (b := Y) (by omega)
    have r1 := Int.emod_lt_of_pos (X / 2 ^ (n + 1)) hY
    have hshr : shr .u64 X ((n : Int) + 1 - 1) = X / 2 ^ n := by
      rw [show (n : Int) + 1 - 1 = n from by omega]; exact shr_pow X n (by omega)
    have hshl : shl .u64 1 ((n : Int) + 1 - 1) = 2 ^ n := by
      rw [show (n : Int) + 1 - 1 = n from by omega]; exact shl_one n (by omega)
    have hzx : X / 2 ^ n ≤ X := Int.ediv_le_self _ hX
    have hmod : (X / 2 ^ (n + 1) / Y * 2 ^ (n + 1)) % 2 ^ (n + 1) = 0 := Int.mul_emod_left _ _
    have hor : Go.bits .or .u64 (X / 2 ^ (n + 1) / Y * 2 ^ (n + 1)) (2 ^ n) = X / 2 ^ (n + 1) / Y * 2 ^ (n + 1) + 2 ^ n :=
      or_join (n + 1) _ _ hd1.1 (by omega) hmod (by omega) (by omega) (by omega)
    have q2 : X / 2 ^ (n + 1) / Y * 2 ^ (n + 1) = 2 * (X / 2 ^ (n + 1) / Y) * 2 ^ n := by
      rw [hpow, Int.mul_comm 2 (X / (2 * 2 ^ n) / Y), Int.mul_assoc]
    generalize hR : X / 2 ^ (n + 1) % Y = R at *
    generalize hQ : X / 2 ^ (n + 1) / Y * 2 ^ (n + 1) = Q at *
    simp only [ephemerisref1_Div.l0]
    rw [show (((n + 1 : Nat) : Int) - 1) = (n : Int) + 1 - 1 from by omega]
    rw [if_pos (by omega), hshr, hshl, hor, w64_id (n := (n : Int) + 1 - 1 - 1) (by omega) (by omega), show (n : Int) + 1 - 1 - 1 = (n : Int) - 1 from by omega]
    rw [and_one _ hz (by omega), u64_id (n := R * 2) (by omega) (by omega)]
    have hbit := Int.emod_nonneg (X / 2 ^ n) (b := 2) (by omega)
    have hbit1 := Int.emod_lt_of_pos (X / 2 ^ n) (b := 2) (by omega)
    rw [or_join 1 (R * 2) _ (by omega) (by omega) (by simp only [Int.reducePow]; omega) hbit (by simp only [Int.reducePow]; omega) (by omega)]
    rw [if_neg (by omega)]
    rw [show R * 2 + X / 2 ^ n % 2 = 2 * R + X / 2 ^ n % 2 from by omega]
    by_cases c : Y ≤ 2 * R + X / 2 ^ n % 2
    · rw [if_pos c, u64_id (by omega) (by omega)]
      have e := s1 c
      rw [e.1, e.2, Int.add_mul, Int.one_mul, ← q2] at ih
      exact ih
    · rw [if_neg c]
      have e := s2 c
      rw [e.1, e.2, ← q2] at ih
      exact ih
theorem ephemerisref1_Div_f {a b : Int} (k : Nat) (hk : 65 ≤ k) (ha : -9223372036854775808 ≤ a) (ha1 : a ≤ 9223372036854775807) (hb : -9223372036854775808 ≤ b) (hb1 : b ≤ 9223372036854775807) : ephemerisref1_Div.f k a b = some (divs a b) := by
  unfold ephemerisref1_Div.f
  by_cases c : b = 0
  · rw [if_pos c]; unfold divs; rw [if_pos c]
  rw [if_neg c, ephemerisref1_Size_f ha ha1, ephemerisref1_Size_f hb hb1]
  simp only [Option.bind_some]
  have hX := ab_nonneg a
  have hX1 := ab_le ha ha1
  have hY1 := ab_le hb hb1
  have hY : 0 < ab b := by unfold ab; split <;> omega
  have h64 := ephemerisref1_Div_l0 (ab a) (ab b) hX (by omega) hY hY1 64 k (by omega) (by omega)
  have hz : ab a / 2 ^ 64 = 0 := Int.ediv_eq_zero_of_lt hX (by simp only [Int.reducePow]; omega)
  rw [hz] at h64
  simp only [Int.zero_ediv, Int.zero_mul, Int.zero_emod] at h64
  rw [show (((64 : Nat) : Int) - 1) = 63 from by omega] at h64
  rw [h64]
  simp only [Option.bind_some, Option.some.injEq]
  have h1 := Int.mul_ediv_add_emod (ab a) (ab b)
  have h2 := Int.emod_nonneg (ab a) (b := ab b) (by omega)
  have h3 := Int.emod_lt_of_pos (ab a) hY
  have h4 : ab a / ab b ≤ ab a := Int.ediv_le_self _ hX
  have h5 : 0 ≤ ab a / ab b := Int.ediv_nonneg hX (by omega)
  have h6 : 2 ≤ ab b → ab a / ab b ≤ 4611686018427387904 := fun h => by
    have : ab a / ab b ≤ ab a / 2 := by
      have := Int.ediv_le_ediv (c := 2) (by omega) (a := ab a / ab b * 2) (b := ab a) (by
        have : ab a / ab b * 2 ≤ ab a / ab b * ab b := Int.mul_le_mul_of_nonneg_left h h5
        rw [Int.mul_comm (ab b)] at h1
        omega)
      omega
    omega
  have h7 : ab b = 1 → ab a / ab b = ab a ∧ ab a % ab b = 0 := fun h => by rw [h]; omega
  have uniq : ∀ {q r : Int}, a = b * q + r → (0 < b → 0 ≤ r ∧ r < b) → (b < 0 → b < r ∧ r ≤ 0) → ¬ (a = -9223372036854775808 ∧ b = -1) → divs a b = (q, r, 0) := by
    intro q r e1 e2 e3 e4
    have := fd_uniq e1 e2 e3 c
    unfold divs
    rw [if_neg c, if_neg e4, this.1, this.2]
  generalize hq : ab a / ab b = q at *
  generalize hr : ab a % ab b = r at *
  clear h64 hz
  have eY : ∀ s : Int, (-(ab b)) * s = -(ab b * s) := fun s => by rw [Int.neg_mul]
  by_cases sa : a < 0 <;> by_cases sb : b < 0
  · have xa : a = -(ab a) := by unfold ab; rw [if_pos sa]; omega
    have xb : b = -(ab b) := by unfold ab; rw [if_pos sb]; omega
    simp only [ephemerisref1_Div.e0, ephemerisref1_Div.e1, sa, sb, decide_true, bne_self_eq_false, Bool.false_eq_true, false_and, if_false, true_and, if_true]
    by_cases c2 : q > 9223372036854775807
    · rw [if_pos c2]
      unfold divs
      have : ab b = 1 := by
        by_cases h : 2 ≤ ab b
        · have := h6 h; omega
        · omega
      rw [if_neg c, if_pos (by omega)]
    · rw [if_neg c2, w64_id (by omega) (by omega), u64_def, w64_def]
      rw [uniq (q := q) (r := -r) (by rw [xb, eY]; omega) (by omega) (by omega) (fun h => by have := h7 (by omega); omega)]
      congr 2; omega
  · have xa : a = -(ab a) := by unfold ab; rw [if_pos sa]; omega
    have xb : b = ab b := by unfold ab; rw [if_neg sb]
    simp only [ephemerisref1_Div.e0, ephemerisref1_Div.e1, sa, sb, decide_true, decide_false, Bool.bne_false, Bool.false_eq_true, true_and, if_true, Bool.true_eq_false, false_and, if_false]
    by_cases c2 : r = 0
    · rw [if_neg (fun h => h c2), u64_def, w64_def, w64_id (by omega) (by omega)]
      rw [uniq (q := -q) (r := 0) (by rw [xb, Int.mul_neg]; omega) (by omega) (by omega) (by omega)]
      rw [c2]
      congr 1; omega
    · rw [if_pos c2, u64_id (n := q + 1) (by omega) (by omega), u64_id (n := ab b - r) (by omega) (by omega), u64_def, w64_def, w64_id (by omega) (by omega)]
      have : q ≤ 9223372036854775807 := by
        by_cases h : 2 ≤ ab b
        · have := h6 h; omega
        · have := h7 (by omega); omega
      have eb : b * q = ab b * q := by rw [← xb]
      rw [uniq (q := -(q + 1)) (r := ab b - r) (by rw [Int.mul_neg, Int.mul_add, Int.mul_one, eb]; omega) (by omega) (by omega) (by omega)]
      congr 1; omega
  · have xa : a = ab a := by unfold ab; rw [if_neg sa]
    have xb : b = -(ab b) := by unfold ab; rw [if_pos sb]; omega
    simp only [ephemerisref1_Div.e0, ephemerisref1_Div.e1, sa, sb, decide_true, decide_false, Bool.bne_true, Bool.not_false, Bool.false_eq_true, true_and, if_true, Bool.true_eq_false, false_and, if_false]
    by_cases c2 : r = 0
    · rw [if_neg (fun h => h c2), u64_def, w64_def, u64_def, w64_def]
      rw [uniq (q := -q) (r := 0) (by rw [xb, eY, Int.mul_neg]; omega) (by omega) (by omega) (by omega)]
      rw [c2]
      congr 1
      omega
    · rw [if_pos c2, u64_id (n := q + 1) (by omega) (by omega), u64_id (n := ab b - r) (by omega) (by omega), u64_def, w64_def, u64_def, w64_def]
      have eb := eY q
      rw [← xb] at eb
      rw [uniq (q := -(q + 1)) (r := -(ab b - r)) (by rw [Int.mul_neg, Int.mul_add, Int.mul_one, eb]; omega) (by omega) (by omega) (by omega)]
      congr 1
      · omega
      · congr 1; omega
  · have xa : a = ab a := by unfold ab; rw [if_neg sa]
    have xb : b = ab b := by unfold ab; rw [if_neg sb]
    simp only [ephemerisref1_Div.e0, ephemerisref1_Div.e1, sa, sb, decide_false, bne_self_eq_false, Bool.false_eq_true, false_and, if_false, true_and]
    rw [if_neg (by omega), w64_id (by omega) (by omega), w64_id (by omega) (by omega)]
    rw [uniq (q := q) (r := r) (by rw [xb]; omega) (by omega) (by omega) (by omega)]

theorem ephemerisref1_Mod_f {a b : Int} (k : Nat) (hk : 65 ≤ k) (ha : -9223372036854775808 ≤ a) (ha1 : a ≤ 9223372036854775807) (hb : 0 < b) (hb1 : b ≤ 9223372036854775807) : ephemerisref1_Mod.f k a b = some (a % b) := by
  unfold ephemerisref1_Mod.f
  rw [ephemerisref1_Div_f k hk ha ha1 (by omega) hb1, divs_pos hb]
  rfl

theorem ephemerisref1_Years_IsLeap_f (n : ByteArray) (e c : Int) (ms : List S125) (l : List Int) (s b t y : Int) (hc : 1 ≤ c ∧ c ≤ 3000) (hy : -1000000000 ≤ y ∧ y ≤ 1000000000) (k : Nat) (hk : 70 ≤ k) :
    ephemerisref1_Years_IsLeap.f k n e c ms l (leapList c l) s b t y = some (isLeapY c l y) := by
  unfold ephemerisref1_Years_IsLeap.f
  have h0 := Int.emod_nonneg (y - 1) (b := c) (by omega)
  have h1 := Int.emod_lt_of_pos (y - 1) (b := c) (by omega)
  rw [w64_id (n := y - 1) (by omega) (by omega), ephemerisref1_Mod_f k (by omega) (by omega) (by omega) (by omega) (by omega), Option.bind_some, if_pos h0, if_pos (by rw [leapList_len]; omega), leapList_at c l _ h0 h1]
  rfl

theorem ephemerisref1_Years_Month_f {n : ByteArray} {e c : Int} {ms : List S125} {l : List Int} (ok : OkCal e c ms l) (s b t y m : Int) (hy : -30000 ≤ y ∧ y ≤ 30000) (hm : 1 ≤ m ∧ m ≤ ms.length) (k : Nat) (hk : 80 ≤ k) :
    ephemerisref1_Years_Month.f k n e c ms l (leapList c l) s b t y m = some (monL ms (isLeapY c l y) m) := by
  have hl := ok.len
  unfold ephemerisref1_Years_Month.f monL
  rw [ephemerisref1_Years_IsLeap_f n e c ms l s b t y ok.cy (by omega) k (by omega), Option.bind_some, w64_id (n := m - 1) (by omega) (by omega), if_pos (show 0 ≤ m - 1 by omega), if_pos (show m - 1 < (ms.length : Int) by omega)]
  by_cases h : isLeapY c l y = true
  · rw [if_pos h, if_pos h]
  · rw [if_neg h, if_neg h, if_pos (show 0 ≤ m - 1 by omega), if_pos (show m - 1 < (ms.length : Int) by omega)]

theorem ephemerisref1_Floor_f {a b : Int} (k : Nat) (hk : 65 ≤ k) (ha : -9223372036854775808 ≤ a) (ha1 : a ≤ 9223372036854775807) (hb : 0 < b) (hb1 : b ≤ 9223372036854775807) : ephemerisref1_Floor.f k a b = some (a / b) := by
  unfold ephemerisref1_Floor.f
  rw [ephemerisref1_Div_f k hk ha ha1 (by omega) hb1, divs_pos hb]
  rfl

theorem ephemerisref1_Years_Length_f (n : ByteArray) (e c : Int) (ms : List S125) (l : List Int) (s b t y : Int) (hc : 1 ≤ c ∧ c ≤ 3000) (hy : -1000000000 ≤ y ∧ y ≤ 1000000000) (k : Nat) (hk : 70 ≤ k) :
    ephemerisref1_Years_Length.f k n e c ms l (leapList c l) s b t y = some (if isLeapY c l y = true then b else s) := by
  unfold ephemerisref1_Years_Length.f
  rw [ephemerisref1_Years_IsLeap_f n e c ms l s b t y hc hy k hk, Option.bind_some, ephemerisref1_yes_f, Option.bind_some]
  by_cases h : isLeapY c l y = true
  · rw [if_pos h, if_neg (by decide), if_pos rfl, if_pos h]
  · rw [if_neg h, if_pos rfl, if_neg h]

theorem Years_FromDay_l1 {n : ByteArray} {e c : Int} {ms : List S125} {l : List Int} (ok : OkCal e c ms l) (s s2 t y rest : Int) (hy : -30000 ≤ y ∧ y ≤ 30000) (hr : 0 ≤ rest) (hr2 : rest < yearLen c ms l y) : ∀ (f j k : Nat), j + f + 1 = ms.length → f + 100 < k → monSum ms (isLeapY c l y) j ≤ rest →
    ∃ m, inMonth ms (isLeapY c l y) rest m ∧ ephemerisref1_Years_FromDay.l1 k y (rest - monSum ms (isLeapY c l y) j) ((j : Int) + 1) n e c ms l (leapList c l) s s2 t = some (y, m, rest - monSum ms (isLeapY c l y) (m - 1).toNat + 1, 0) := by
  have hl := ok.len
  have hyl := yearLen_bound ok y
  intro f
  induction f with
  | zero =>
    intro j k hj hk hlow
    obtain ⟨k, rfl⟩ : ∃ m, k = m + 1 := ⟨k - 1, by omega⟩
    have hall := monSum_year ok y
    rw [show ms.length = j + 1 from by omega, monSum] at hall
    have h1 := monSum_bound ok.mo (isLeapY c l y) j (by omega)
    refine ⟨(j : Int) + 1, ⟨by omega, by rw [show ((j : Int) + 1 - 1).toNat = j from by omega]; exact hlow, by rw [show ((j : Int) + 1).toNat = j + 1 from by omega, monSum]; omega⟩, ?_⟩
    simp only [ephemerisref1_Years_FromDay.l1]
    rw [ephemerisref1_Years_Month_f ok s s2 t y _ hy (by omega) k (by omega), Option.bind_some, if_neg (by omega), show ((j : Int) + 1 - 1).toNat = j from by omega, w64_id (by omega) (by omega)]
  | succ f ih =>
    intro j k hj hk hlow
    obtain ⟨k, rfl⟩ : ∃ m, k = m + 1 := ⟨k - 1, by omega⟩
    have h1 := monSum_bound ok.mo (isLeapY c l y) j (by omega)
    have h2 := monL_bound ok.mo (isLeapY c l y) (m := (j : Int) + 1) (by omega) (by omega)
    by_cases h : rest - monSum ms (isLeapY c l y) j ≥ monL ms (isLeapY c l y) ((j : Int) + 1)
    · obtain ⟨m, hm, e1⟩ := ih (j + 1) k (by omega) (by omega) (by rw [monSum]; omega)
      refine ⟨m, hm, ?_⟩
      rw [monSum, show ((j + 1 : Nat) : Int) = (j : Int) + 1 from by omega] at e1
      simp only [ephemerisref1_Years_FromDay.l1]
      rw [ephemerisref1_Years_Month_f ok s s2 t y _ hy (by omega) k (by omega), Option.bind_some, if_pos h, Option.bind_some, w64_id (n := _ - monL _ _ _) (by omega) (by omega), w64_id (n := (j : Int) + 1 + 1) (by omega) (by omega), ← e1]
      congr 1; omega
    · refine ⟨(j : Int) + 1, ⟨by omega, by rw [show ((j : Int) + 1 - 1).toNat = j from by omega]; exact hlow, by rw [show ((j : Int) + 1).toNat = j + 1 from by omega, monSum]; omega⟩, ?_⟩
      simp only [ephemerisref1_Years_FromDay.l1]
      rw [ephemerisref1_Years_Month_f ok s s2 t y _ hy (by omega) k (by omega), Option.bind_some, if_neg h, show ((j : Int) + 1 - 1).toNat = j from by omega, w64_id (by omega) (by omega)]
theorem Years_FromDay_l0 {n : ByteArray} {e c : Int} {ms : List S125} {l : List Int} (ok : OkCal e c ms l) (t day : Int) (hd : -4000000 ≤ day ∧ day ≤ 4000000) : ∀ (f k : Nat) (y : Int), day - nyD e c ms l y ≤ f → f + 200 < k → nyD e c ms l y ≤ day → -100000000 ≤ y → y + f ≤ 100000000 → (f : Int) ≤ 50000000 →
    ∃ y', inYear e c ms l day y' ∧ ((¬ (-10000 ≤ y' ∧ y' ≤ 10000) ∧ ephemerisref1_Years_FromDay.l0 k y (day - nyD e c ms l y) n e c ms l (leapList c l) (shortSum ms) (longSum ms) t = some (0, 0, 0, 3)) ∨
      ((-10000 ≤ y' ∧ y' ≤ 10000) ∧ ∃ m, inMonth ms (isLeapY c l y') (day - nyD e c ms l y') m ∧ ephemerisref1_Years_FromDay.l0 k y (day - nyD e c ms l y) n e c ms l (leapList c l) (shortSum ms) (longSum ms) t = some (y', m, day - nyD e c ms l y' - monSum ms (isLeapY c l y') (m - 1).toNat + 1, 0))) := by
  have hl := ok.len
  have fin : ∀ (k : Nat) (y : Int), 150 < k → nyD e c ms l y ≤ day → -100000000 ≤ y → y ≤ 100000000 → day < nyD e c ms l (y + 1) → ∃ y', inYear e c ms l day y' ∧ ((¬ (-10000 ≤ y' ∧ y' ≤ 10000) ∧ ephemerisref1_Years_FromDay.l0 k y (day - nyD e c ms l y) n e c ms l (leapList c l) (shortSum ms) (longSum ms) t = some (0, 0, 0, 3)) ∨
      ((-10000 ≤ y' ∧ y' ≤ 10000) ∧ ∃ m, inMonth ms (isLeapY c l y') (day - nyD e c ms l y') m ∧ ephemerisref1_Years_FromDay.l0 k y (day - nyD e c ms l y) n e c ms l (leapList c l) (shortSum ms) (longSum ms) t = some (y', m, day - nyD e c ms l y' - monSum ms (isLeapY c l y') (m - 1).toNat + 1, 0))) := by
    intro k y hk h1 h2 h3 h4
    obtain ⟨k, rfl⟩ : ∃ m, k = m + 1 := ⟨k - 1, by omega⟩
    have hs := nyD_succ ok y
    have hyl := yearLen_bound ok y
    refine ⟨y, ⟨h1, h4⟩, ?_⟩
    have e0 : ephemerisref1_Years_FromDay.l0 (k + 1) y (day - nyD e c ms l y) n e c ms l (leapList c l) (shortSum ms) (longSum ms) t = if -10000 ≤ y ∧ y ≤ 10000 then ephemerisref1_Years_FromDay.l1 k y (day - nyD e c ms l y) 1 n e c ms l (leapList c l) (shortSum ms) (longSum ms) t else some (0, 0, 0, 3) := by
      conv => lhs; unfold ephemerisref1_Years_FromDay.l0
      rw [ephemerisref1_Years_Length_f n e c ms l _ _ t y ok.cy (by omega) k (by omega), Option.bind_some, show (if isLeapY c l y = true then longSum ms else shortSum ms) = yearLen c ms l y from rfl, if_neg (by omega), ephemerisref1_In_f, Option.bind_some]
      by_cases c1 : -10000 ≤ y ∧ y ≤ 10000
      · rw [if_pos (decide_eq_true c1), if_pos c1]
      · rw [if_neg (by simpa using c1), if_neg c1]
    by_cases c1 : -10000 ≤ y ∧ y ≤ 10000
    · right
      refine ⟨c1, ?_⟩
      obtain ⟨m, hm, e1⟩ := Years_FromDay_l1 (n := n) ok (shortSum ms) (longSum ms) t y (day - nyD e c ms l y) (by omega) (by omega) (by omega) (ms.length - 1) 0 k (by omega) (by omega) (by simp [monSum]; omega)
      rw [show monSum ms (isLeapY c l y) 0 = 0 from rfl, Int.sub_zero] at e1
      exact ⟨m, hm, by rw [e0, if_pos c1]; exact e1⟩
    · left
      exact ⟨c1, by rw [e0, if_neg c1]⟩
  intro f
  induction f with
  | zero =>
    intro k y h1 h2 h3 h4 h5 h6
    have hs := nyD_succ ok y
    have hyl := yearLen_bound ok y
    exact fin k y (by omega) h3 h4 (by omega) (by omega)
  | succ f ih =>
    intro k y h1 h2 h3 h4 h5 h6
    have hs := nyD_succ ok y
    have hyl := yearLen_bound ok y
    by_cases c1 : day < nyD e c ms l (y + 1)
    · exact fin k y (by omega) h3 h4 (by omega) c1
    · obtain ⟨k, rfl⟩ : ∃ m, k = m + 1 := ⟨k - 1, by omega⟩
      have e0 : ephemerisref1_Years_FromDay.l0 (k + 1) y (day - nyD e c ms l y) n e c ms l (leapList c l) (shortSum ms) (longSum ms) t = ephemerisref1_Years_FromDay.l0 k (y + 1) (day - nyD e c ms l (y + 1)) n e c ms l (leapList c l) (shortSum ms) (longSum ms) t := by
        conv => lhs; unfold ephemerisref1_Years_FromDay.l0
        rw [ephemerisref1_Years_Length_f n e c ms l _ _ t y ok.cy (by omega) k (by omega), Option.bind_some, show (if isLeapY c l y = true then longSum ms else shortSum ms) = yearLen c ms l y from rfl, if_pos (by omega), Option.bind_some, w64_id (n := y + 1) (by omega) (by omega), w64_id (n := _ - yearLen _ _ _ _) (by omega) (by omega), hs]
        congr 1; omega
      rw [e0]
      exact ih k (y + 1) (by omega) (by omega) (by omega) (by omega) (by omega) (by omega)
theorem ephemerisref1_Years_FromDay_f {n : ByteArray} {e c : Int} {ms : List S125} {l : List Int} (ok : OkCal e c ms l) (day : Int) (hday : -9223372036854775808 ≤ day ∧ day ≤ 9223372036854775807) (k : Nat) (hk : 60000000 ≤ k) :
    (¬ (-4000000 ≤ day ∧ day ≤ 4000000) ∧ ephemerisref1_Years_FromDay.f k n e c ms l (leapList c l) (shortSum ms) (longSum ms) (sumY (shortSum ms) (longSum ms) l c.toNat) day = some (0, 0, 0, 3)) ∨
    ((-4000000 ≤ day ∧ day ≤ 4000000) ∧ ∃ y', inYear e c ms l day y' ∧ ((¬ (-10000 ≤ y' ∧ y' ≤ 10000) ∧ ephemerisref1_Years_FromDay.f k n e c ms l (leapList c l) (shortSum ms) (longSum ms) (sumY (shortSum ms) (longSum ms) l c.toNat) day = some (0, 0, 0, 3)) ∨
      ((-10000 ≤ y' ∧ y' ≤ 10000) ∧ ∃ m, inMonth ms (isLeapY c l y') (day - nyD e c ms l y') m ∧ ephemerisref1_Years_FromDay.f k n e c ms l (leapList c l) (shortSum ms) (longSum ms) (sumY (shortSum ms) (longSum ms) l c.toNat) day = some (y', m, day - nyD e c ms l y' - monSum ms (isLeapY c l y') (m - 1).toNat + 1, 0)))) := by
  have hc := ok.cy; have he := ok.ep
  have hT := (nyD_bound ok (y := 0) (by omega)).2.2.2.2
  have hTc : c ≤ sumY (shortSum ms) (longSum ms) l c.toNat := by
    have h1 := nyD_lt ok (a := 1) (b := c + 1) (by omega)
    have h2 : nyD e c ms l 1 = e := by unfold nyD; simp [sumY]
    have h3 : nyD e c ms l (c + 1) = e + sumY (shortSum ms) (longSum ms) l c.toNat := by
      unfold nyD
      rw [show c + 1 - 1 = c from by omega, Int.ediv_self (by omega), Int.emod_self]; simp [sumY]
    omega
  unfold ephemerisref1_Years_FromDay.f
  rw [ephemerisref1_Day_f, Option.bind_some]
  by_cases h2 : -4000000 ≤ day ∧ day ≤ 4000000
  rotate_left
  · exact .inl ⟨h2, by rw [if_neg (by simpa using h2)]⟩
  refine .inr ⟨h2, ?_⟩
  rw [if_pos (decide_eq_true h2), w64_id (n := day - e) (by omega) (by omega)]
  have hq := Int.mul_ediv_add_emod (day - e) (sumY (shortSum ms) (longSum ms) l c.toNat)
  have hr0 := Int.emod_nonneg (day - e) (b := sumY (shortSum ms) (longSum ms) l c.toNat) (by omega)
  have hr1 := Int.emod_lt_of_pos (day - e) (b := sumY (shortSum ms) (longSum ms) l c.toNat) (by omega)
  rw [ephemerisref1_Floor_f k (by omega) (by omega) (by omega) (by omega) (by omega), Option.bind_some]
  generalize hqq : (day - e) / sumY (shortSum ms) (longSum ms) l c.toNat = q at *
  generalize hrr : (day - e) % sumY (shortSum ms) (longSum ms) l c.toNat = r at *
  rw [Int.mul_comm] at hq
  have hny : nyD e c ms l (1 + q * c) = e + q * sumY (shortSum ms) (longSum ms) l c.toNat := by
    obtain ⟨e3, e4⟩ := ed_uniq (a := 1 + q * c - 1) (b := c) (q := q) (r := 0) (by omega) (by rw [Int.mul_comm c]; omega) (by omega) (by omega)
    conv => lhs; unfold nyD
    rw [e3, e4]; simp [sumY]
  have hqc : -50000000 ≤ q * c ∧ q * c ≤ 10000000 := by
    rcases Int.lt_or_le q 0 with hn | hp
    · have a1 : q * sumY (shortSum ms) (longSum ms) l c.toNat ≤ q * c := Int.mul_le_mul_of_nonpos_left (by omega) hTc
      have a2 : q * c ≤ 0 := Int.mul_nonpos_of_nonpos_of_nonneg (by omega) (by omega)
      omega
    · have a1 : q * c ≤ q * sumY (shortSum ms) (longSum ms) l c.toNat := Int.mul_le_mul_of_nonneg_left hTc hp
      have a2 := Int.mul_nonneg hp (show 0 ≤ c by omega)
      omega
  rw [w64_id (n := q * c) (by omega) (by omega), w64_id (n := 1 + q * c) (by omega) (by omega), w64_id (n := q * sumY _ _ _ _) (by omega) (by omega), w64_id (n := day - e - q * sumY _ _ _ _) (by omega) (by omega), show day - e - q * sumY (shortSum ms) (longSum ms) l c.toNat = day - nyD e c ms l (1 + q * c) from by omega]
  exact Years_FromDay_l0 (n := n) ok _ day h2 r.toNat k (1 + q * c) (by omega) (by omega) (by omega) (by omega) (by omega) (by omega)

theorem Years_NewYear_l0 {n : ByteArray} {e c : Int} {ms : List S125} {l : List Int} (ok : OkCal e c ms l) (t y : Int) (hy : -30000 ≤ y ∧ y ≤ 30000) : ∀ (d k : Nat) (x : Int), x + d = y → -40000 ≤ x → (-30000 ≤ x ∨ True) → d + 100 < k → -900000000000 ≤ nyD e c ms l x ∧ nyD e c ms l x + 8000 * d ≤ 900000000000 →
    ephemerisref1_Years_NewYear.l0 k y (nyD e c ms l x) x n e c ms l (leapList c l) (shortSum ms) (longSum ms) t = some (nyD e c ms l y) := by
  intro d
  induction d with
  | zero =>
    intro k x hx h0 _ hk hb
    obtain ⟨k, rfl⟩ : ∃ m, k = m + 1 := ⟨k - 1, by omega⟩
    simp only [ephemerisref1_Years_NewYear.l0]
    rw [if_neg (by omega), show x = y from by omega]
  | succ d ih =>
    intro k x hx h0 _ hk hb
    obtain ⟨k, rfl⟩ : ∃ m, k = m + 1 := ⟨k - 1, by omega⟩
    have hyl := yearLen_bound ok x
    have hs := nyD_succ ok x
    simp only [ephemerisref1_Years_NewYear.l0]
    rw [if_pos (by omega), ephemerisref1_Years_Length_f n e c ms l _ _ t x ok.cy (by omega) k (by omega), Option.bind_some]
    rw [show (if isLeapY c l x = true then longSum ms else shortSum ms) = yearLen c ms l x from rfl, w64_id (n := nyD e c ms l x + yearLen c ms l x) (by omega) (by omega), w64_id (n := x + 1) (by omega) (by omega), ← hs]
    exact ih k (x + 1) (by omega) (by omega) (.inr trivial) (by omega) (by omega)
theorem ephemerisref1_Years_NewYear_f {n : ByteArray} {e c : Int} {ms : List S125} {l : List Int} (ok : OkCal e c ms l) (y : Int) (hy : -30000 ≤ y ∧ y ≤ 30000) (k : Nat) (hk : 10000 ≤ k) :
    ephemerisref1_Years_NewYear.f k n e c ms l (leapList c l) (shortSum ms) (longSum ms) (sumY (shortSum ms) (longSum ms) l c.toNat) y = some (nyD e c ms l y) := by
  have hc := ok.cy; have he := ok.ep
  obtain ⟨b1, b2, b3, b4, b5⟩ := nyD_bound ok hy
  have hdm := Int.mul_ediv_add_emod (y - 1) c
  rw [Int.mul_comm] at hdm
  obtain ⟨e3, e4⟩ := ed_uniq (a := 1 + (y - 1) / c * c - 1) (b := c) (q := (y - 1) / c) (r := 0) (by omega) (by rw [Int.mul_comm c]; omega) (by omega) (by omega)
  have h0 : nyD e c ms l (1 + (y - 1) / c * c) = e + (y - 1) / c * sumY (shortSum ms) (longSum ms) l c.toNat := by
    conv => lhs; unfold nyD
    rw [e3, e4]; simp [sumY]
  unfold ephemerisref1_Years_NewYear.f
  rw [w64_id (n := y - 1) (by omega) (by omega), ephemerisref1_Floor_f k (by omega) (by omega) (by omega) (by omega) (by omega), Option.bind_some, w64_id (n := (y - 1) / c * sumY _ _ _ _) (by omega) (by omega), w64_id (n := e + _) (by omega) (by omega), w64_id (n := (y - 1) / c * c) (by omega) (by omega), w64_id (n := 1 + _) (by omega) (by omega), ← h0]
  exact Years_NewYear_l0 ok _ y hy ((y - 1) % c).toNat k _ (by omega) (by omega) (.inr trivial) (by omega) (by omega)

theorem Years_ToDay_l0 {n : ByteArray} {e c : Int} {ms : List S125} {l : List Int} (ok : OkCal e c ms l) (s s2 t y m d b : Int) (hy : -30000 ≤ y ∧ y ≤ 30000) (hm : 1 ≤ m ∧ m ≤ ms.length) (hb : -900000000000 ≤ b ∧ b ≤ 900000000000) : ∀ (f j k : Nat), (j : Int) + 1 + f = m → f + 100 < k →
    ephemerisref1_Years_ToDay.l0 k (b + monSum ms (isLeapY c l y) j) ((j : Int) + 1) n e c ms l (leapList c l) s s2 t y m d = some (if -4000000 ≤ b + monSum ms (isLeapY c l y) (m - 1).toNat ∧ b + monSum ms (isLeapY c l y) (m - 1).toNat ≤ 4000000 then (b + monSum ms (isLeapY c l y) (m - 1).toNat, 0) else (0, 3)) := by
  have hl := ok.len
  intro f
  induction f with
  | zero =>
    intro j k hj hk
    obtain ⟨k, rfl⟩ : ∃ m, k = m + 1 := ⟨k - 1, by omega⟩
    simp only [ephemerisref1_Years_ToDay.l0]
    rw [if_neg (by omega), show (m - 1).toNat = j from by omega, ephemerisref1_Day_f, Option.bind_some]
    by_cases h : -4000000 ≤ b + monSum ms (isLeapY c l y) j ∧ b + monSum ms (isLeapY c l y) j ≤ 4000000
    · rw [if_pos (decide_eq_true h), if_pos h]
    · rw [if_neg (by simpa using h), if_neg h]
  | succ f ih =>
    intro j k hj hk
    obtain ⟨k, rfl⟩ : ∃ m, k = m + 1 := ⟨k - 1, by omega⟩
    have h1 := monSum_bound ok.mo (isLeapY c l y) j (by omega)
    have h2 := monL_bound ok.mo (isLeapY c l y) (m := (j : Int) + 1) (by omega) (by omega)
    have ih := ih (j + 1) k (by omega) (by omega)
    rw [monSum, show ((j + 1 : Nat) : Int) = (j : Int) + 1 from by omega, ← Int.add_assoc] at ih
    simp only [ephemerisref1_Years_ToDay.l0]
    rw [if_pos (by omega), ephemerisref1_Years_Month_f ok s s2 t y _ hy (by omega) k (by omega), Option.bind_some, w64_id (n := _ + monL _ _ _) (by omega) (by omega), w64_id (n := (j : Int) + 1 + 1) (by omega) (by omega)]
    exact ih
theorem ephemerisref1_Years_ToDay_f {n : ByteArray} {e c : Int} {ms : List S125} {l : List Int} (ok : OkCal e c ms l) (y m d : Int) (hd : -9223372036854775808 ≤ d ∧ d ≤ 9223372036854775807) (k : Nat) (hk : 20000 ≤ k) :
    ephemerisref1_Years_ToDay.f k n e c ms l (leapList c l) (shortSum ms) (longSum ms) (sumY (shortSum ms) (longSum ms) l c.toNat) y m d = some (toDayD e c ms l y m d) := by
  obtain ⟨k, rfl⟩ : ∃ m, k = m + 1 := ⟨k - 1, by omega⟩
  have hlen := ok.len
  unfold ephemerisref1_Years_ToDay.f toDayD
  rw [ephemerisref1_In_f, ephemerisref1_In_f, Option.bind_some, Option.bind_some]
  by_cases h2 : -10000 ≤ y ∧ y ≤ 10000
  rotate_left
  · rw [if_neg (by simpa using h2), if_neg h2]
  rw [if_pos (decide_eq_true h2), if_pos h2]
  have jt : ephemerisref1_Years_ToDay.j0 (k + 1) true n e c ms l (leapList c l) (shortSum ms) (longSum ms) (sumY (shortSum ms) (longSum ms) l c.toNat) y m d = some (0, 1) := by simp only [ephemerisref1_Years_ToDay.j0, if_true]
  rw [jt]
  by_cases c1 : 1 ≤ m ∧ m ≤ ms.length
  rotate_left
  · rw [if_neg (by simpa using c1), if_neg (fun h => c1 h.1)]
  rw [if_pos (decide_eq_true c1), ephemerisref1_Years_Month_f ok _ _ _ y m (by omega) c1 (k + 1) (by omega), Option.bind_some, ephemerisref1_In_f, Option.bind_some]
  have hml := monL_bound ok.mo (isLeapY c l y) (m := m) (by omega) (by omega)
  by_cases c4 : 1 ≤ d ∧ d ≤ monL ms (isLeapY c l y) m
  rotate_left
  · rw [decide_eq_false c4, Bool.not_false, jt, if_neg (fun h => c4 h.2)]
  rw [decide_eq_true c4, Bool.not_true, if_pos ⟨c1, c4⟩]
  have hr := nyD_range ok (y := y) (by omega)
  simp only [ephemerisref1_Years_ToDay.j0, Bool.false_eq_true, if_false]
  rw [ephemerisref1_Years_NewYear_f ok y (by omega) k (by omega), Option.bind_some, w64_id (n := nyD e c ms l y + d) (by omega) (by omega), w64_id (n := nyD e c ms l y + d - 1) (by omega) (by omega)]
  have := Years_ToDay_l0 (n := n) ok (shortSum ms) (longSum ms) (sumY (shortSum ms) (longSum ms) l c.toNat) y m d (nyD e c ms l y + d - 1) (by omega) (by omega) (by omega) (m - 1).toNat 0 k (by omega) (by omega)
  rw [show monSum ms (isLeapY c l y) 0 = 0 from rfl, Int.add_zero] at this
  exact this

theorem smallM_ok : moErr smallM = 0 := by
  have n2 : isName (⟨#[111, 110, 101]⟩ : ByteArray) = true := by unfold isName noWord; rw [toList_data]; decide
  have n3 : isName (⟨#[116, 119, 111]⟩ : ByteArray) = true := by unfold isName noWord; rw [toList_data]; decide
  unfold moErr smallM
  rw [if_pos (by decide)]
  simp only [moFrom, n2, n3, if_true, toList_data]
  decide
/-- A calendar over the small rule's months. -/
theorem small_cal (e c : Int) (l : List Int) (h : (-4000000 ≤ e ∧ e ≤ 4000000) ∧ (1 ≤ c ∧ c ≤ 3000)) : calErr (⟨#[115, 109, 97, 108, 108]⟩ : ByteArray) e c smallM l = lpFrom c 0 l := by
  have n1 : isName (⟨#[115, 109, 97, 108, 108]⟩ : ByteArray) = true := by unfold isName noWord; rw [toList_data]; decide
  unfold calErr
  rw [if_pos n1, if_pos h, if_pos smallM_ok]

/-- One step by a month in plain words; several steps. -/
def stp (n b : Int) (p : Int × Int) : Int × Int := if p.2 + b > n then (p.1 + 1, 1) else (if p.2 + b < 1 then (p.1 - 1, n) else (p.1, p.2 + b))
def itS (n b : Int) : Nat → Int × Int → Int × Int
  | 0, p => p
  | j + 1, p => itS n b j (stp n b p)
def StOk (n : Int) (p : Int × Int) : Prop := (1 ≤ p.2 ∧ p.2 ≤ n) ∧ (-25000 ≤ p.1 ∧ p.1 ≤ 25000)
def zeroM (c : Int) (ms : List S125) (l : List Int) (p : Int × Int) : Bool := decide ((-10000 ≤ p.1 ∧ p.1 ≤ 10000) ∧ monL ms (isLeapY c l p.1) p.2 = 0)
theorem stp_ok {n b : Int} {p : Int × Int} (hb : b = 1 ∨ b = -1) (h : StOk n p) (hr : -10000 ≤ p.1 ∧ p.1 ≤ 10000) : StOk n (stp n b p) := by
  obtain ⟨h1, h2⟩ := h
  unfold stp
  split
  · exact ⟨⟨by simp only; omega, by simp only; omega⟩, by simp only; omega⟩
  · split
    · exact ⟨⟨by simp only; omega, by simp only; omega⟩, by simp only; omega⟩
    · exact ⟨⟨by simp only; omega, by simp only; omega⟩, by simp only; omega⟩
theorem turn_stp {n b y m : Int} (hb : b = 1 ∨ b = -1) (h : StOk n (y, m)) (hn : n ≤ 1000) : arith_Later.turn n y m b = stp n b (y, m) := by
  obtain ⟨h1, h2⟩ := h
  simp only at h1 h2
  unfold arith_Later.turn stp
  rw [w64_id (n := m + b) (by omega) (by omega), w64_id (n := y + 1) (by omega) (by omega), w64_id (n := y - 1) (by omega) (by omega)]
theorem mv_stp {n b y m : Int} (hb : b = 1 ∨ b = -1) (h : StOk n (y, m)) (hn : n ≤ 1000) : ephemerisref1_Years_step.mv n y m b = stp n b (y, m) := by
  obtain ⟨h1, h2⟩ := h
  simp only at h1 h2
  unfold ephemerisref1_Years_step.mv stp
  rw [w64_id (n := m + b) (by omega) (by omega), w64_id (n := y + 1) (by omega) (by omega), w64_id (n := y - 1) (by omega) (by omega)]
  simp only
  by_cases c1 : m + b = 0
  · rw [if_pos c1, if_neg (by omega), if_pos (by omega)]
  · rw [if_neg c1]
    by_cases c2 : m + b > n
    · rw [if_pos c2, if_pos c2]
    · rw [if_neg c2, if_neg c2, if_neg (by omega)]
/-- Behind at most J steps the months are not empty any more. -/
theorem skip_first (n b : Int) (Z : Int × Int → Bool) : ∀ (J : Nat) (p : Int × Int), Z (itS n b J p) = false → ∃ j, j ≤ J ∧ (∀ i, i < j → Z (itS n b i p) = true) ∧ Z (itS n b j p) = false
  | 0, p, h => ⟨0, Nat.le_refl _, fun i hi => absurd hi (Nat.not_lt_zero _), h⟩
  | J + 1, p, h => by
    cases c : Z p with
    | false => exact ⟨0, Nat.zero_le _, fun i hi => absurd hi (Nat.not_lt_zero _), c⟩
    | true =>
      obtain ⟨j, h1, h2, h3⟩ := skip_first n b Z J (stp n b p) h
      refine ⟨j + 1, by omega, fun i hi => ?_, h3⟩
      cases i with
      | zero => exact c
      | succ i => exact h2 i (by omega)
theorem it_up (n : Int) : ∀ (j : Nat) (y m : Int), m + j ≤ n → 1 ≤ m → itS n 1 j (y, m) = (y, m + j)
  | 0, y, m, _, _ => by simp [itS]
  | j + 1, y, m, h, h1 => by
    unfold itS stp
    rw [if_neg (by simp only; omega), if_neg (by simp only; omega), it_up n j y (m + 1) (by omega) (by omega), show m + 1 + (j : Int) = m + ((j + 1 : Nat) : Int) from by omega]
theorem it_down (n : Int) : ∀ (j : Nat) (y m : Int), 1 ≤ m - j → m ≤ n → itS n (-1) j (y, m) = (y, m - j)
  | 0, y, m, _, _ => by simp [itS]
  | j + 1, y, m, h, h1 => by
    unfold itS stp
    rw [if_neg (by simp only; omega), if_neg (by simp only; omega)]
    simp only
    rw [show m + -1 = m - 1 from by omega, it_down n j y (m - 1) (by omega) (by omega), show m - 1 - (j : Int) = m - ((j + 1 : Nat) : Int) from by omega]
theorem it_add (n b : Int) : ∀ (i j : Nat) (p : Int × Int), itS n b (i + j) p = itS n b j (itS n b i p)
  | 0, j, p => by rw [Nat.zero_add]; rfl
  | i + 1, j, p => by rw [show i + 1 + j = (i + j) + 1 from by omega]; exact it_add n b i j (stp n b p)
theorem sum_zero (ms : List S125) (lp : Bool) : ∀ j : Nat, (∀ m : Int, 1 ≤ m → m ≤ j → monL ms lp m = 0) → monSum ms lp j = 0
  | 0, _ => rfl
  | j + 1, h => by unfold monSum; rw [sum_zero ms lp j (fun m h1 h2 => h m h1 (by omega)), h ((j : Int) + 1) (by omega) (by omega)]; rfl
theorem some_month {e c : Int} {ms : List S125} {l : List Int} (ok : OkCal e c ms l) (y : Int) : ∃ m : Int, (1 ≤ m ∧ m ≤ ms.length) ∧ monL ms (isLeapY c l y) m ≠ 0 := by
  refine Classical.byContradiction fun hh => ?_
  have h0 := sum_zero ms (isLeapY c l y) ms.length (fun m h1 h2 => Classical.byContradiction fun g => hh ⟨m, ⟨h1, h2⟩, g⟩)
  have h1 := monSum_all (isLeapY c l y) ms ms.length (Nat.le_refl _)
  rw [h0, List.take_length] at h1
  have a := ok.sp; have b := ok.lp
  split at h1 <;> omega
theorem skip_month {e c : Int} {ms : List S125} {l : List Int} (ok : OkCal e c ms l) (b : Int) (hb : b = 1 ∨ b = -1) (p : Int × Int) (h : StOk ms.length p) : ∃ j, j ≤ 40 ∧ (∀ i, i < j → zeroM c ms l (itS ms.length b i p) = true) ∧ zeroM c ms l (itS ms.length b j p) = false := by
  obtain ⟨y, m⟩ := p
  obtain ⟨⟨h1, h2⟩, h3⟩ := h
  simp only at h1 h2
  have hl := ok.len
  rcases hb with rfl | rfl
  · obtain ⟨q, ⟨q1, q2⟩, hq⟩ := some_month ok (y + 1)
    have e : itS ms.length 1 ((ms.length - m).toNat + (1 + (q - 1).toNat)) (y, m) = (y + 1, q) := by
      rw [it_add, it_up ms.length _ y m (by omega) h1, it_add]
      have : itS ms.length 1 1 (y, m + ((ms.length - m).toNat : Int)) = (y + 1, 1) := by unfold itS itS stp; rw [if_pos (by simp only; omega)]
      rw [this, it_up ms.length _ (y + 1) 1 (by omega) (by omega), show (1 : Int) + ((q - 1).toNat : Int) = q from by omega]
    obtain ⟨j, j1, j2, j3⟩ := skip_first ms.length 1 (zeroM c ms l) ((ms.length - m).toNat + (1 + (q - 1).toNat)) (y, m) (by rw [e]; unfold zeroM; exact decide_eq_false (fun g => hq g.2))
    exact ⟨j, by omega, j2, j3⟩
  · obtain ⟨q, ⟨q1, q2⟩, hq⟩ := some_month ok (y - 1)
    have e : itS ms.length (-1) ((m - 1).toNat + (1 + (ms.length - q).toNat)) (y, m) = (y - 1, q) := by
      rw [it_add, it_down ms.length _ y m (by omega) h2, it_add]
      have : itS ms.length (-1) 1 (y, m - ((m - 1).toNat : Int)) = (y - 1, (ms.length : Int)) := by unfold itS itS stp; rw [if_neg (by simp only; omega), if_pos (by simp only; omega)]
      rw [this, it_down ms.length _ (y - 1) ms.length (by omega) (by omega), show (ms.length : Int) - ((ms.length - q).toNat : Int) = q from by omega]
    obtain ⟨j, j1, j2, j3⟩ := skip_first ms.length (-1) (zeroM c ms l) ((m - 1).toNat + (1 + (ms.length - q).toNat)) (y, m) (by rw [e]; unfold zeroM; exact decide_eq_false (fun g => hq g.2))
    exact ⟨j, by omega, j2, j3⟩
theorem bad_dec (y : Int) : arith_Later.bad y = !decide (-10000 ≤ y ∧ y ≤ 10000) := by
  unfold arith_Later.bad
  by_cases h : -10000 ≤ y ∧ y ≤ 10000
  · rw [decide_eq_true h, decide_eq_false (by omega), decide_eq_false (by omega)]; rfl
  · rw [decide_eq_false h]
    by_cases g : y < -10000
    · rw [decide_eq_true g]; rfl
    · rw [decide_eq_false g, decide_eq_true (by omega)]; rfl
theorem inB_dec (y : Int) : ephemerisref1_Years_Later.inB y = decide (-10000 ≤ y ∧ y ≤ 10000) := rfl
section
variable {nm : ByteArray} {e c : Int} {ms : List S125} {l : List Int} (ok : OkCal e c ms l)
include ok
theorem cond_z (p : Int × Int) (h : StOk ms.length p) : arith_Later.cond nm e c ms l p.1 p.2 = some (zeroM c ms l p) := by
  unfold arith_Later.cond zeroM
  rw [bad_dec]
  by_cases c1 : -10000 ≤ p.1 ∧ p.1 ≤ 10000
  · rw [decide_eq_true c1, if_neg (by decide), arith_month_f ok p.1 p.2 (by omega) h.1, Option.bind_some]
    congr 1; simp only [decide_eq_decide]; exact ⟨fun g => ⟨c1, g⟩, fun g => g.2⟩
  · rw [decide_eq_false c1, if_pos (by decide), decide_eq_false (fun g => c1 g.1)]
theorem rcond_z (s b t : Int) (p : Int × Int) (h : StOk ms.length p) (k : Nat) (hk : 80 ≤ k) : ephemerisref1_Years_Later.cond k nm e c ms l (leapList c l) s b t p.1 p.2 = some (zeroM c ms l p) := by
  unfold ephemerisref1_Years_Later.cond zeroM
  rw [inB_dec]
  by_cases c1 : -10000 ≤ p.1 ∧ p.1 ≤ 10000
  · rw [decide_eq_true c1, if_pos rfl, ephemerisref1_Years_Month_f ok s b t p.1 p.2 (by omega) h.1 k hk, Option.bind_some]
    congr 1; simp only [decide_eq_decide]; exact ⟨fun g => ⟨c1, g⟩, fun g => g.2⟩
  · rw [decide_eq_false c1, if_neg (by decide), decide_eq_false (fun g => c1 g.1)]
theorem l2_skip (mon n b d : Int) (hb : b = 1 ∨ b = -1) : ∀ (j : Nat) (p : Int × Int) (k : Nat), StOk ms.length p → (∀ i, i < j → zeroM c ms l (itS ms.length b i p) = true) → zeroM c ms l (itS ms.length b j p) = false →
    StOk ms.length (itS ms.length b j p) ∧ arith_Later.l2 (k + j + 1) nm e c ms l mon n b p.1 p.2 d = arith_Later.l1 k nm e c ms l mon (wrap64 (n + b)) (itS ms.length b j p).1 (itS ms.length b j p).2 d
  | 0, p, k, h, _, h2 => by
    refine ⟨h, ?_⟩
    simp only [arith_Later.l2]
    rw [cond_z ok p h, Option.bind_some, show zeroM c ms l p = false from h2, if_neg (by decide)]; rfl
  | j + 1, p, k, h, h1, h2 => by
    have hz : zeroM c ms l p = true := h1 0 (by omega)
    have hr := (of_decide_eq_true hz).1
    obtain ⟨i1, i2⟩ := l2_skip mon n b d hb j (stp ms.length b p) k (stp_ok hb h hr) (fun i hi => h1 (i + 1) (by omega)) h2
    refine ⟨i1, ?_⟩
    rw [show k + (j + 1) + 1 = (k + j + 1) + 1 from by omega]
    conv => lhs; unfold arith_Later.l2
    rw [cond_z ok p h, Option.bind_some, hz, if_pos rfl, turn_stp hb h (by have := ok.len; omega)]
    exact i2
theorem l0_skip (mon d : Int) : ∀ (j : Nat) (p : Int × Int) (k : Nat), StOk ms.length p → (∀ i, i < j → zeroM c ms l (itS ms.length 1 i p) = true) → zeroM c ms l (itS ms.length 1 j p) = false →
    StOk ms.length (itS ms.length 1 j p) ∧ arith_Later.l0 (k + j + 1) nm e c ms l mon p.1 p.2 d = arith_Later.l1 k nm e c ms l mon 0 (itS ms.length 1 j p).1 (itS ms.length 1 j p).2 d
  | 0, p, k, h, _, h2 => by
    refine ⟨h, ?_⟩
    simp only [arith_Later.l0]
    rw [cond_z ok p h, Option.bind_some, show zeroM c ms l p = false from h2, if_neg (by decide)]; rfl
  | j + 1, p, k, h, h1, h2 => by
    have hz : zeroM c ms l p = true := h1 0 (by omega)
    have hr := (of_decide_eq_true hz).1
    obtain ⟨i1, i2⟩ := l0_skip mon d j (stp ms.length 1 p) k (stp_ok (.inl rfl) h hr) (fun i hi => h1 (i + 1) (by omega)) h2
    refine ⟨i1, ?_⟩
    rw [show k + (j + 1) + 1 = (k + j + 1) + 1 from by omega]
    conv => lhs; unfold arith_Later.l0
    rw [cond_z ok p h, Option.bind_some, hz, if_pos rfl, turn_stp (.inl rfl) h (by have := ok.len; omega)]
    exact i2
/-- The reference behind the empty months. -/
def outR (k : Nat) (nm : ByteArray) (e c : Int) (ms : List S125) (l : List Int) (s b' t b left : Int) (p : Int × Int) (d : Int) : Option (Int × Int) :=
  if ephemerisref1_Years_Later.inB p.1 = true then (if left = 0 then ephemerisref1_Years_Later.fin k nm e c ms l (leapList c l) s b' t p.1 p.2 d else
    ephemerisref1_Years_Later.l0 k nm e c ms l (leapList c l) s b' t b (wrap64 (left - 1)) b (ephemerisref1_Years_step.mv ms.length p.1 p.2 b).1 (ephemerisref1_Years_step.mv ms.length p.1 p.2 b).2 d) else some (0, 3)
theorem r1_skip (s b' t b left way d : Int) (hb : way = 1 ∨ way = -1) : ∀ (j : Nat) (p : Int × Int) (k : Nat), 80 ≤ k → StOk ms.length p → (∀ i, i < j → zeroM c ms l (itS ms.length way i p) = true) → zeroM c ms l (itS ms.length way j p) = false →
    StOk ms.length (itS ms.length way j p) ∧ ephemerisref1_Years_Later.l1 (k + j + 1) nm e c ms l (leapList c l) s b' t b left way p.1 p.2 d = outR k nm e c ms l s b' t b left (itS ms.length way j p) d
  | 0, p, k, hk, h, _, h2 => by
    refine ⟨h, ?_⟩
    simp only [ephemerisref1_Years_Later.l1]
    rw [rcond_z ok s b' t p h k hk, Option.bind_some, show zeroM c ms l p = false from h2, if_neg (by decide)]; rfl
  | j + 1, p, k, hk, h, h1, h2 => by
    have hz : zeroM c ms l p = true := h1 0 (by omega)
    have hr := (of_decide_eq_true hz).1
    obtain ⟨i1, i2⟩ := r1_skip s b' t b left way d hb j (stp ms.length way p) k hk (stp_ok hb h hr) (fun i hi => h1 (i + 1) (by omega)) h2
    refine ⟨i1, ?_⟩
    rw [show k + (j + 1) + 1 = (k + j + 1) + 1 from by omega]
    conv => lhs; unfold ephemerisref1_Years_Later.l1
    rw [rcond_z ok s b' t p h (k + j + 1) (by omega), Option.bind_some, hz, if_pos rfl, mv_stp hb h (by have := ok.len; omega)]
    exact i2
theorem same_end (s b' t : Int) (hs : s = shortSum ms) (hb' : b' = longSum ms) (ht : t = sumY (shortSum ms) (longSum ms) l c.toNat) (hn : calErr nm e c ms l = 0) (p : Int × Int) (d : Int) (hd : -1000000 ≤ d ∧ d ≤ 1000000) (h : StOk ms.length p) (hr : -10000 ≤ p.1 ∧ p.1 ≤ 10000) (kc kr : Nat) (hc : 2 * l.length + 1000 ≤ kc) (hk : 20000 ≤ kr) :
    ∃ r, arith_Later.fin kc nm e c ms l p.1 p.2 d = some r ∧ ephemerisref1_Years_Later.fin kr nm e c ms l (leapList c l) s b' t p.1 p.2 d = some r := by
  subst hs hb' ht
  have hmb := monL_bound ok.mo (isLeapY c l p.1) h.1.1 h.1.2
  unfold arith_Later.fin ephemerisref1_Years_Later.fin
  rw [bad_dec, decide_eq_true hr, if_neg (by decide), arith_month_f ok p.1 p.2 (by omega) h.1, Option.bind_some, ephemerisref1_Years_Month_f ok _ _ _ p.1 p.2 (by omega) h.1 kr (by omega), Option.bind_some]
  have hm : (if d > monL ms (isLeapY c l p.1) p.2 then monL ms (isLeapY c l p.1) p.2 else d) = mn d (monL ms (isLeapY c l p.1) p.2) := by
    unfold mn
    by_cases g : d > monL ms (isLeapY c l p.1) p.2
    · rw [if_pos g]
    · rw [if_neg g]
  rw [hm]
  have hmd : -1000000 ≤ mn d (monL ms (isLeapY c l p.1) p.2) ∧ mn d (monL ms (isLeapY c l p.1) p.2) ≤ 1000000 := by unfold mn; split <;> omega
  have hll : l.length ≤ 9223372036854775806 := by
    have := ok.cy
    have hcl := ok.llen
    omega
  rw [arith_ToDay_f nm e c ms l p.1 p.2 _ hll (by omega) kc hc, if_pos hn, Option.bind_some, ephemerisref1_Years_ToDay_f ok p.1 p.2 _ (by omega) kr hk, Option.bind_some]
  exact ⟨_, rfl, rfl⟩
theorem same_run (s b' t : Int) (hs : s = shortSum ms) (hb' : b' = longSum ms) (ht : t = sumY (shortSum ms) (longSum ms) l c.toNat) (hn : calErr nm e c ms l = 0) (mon b d : Int) (hb : b = 1 ∨ b = -1) (hbm : (if mon < 0 then (-1 : Int) else 1) = b) (hmon : -10000 ≤ mon ∧ mon ≤ 10000) (hd : -1000000 ≤ d ∧ d ≤ 1000000) :
    ∀ (L : Nat) (n : Int) (p : Int × Int) (kc kr : Nat), mon = n + b * L → L ≤ 20000 → (-30000 ≤ n ∧ n ≤ 30000) → StOk ms.length p → 2 * l.length + 1000 + 50 * (L + 1) ≤ kc → 20000 + 50 * (L + 1) ≤ kr →
    ∃ r, arith_Later.l1 kc nm e c ms l mon n p.1 p.2 d = some r ∧ outR kr nm e c ms l s b' t b L p d = some r := by
  have hlen := ok.len
  intro L
  induction L with
  | zero =>
    intro n p kc kr hm hL hn' h hc hk
    obtain ⟨kc, rfl⟩ : ∃ q, kc = q + 1 := ⟨kc - 1, by omega⟩
    unfold outR
    simp only [arith_Later.l1]
    rw [if_pos (by rcases hb with rfl | rfl <;> omega), inB_dec]
    by_cases hr : -10000 ≤ p.1 ∧ p.1 ≤ 10000
    · rw [decide_eq_true hr, if_pos rfl, if_pos (by rfl)]
      exact same_end ok s b' t hs hb' ht hn p d hd h hr kc kr (by omega) (by omega)
    · rw [decide_eq_false hr, if_neg (by decide)]
      unfold arith_Later.fin
      rw [bad_dec, decide_eq_false hr, if_pos (by decide)]
      exact ⟨_, rfl, rfl⟩
  | succ L ih =>
    intro n p kc kr hm hL hn' h hc hk
    obtain ⟨kc, rfl⟩ : ∃ q, kc = q + 1 := ⟨kc - 1, by omega⟩
    have hne : ¬ n = mon := by rcases hb with rfl | rfl <;> omega
    unfold outR
    simp only [arith_Later.l1]
    rw [if_neg hne, inB_dec, bad_dec]
    by_cases hr : -10000 ≤ p.1 ∧ p.1 ≤ 10000
    · rw [decide_eq_true hr, if_neg (by decide), if_pos rfl, if_neg (show ¬ (((L + 1 : Nat) : Int) = 0) by omega), hbm, turn_stp hb h (by omega), mv_stp hb h (by omega)]
      have hp' := stp_ok hb h hr
      obtain ⟨j, j1, j2, j3⟩ := skip_month ok b hb (stp ms.length b p) hp'
      obtain ⟨kc, rfl⟩ : ∃ q, kc = q + j + 1 := ⟨kc - j - 1, by omega⟩
      obtain ⟨kr, rfl⟩ : ∃ q, kr = (q + j + 1) + 1 := ⟨kr - j - 2, by omega⟩
      obtain ⟨o1, o2⟩ := l2_skip (nm := nm) ok mon n b d hb j (stp ms.length b p) kc hp' j2 j3
      obtain ⟨_, o3⟩ := r1_skip (nm := nm) ok s b' t b (wrap64 (((L + 1 : Nat) : Int) - 1)) b d hb j (stp ms.length b p) kr (by omega) hp' j2 j3
      rw [show (stp ms.length b (p.1, p.2)) = stp ms.length b p from rfl, o2]
      conv => enter [1, r, 2, 1]; unfold ephemerisref1_Years_Later.l0
      rw [o3, w64_id (n := n + b) (by rcases hb with rfl | rfl <;> omega) (by rcases hb with rfl | rfl <;> omega), w64_id (n := ((L + 1 : Nat) : Int) - 1) (by omega) (by omega), show (((L + 1 : Nat) : Int) - 1) = (L : Int) from by omega]
      exact ih (n + b) (itS ms.length b j (stp ms.length b p)) kc kr (by rw [hm]; rcases hb with rfl | rfl <;> omega) (by omega) (by rcases hb with rfl | rfl <;> omega) o1 (by omega) (by omega)
    · rw [decide_eq_false hr, if_pos (by decide), if_neg (by decide)]
      unfold arith_Later.fin
      rw [bad_dec, decide_eq_false hr, if_pos (by decide)]
      exact ⟨_, rfl, rfl⟩
theorem same_from (s b' t : Int) (hs : s = shortSum ms) (hb' : b' = longSum ms) (ht : t = sumY (shortSum ms) (longSum ms) l c.toNat) (hn : calErr nm e c ms l = 0) (mon d : Int) (hmon : -10000 ≤ mon ∧ mon ≤ 10000) (hd : -1000000 ≤ d ∧ d ≤ 1000000) (p : Int × Int) (h : StOk ms.length p) (k : Nat) (hk : 2 * l.length + 2000000 ≤ k) :
    ∃ r, arith_Later.l0 k nm e c ms l mon p.1 p.2 d = some r ∧ ephemerisref1_Years_Later.l0 k nm e c ms l (leapList c l) s b' t (if mon < 0 then -1 else 1) (if mon < 0 then wrap64 (-mon) else mon) 1 p.1 p.2 d = some r := by
  obtain ⟨j, j1, j2, j3⟩ := skip_month ok 1 (.inl rfl) p h
  obtain ⟨k, rfl⟩ : ∃ q, k = (q + j + 1) + 1 := ⟨k - j - 2, by omega⟩
  obtain ⟨b, hb⟩ : ∃ b, (if mon < 0 then (-1 : Int) else 1) = b := ⟨_, rfl⟩
  have hb1 : b = 1 ∨ b = -1 := by rw [← hb]; split <;> omega
  have hleft : (if mon < 0 then wrap64 (-mon) else mon) = ((mon.natAbs : Nat) : Int) := by
    split
    · rw [w64_id (by omega) (by omega)]; omega
    · omega
  have hbm : mon = 0 + b * ((mon.natAbs : Nat) : Int) := by
    rw [← hb]; split
    · omega
    · omega
  obtain ⟨o1, o2⟩ := l0_skip (nm := nm) ok mon d j p (k + 1) h j2 j3
  obtain ⟨_, o3⟩ := r1_skip (nm := nm) ok s b' t b ((mon.natAbs : Nat) : Int) 1 d (.inl rfl) j p k (by omega) h j2 j3
  rw [hleft, hb, show k + j + 1 + 1 = (k + 1) + j + 1 from by omega, o2]
  conv => enter [1, r, 2, 1]; rw [show k + 1 + j + 1 = (k + j + 1) + 1 from by omega]; unfold ephemerisref1_Years_Later.l0
  rw [o3]
  exact same_run ok s b' t hs hb' ht hn mon b d hb1 hb hmon hd mon.natAbs 0 (itS ms.length 1 j p) (k + 1) k hbm (by omega) (by omega) o1 (by omega) (by omega)
end

theorem four_ok : calErr (⟨#[115, 109, 97, 108, 108]⟩ : ByteArray) 1 4 smallM [4] = 0 := by rw [small_cal _ _ _ (by decide)]; decide
theorem four_later (k : Nat) (hk : 3000000 ≤ k) : arith_Later.f k (⟨#[115, 109, 97, 108, 108]⟩ : ByteArray) 1 4 smallM [4] 31 3 1 = some (237, 0) := by
  have ok := calErr_ok four_ok
  have e31 : arith_FromDay.f k (⟨#[115, 109, 97, 108, 108]⟩ : ByteArray) 1 4 smallM [4] 31 = some (1, 1, 31, 0) := by
    rcases arith_FromDay_f (⟨#[115, 109, 97, 108, 108]⟩ : ByteArray) 1 4 smallM [4] 31 (by simp) k (by simp; omega) with ⟨h, _⟩ | ⟨_, ⟨h, _⟩ | ⟨_, ⟨h, _⟩ | ⟨y, m, h1, h2, h3, h4⟩⟩⟩
    · exact absurd four_ok h
    · exact absurd (by decide) h
    · exact absurd (by decide) h
    · have hy : y = 1 := inYear_uniq ok h2 (by unfold inYear; decide)
      subst hy
      have hm : m = 1 := inMonth_uniq ok.mo h3 (by unfold inMonth; decide)
      subst hm
      rw [h4]; rfl
  obtain ⟨k, rfl⟩ : ∃ q, k = q + 4 := ⟨k - 4, by omega⟩
  unfold arith_Later.f
  rw [e31, Option.bind_some]
  simp only
  rw [if_pos trivial, if_neg (by decide), if_neg (by decide), if_neg (by decide), if_neg (by decide), w64_id (by decide) (by decide)]
  have s41 : StOk (smallM.length : Int) (4, 1) := ⟨by decide, by decide⟩
  have s42 : StOk (smallM.length : Int) (4, 2) := ⟨by decide, by decide⟩
  have z1 : zeroM 4 smallM [4] (4, 1) = false := by decide
  have z2 : zeroM 4 smallM [4] (4, 2) = false := by decide
  have c1 := cond_z (nm := (⟨#[115, 109, 97, 108, 108]⟩ : ByteArray)) ok (4, 1) s41
  have c2 := cond_z (nm := (⟨#[115, 109, 97, 108, 108]⟩ : ByteArray)) ok (4, 2) s42
  have ht : arith_Later.turn smallM.length 4 1 1 = (4, 2) := by rw [turn_stp (.inl rfl) s41 (by decide)]; decide
  rw [show k + 4 = (k + 3) + 1 from rfl, show (1 : Int) + 3 = 4 from rfl]
  simp only [arith_Later.l0]
  rw [c1, Option.bind_some, z1, if_neg (by decide), show k + 3 = (k + 2) + 1 from rfl]
  simp only [arith_Later.l1]
  rw [if_neg (by decide), if_neg (by rw [bad_dec]; decide), if_neg (by decide), ht, show k + 2 = (k + 1) + 1 from rfl]
  simp only [arith_Later.l2]
  rw [c2, Option.bind_some, z2, if_neg (by decide), w64_id (by decide) (by decide)]
  simp only [arith_Later.l1]
  rw [if_pos (by decide)]
  unfold arith_Later.fin
  rw [if_neg (by rw [bad_dec]; decide), arith_month_f ok 4 2 (by decide) (by decide), Option.bind_some, arith_ToDay_f _ 1 4 smallM [4] 4 2 _ (by simp) (by decide) k (by simp; omega), if_pos four_ok, Option.bind_some]
  decide
theorem laters_j1 (n : ByteArray) (e c : Int) (ms : List S125) (l : List Int) (day yrs mon : Int) (hll : l.length ≤ 9223372036854775806) (hday : -9223372036854775808 ≤ day ∧ day ≤ 9223372036854775807) (K : Nat) (hK : 2 * l.length + 70000000 ≤ K) :
    ephemerislaw1_ArithLaters.j1 (K + 1) day yrs mon n e c ms l = some true := by
  simp only [ephemerislaw1_ArithLaters.j1]
  rw [ephemerisref1_CalendarError_f n e c ms l hll K (by omega), ← calErr_eq]
  unfold arith_Later.f
  rcases arith_FromDay_f n e c ms l day hll K (by omega) with ⟨h, e1⟩ | ⟨h, hrest⟩
  · rw [e1, Option.bind_some]
    simp only
    rw [if_neg h, Option.bind_some, Option.bind_some, if_neg h]; simp
  · have ok := calErr_ok h
    have bothErr : ∀ er : Int, er ≠ 0 → arith_FromDay.f K n e c ms l day = some (0, 0, 0, er) → ephemerisref1_Years_FromDay.f K n e c ms l (leapList c l) (shortSum ms) (longSum ms) (sumY (shortSum ms) (longSum ms) l c.toNat) day = some (0, 0, 0, er) →
        (((arith_FromDay.f K n e c ms l day).bind fun t => (if t.2.2.2 = 0 then (if yrs < -10000 then some (0, 1) else (if yrs > 10000 then some (0, 1) else (if mon < -10000 then some (0, 1) else (if mon > 10000 then some (0, 1) else arith_Later.l0 K n e c ms l mon (wrap64 (t.1 + yrs)) t.2.1 t.2.2.1)))) else some (0, t.2.2.2))).bind fun bt290 => ((some (calErr n e c ms l)).bind fun t292 => (if t292 = 0 then ((ephemerisref1_Apart.f K n e c ms l).bind fun bt293 => ((ephemerisref1_Years_Later.f K bt293.1 bt293.2.1 bt293.2.2.1 bt293.2.2.2.1 bt293.2.2.2.2.1 bt293.2.2.2.2.2.1 bt293.2.2.2.2.2.2.1 bt293.2.2.2.2.2.2.2.1 bt293.2.2.2.2.2.2.2.2 day yrs mon).bind fun bt308 => (if bt290.1 = bt308.1 then (some (bt290.2 == bt308.2)) else (some false)))) else (if bt290.1 = 0 then (some (bt290.2 == t292)) else (some false))))) = some true := by
      intro er her h1 h2
      rw [h1, Option.bind_some]
      simp only
      rw [if_neg her, Option.bind_some, Option.bind_some, if_pos h, ephemerisref1_Apart_f n e c ms l ok K (by omega), Option.bind_some]
      simp only
      unfold ephemerisref1_Years_Later.f
      rw [h2, Option.bind_some]
      simp only
      rw [if_neg her, Option.bind_some]
      simp
    have bothOk : ∀ (y m d : Int), (-10000 ≤ y ∧ y ≤ 10000) → (1 ≤ m ∧ m ≤ ms.length) → (-1000000 ≤ d ∧ d ≤ 1000000) → arith_FromDay.f K n e c ms l day = some (y, m, d, 0) → ephemerisref1_Years_FromDay.f K n e c ms l (leapList c l) (shortSum ms) (longSum ms) (sumY (shortSum ms) (longSum ms) l c.toNat) day = some (y, m, d, 0) →
        (((arith_FromDay.f K n e c ms l day).bind fun t => (if t.2.2.2 = 0 then (if yrs < -10000 then some (0, 1) else (if yrs > 10000 then some (0, 1) else (if mon < -10000 then some (0, 1) else (if mon > 10000 then some (0, 1) else arith_Later.l0 K n e c ms l mon (wrap64 (t.1 + yrs)) t.2.1 t.2.2.1)))) else some (0, t.2.2.2))).bind fun bt290 => ((some (calErr n e c ms l)).bind fun t292 => (if t292 = 0 then ((ephemerisref1_Apart.f K n e c ms l).bind fun bt293 => ((ephemerisref1_Years_Later.f K bt293.1 bt293.2.1 bt293.2.2.1 bt293.2.2.2.1 bt293.2.2.2.2.1 bt293.2.2.2.2.2.1 bt293.2.2.2.2.2.2.1 bt293.2.2.2.2.2.2.2.1 bt293.2.2.2.2.2.2.2.2 day yrs mon).bind fun bt308 => (if bt290.1 = bt308.1 then (some (bt290.2 == bt308.2)) else (some false)))) else (if bt290.1 = 0 then (some (bt290.2 == t292)) else (some false))))) = some true := by
      intro y m d hy hm hd h1 h2
      have fin : ∀ r : Int × Int, (if yrs < -10000 then some (0, 1) else (if yrs > 10000 then some (0, 1) else (if mon < -10000 then some (0, 1) else (if mon > 10000 then some (0, 1) else arith_Later.l0 K n e c ms l mon (wrap64 (y + yrs)) m d)))) = some r →
          (if ephemerisref1_Years_Later.inB yrs = true then (if ephemerisref1_Years_Later.inB mon = true then ephemerisref1_Years_Later.l0 K n e c ms l (leapList c l) (shortSum ms) (longSum ms) (sumY (shortSum ms) (longSum ms) l c.toNat) (if mon < 0 then -1 else 1) (if mon < 0 then wrap64 (-mon) else mon) 1 (wrap64 (y + yrs)) m d else some (0, 1)) else some (0, 1)) = some r →
          (((arith_FromDay.f K n e c ms l day).bind fun t => (if t.2.2.2 = 0 then (if yrs < -10000 then some (0, 1) else (if yrs > 10000 then some (0, 1) else (if mon < -10000 then some (0, 1) else (if mon > 10000 then some (0, 1) else arith_Later.l0 K n e c ms l mon (wrap64 (t.1 + yrs)) t.2.1 t.2.2.1)))) else some (0, t.2.2.2))).bind fun bt290 => ((some (calErr n e c ms l)).bind fun t292 => (if t292 = 0 then ((ephemerisref1_Apart.f K n e c ms l).bind fun bt293 => ((ephemerisref1_Years_Later.f K bt293.1 bt293.2.1 bt293.2.2.1 bt293.2.2.2.1 bt293.2.2.2.2.1 bt293.2.2.2.2.2.1 bt293.2.2.2.2.2.2.1 bt293.2.2.2.2.2.2.2.1 bt293.2.2.2.2.2.2.2.2 day yrs mon).bind fun bt308 => (if bt290.1 = bt308.1 then (some (bt290.2 == bt308.2)) else (some false)))) else (if bt290.1 = 0 then (some (bt290.2 == t292)) else (some false))))) = some true := by
        intro r r1 r2
        rw [h1, Option.bind_some]
        simp only
        rw [if_pos trivial, r1, Option.bind_some, Option.bind_some, if_pos h, ephemerisref1_Apart_f n e c ms l ok K (by omega), Option.bind_some]
        simp only
        unfold ephemerisref1_Years_Later.f
        rw [h2, Option.bind_some]
        simp only
        rw [if_pos trivial, r2, Option.bind_some]
        simp
      by_cases c1 : -10000 ≤ yrs ∧ yrs ≤ 10000
      · by_cases c2 : -10000 ≤ mon ∧ mon ≤ 10000
        · obtain ⟨r, r1, r2⟩ := same_from (nm := n) ok (shortSum ms) (longSum ms) (sumY (shortSum ms) (longSum ms) l c.toNat) rfl rfl rfl h mon d c2 hd (y + yrs, m) ⟨hm, by simp only; omega⟩ K (by omega)
          refine fin r ?_ ?_
          · rw [if_neg (by omega), if_neg (by omega), if_neg (by omega), if_neg (by omega), w64_id (by omega) (by omega)]; exact r1
          · rw [inB_dec, inB_dec, decide_eq_true c1, decide_eq_true c2, if_pos rfl, if_pos rfl, w64_id (n := y + yrs) (by omega) (by omega)]; exact r2
        · refine fin (0, 1) ?_ ?_
          · rw [if_neg (by omega), if_neg (by omega)]
            by_cases g : mon < -10000
            · rw [if_pos g]
            · rw [if_neg g, if_pos (by omega)]
          · rw [inB_dec, inB_dec, decide_eq_true c1, decide_eq_false c2, if_pos rfl, if_neg (by decide)]
      · refine fin (0, 1) ?_ ?_
        · by_cases g : yrs < -10000
          · rw [if_pos g]
          · rw [if_neg g, if_pos (by omega)]
        · rw [inB_dec, decide_eq_false c1, if_neg (by decide)]
    have bnd : ∀ (y m : Int), inYear e c ms l day y → (1 ≤ m ∧ m ≤ ms.length) → inMonth ms (isLeapY c l y) (day - nyD e c ms l y) m → -1000000 ≤ day - nyD e c ms l y - monSum ms (isLeapY c l y) (m - 1).toNat + 1 ∧ day - nyD e c ms l y - monSum ms (isLeapY c l y) (m - 1).toNat + 1 ≤ 1000000 := by
      intro y m _ hm hin
      obtain ⟨_, i1, i2⟩ := hin
      have hlen := ok.len
      have b1 := monSum_bound ok.mo (isLeapY c l y) (m - 1).toNat (by omega)
      have b2 := monSum_bound ok.mo (isLeapY c l y) m.toNat (by omega)
      omega
    rcases ephemerisref1_Years_FromDay_f (n := n) ok day hday K (by omega) with ⟨d1, r1⟩ | ⟨d1, y', hy', hcase⟩
    · rcases hrest with ⟨_, e1⟩ | ⟨d2, _⟩
      · exact bothErr 3 (by decide) e1 r1
      · exact absurd d2 d1
    · rcases hrest with ⟨d2, _⟩ | ⟨_, hrest⟩
      · exact absurd d1 d2
      · rcases hcase with ⟨o1, r1⟩ | ⟨o1, m', hm', r1⟩
        · rcases hrest with ⟨_, e1⟩ | ⟨y, m, h1, h2, _⟩
          · exact bothErr 3 (by decide) e1 r1
          · exact absurd (inYear_uniq ok h2 hy' ▸ h1) o1
        · rcases hrest with ⟨o2, _⟩ | ⟨y, m, h1, h2, h3, e1⟩
          · exfalso
            have a := nyD_lt ok (a := -10000) (b := y') (by omega)
            have b := nyD_lt ok (a := y' + 1) (b := 10001) (by omega)
            obtain ⟨c1, c2⟩ := hy'
            exact o2 ⟨by omega, by omega⟩
          · obtain rfl := inYear_uniq ok h2 hy'
            obtain rfl := inMonth_uniq ok.mo h3 hm'
            exact bothOk y m _ h1 h3.1 (bnd y m h2 h3.1 h3) e1 r1
theorem ArithLaters : ephemerislaw1_ArithLaters.Pure := by
  intro n e c ms l day yrs mon hn he hc hms hl hday hyrs hmon
  have hday := wf_i64 hday
  have hll : l.length ≤ 9223372036854775806 := by have := hl.1; omega
  obtain ⟨K, hK⟩ : ∃ K, 2 * l.length + 70000000 ≤ K := ⟨_, Nat.le_refl _⟩
  refine ⟨K + 2, ?_⟩
  unfold ephemerislaw1_ArithLaters.f
  rw [ephemerislaw1_four_f, Option.bind_some]
  simp only
  rw [four_later (K + 2) (by omega), Option.bind_some]
  simp only [bne_self_eq_false, if_true]
  rw [show K + 2 = (K + 1) + 1 from rfl]
  simp only [ephemerislaw1_ArithLaters.j0, Bool.false_eq_true, if_false]
  rw [ephemerisref1_In_f, Option.bind_some]
  split
  · exact laters_j1 n e c ms l day yrs _ hll hday K hK
  · exact laters_j1 n e c ms l day yrs mon hll hday K hK
end Go.Proofs.Ytlfammlboncmeaa.Pure
