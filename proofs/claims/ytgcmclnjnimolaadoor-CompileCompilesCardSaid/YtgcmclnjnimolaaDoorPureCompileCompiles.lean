/- The law CompileCompiles over numbers and lists: what the law's functions tell, and that the law holds. -/
import Derived.Test.YtgcmclnjnimolaaDoorPCompileCompilesx15
import Derived.Test.YtgcmclnjnimolaaDoorM
import Derived.Test.YtgcmclnjnimolaaDoorT
import Derived.Test.YtgcmclnjnimolaaDoorL
import Derived.Test.YtgcmclnjnimolaaDoorO
import Derived.Test.YtgcmclnjnimolaaDoorD
namespace Go.Proofs.YtgcmclnjnimolaaDoor.Pure
open Go.RowKit Go.Proofs.YtgcmclnjnimolaaDoor.PCompileCompiles Go.Proofs.YtgcmclnjnimolaaDoorW.PrintWords Go.Proofs.YtgcmclnjnimolaaDoorW.PrintLast Go.Proofs.YtgcmclnjnimolaaDoor.M Go.Proofs.YtgcmclnjnimolaaDoor.T Go.Proofs.YtgcmclnjnimolaaDoor.L Go.Proofs.YtgcmclnjnimolaaDoor.O Go.Proofs.YtgcmclnjnimolaaDoor.D
set_option linter.unusedVariables false
set_option linter.unusedSimpArgs false
/-- The law over numbers and lists. -/
def ephemerislaw1_CompileCompiles.Pure : Prop := ∀ (a0_0 : ByteArray) (a0_1 : Int) (a0_2 : Int) (a0_3 : Int) (a0_4 : Int) (l0_5 : List (S24)) (l0_6 : List (S53)), a0_0.size ≤ 140737488351232 → (Lit.int .i64 a0_1).wf = true → (Lit.int .i64 a0_2).wf = true → (Lit.int .i64 a0_3).wf = true → (Lit.int .i64 a0_4).wf = true → (l0_5.length * 40 ≤ 140737488351232 ∧ l0_5.length ≤ 9223372036854775807 ∧ ∀ v ∈ l0_5, True) → (l0_6.length * 32 ≤ 140737488351232 ∧ l0_6.length ≤ 9223372036854775807 ∧ ∀ v ∈ l0_6, (v.f0.size ≤ 140737488351232 ∧ (Lit.int .i64 v.f1).wf = true ∧ (Lit.int .i64 v.f2).wf = true)) → ∃ k, ephemerislaw1_CompileCompiles.f k a0_0 a0_1 a0_2 a0_3 a0_4 l0_5 l0_6 = some true

/-- The small rule: its months. -/
def smallM : List S53 := [⟨⟨#[111, 110, 101]⟩, 31, 31⟩, ⟨⟨#[116, 119, 111]⟩, 28, 29⟩]
def smallT : ByteArray × Int × Int × Int × Int × List S24 × List S53 :=
  (⟨#[115, 109, 97, 108, 108]⟩, 1, 8, 10, 0, [⟨8, 0, [⟨2, 0, []⟩, ⟨1, 4, []⟩]⟩, ⟨1, 0, []⟩], smallM)

theorem ephemerislaw1_small_f : ephemerislaw1_small.f = some smallT := rfl

theorem rule_Name_f (s : ByteArray) : rule_Name.f s = some (isName s) := by
  have e : rule_Name.all s.data.toList = letters s.data.toList := rfl
  unfold rule_Name.f isName noWord
  rw [e]
  congr 1
  by_cases h1 : (s.size : Int) < 1
  · rw [if_pos h1, decide_eq_false (show ¬ 1 ≤ s.size by omega)]; rfl
  rw [if_neg h1, decide_eq_true (show 1 ≤ s.size by omega)]
  by_cases h2 : (s.size : Int) > 12
  · rw [if_pos h2, decide_eq_false (show ¬ s.size ≤ 12 by omega)]; rfl
  rw [if_neg h2, decide_eq_true (show s.size ≤ 12 by omega)]
  by_cases c1 : s.toList = [121]
  · rw [if_pos c1]; simp [c1]
  rw [if_neg c1, bne_iff_ne.2 c1]
  by_cases c2 : s.toList = [97, 110, 100]
  · rw [if_pos c2]; simp [c2]
  rw [if_neg c2, bne_iff_ne.2 c2]
  by_cases c3 : s.toList = [111, 114]
  · rw [if_pos c3]; simp [c3]
  rw [if_neg c3, bne_iff_ne.2 c3]
  by_cases c4 : s.toList = [110, 111, 116]
  · rw [if_pos c4]; simp [c4]
  rw [if_neg c4, bne_iff_ne.2 c4]
  rfl

theorem line_Check_f (x : Int) : line_Check.f x = some (if -4000000 ≤ x ∧ x ≤ 4000000 then 0 else 3) := by
  unfold line_Check.f
  by_cases h : x < -4000000
  · rw [if_pos h, if_neg (by omega)]
  · rw [if_neg h]
    by_cases h2 : x > 4000000
    · rw [if_pos h2, if_neg (by omega)]
    · rw [if_neg h2, if_pos (by omega)]

/-- Is an expression's own node in form? -/
def nodeOk (x : S24) : Bool := decide ((1 ≤ x.f0 ∧ x.f0 ≤ 13) ∧ (x.f2.length : Int) = rule_walk.kid x.f0) && (if x.f0 = 1 then decide (0 ≤ x.f1 ∧ x.f1 ≤ 2147483647) else decide (x.f1 = 0))
/-- The first fault of expressions, node by node in preorder; at most m nodes may come; how many may still come behind them. -/
def wk : Nat → List (S24 × Int) → Int × Nat
  | m, [] => (0, m)
  | 0, _ :: _ => (2, 0)
  | m + 1, p :: t => if p.2 > 12 then (2, m) else (if nodeOk p.1 = true then wk m (p.1.f2.map (fun y => (y, p.2 + 1)) ++ t) else (8, m))
theorem wk_nil (m : Nat) : wk m [] = (0, m) := by cases m <;> rfl
theorem wk_le : ∀ (m : Nat) (l : List (S24 × Int)), (wk m l).2 ≤ m
  | m, [] => by rw [wk_nil]; exact Nat.le_refl _
  | 0, _ :: _ => Nat.le_refl _
  | m + 1, p :: t => by
    unfold wk
    split
    · exact Nat.le_succ _
    · split
      · exact Nat.le_succ_of_le (wk_le m _)
      · exact Nat.le_succ _
theorem wk_succ (m : Nat) (p : S24 × Int) (t : List (S24 × Int)) : wk (m + 1) (p :: t) = if p.2 > 12 then (2, m) else (if nodeOk p.1 = true then wk m (p.1.f2.map (fun y => (y, p.2 + 1)) ++ t) else (8, m)) := rfl
theorem wk_app : ∀ (m : Nat) (a b : List (S24 × Int)), wk m (a ++ b) = if (wk m a).1 = 0 then wk (wk m a).2 b else wk m a
  | m, [], b => by rw [wk_nil, if_pos rfl]; rfl
  | 0, p :: t, b => by rw [List.cons_append]; unfold wk; simp
  | m + 1, p :: t, b => by
    rw [List.cons_append, wk_succ, wk_succ]
    by_cases c : p.2 > 12
    · rw [if_pos c, if_pos c]; simp
    · rw [if_neg c, if_neg c]
      by_cases d : nodeOk p.1 = true
      · rw [if_pos d, if_pos d, ← List.append_assoc, wk_app m]
      · rw [if_neg d, if_neg d]; simp
theorem wk_cons (m : Nat) (p : S24 × Int) (t : List (S24 × Int)) : wk m (p :: t) = if (wk m [p]).1 = 0 then wk (wk m [p]).2 t else wk m [p] := wk_app m [p] t
theorem wk_one (m : Nat) (x : S24) (d : Int) (hd : d ≤ 12) (h : nodeOk x = true) : wk (m + 1) [(x, d)] = wk m (x.f2.map fun y => (y, d + 1)) := by
  conv => lhs; unfold wk
  rw [if_neg (by simpa using hd), if_pos h, List.append_nil]
theorem kid_small (x : Int) (h : 1 ≤ x ∧ x ≤ 13) : 0 ≤ rule_walk.kid x ∧ rule_walk.kid x ≤ 2 := by
  obtain ⟨n, rfl⟩ : ∃ n : Nat, x = n := ⟨x.toNat, by omega⟩
  have h1 : n ≤ 13 := by omega
  unfold rule_walk.kid rule_walk.kids
  rw [Int.toNat_natCast]
  match n, h1 with
  | 0, _ | 1, _ | 2, _ | 3, _ | 4, _ | 5, _ | 6, _ | 7, _ | 8, _ | 9, _ | 10, _ | 11, _ | 12, _ | 13, _ => decide
theorem rd_expr (l : List S24) (i : Nat) (h : i < l.length) : rd_T24 l (i : Int) = l[i] := by
  unfold rd_T24
  rw [show ((i : Int).toNat) = i from by omega, List.getD_eq_getElem?_getD, List.getElem?_eq_getElem h]; rfl

/-- What rule.walk tells of one expression: the fault, and where there is none the count. -/
def wkTells (o : Option (Int × Int)) (r : Int × Nat) : Prop := ∃ c, o = some (r.1, c) ∧ (r.1 = 0 → c = 60 - (r.2 : Int))
theorem rule_walk_l0 (m : Nat) (d : Int) (hd : 1 ≤ d ∧ d ≤ 12) (l : List S24) (hl : l.length ≤ 2) (a b : Int) (c : List S24)
    (ih : ∀ m', m' ≤ m → ∀ (x : S24) (k : Nat), 10 * m' + 10 ≤ k → wkTells (rule_walk.f k x.f0 x.f1 x.f2 (d + 1) (60 - (m' : Int))) (wk m' [(x, d + 1)])) :
    ∀ (r i m' k : Nat), i + r = l.length → m' ≤ m → 10 * m + 11 + r ≤ k → wkTells (rule_walk.l0 k d l (l.length : Int) (i : Int) (60 - (m' : Int)) a b c) (wk m' ((l.drop i).map fun y => (y, d + 1))) := by
  intro r
  induction r with
  | zero =>
    intro i m' k hi hm hk
    obtain ⟨k, rfl⟩ : ∃ j, k = j + 1 := ⟨k - 1, by omega⟩
    rw [List.drop_of_length_le (by omega), List.map_nil, wk_nil]
    conv => arg 1; unfold rule_walk.l0
    rw [if_neg (by omega)]
    exact ⟨_, rfl, fun _ => rfl⟩
  | succ r ihr =>
    intro i m' k hi hm hk
    obtain ⟨k, rfl⟩ : ∃ j, k = j + 1 := ⟨k - 1, by omega⟩
    have hlt : i < l.length := by omega
    rw [List.drop_eq_getElem_cons hlt, List.map_cons, wk_cons]
    conv => arg 1; unfold rule_walk.l0
    rw [if_pos (by omega), if_pos (by omega), if_pos (by omega), rd_expr l i hlt, w64_id (n := d + 1) (by omega) (by omega)]
    obtain ⟨q, hq, hc⟩ := ih m' hm l[i] k (by omega)
    rw [hq, Option.bind_some]
    have hle := wk_le m' [(l[i], d + 1)]
    by_cases e : (wk m' [(l[i], d + 1)]).1 = 0
    · rw [if_pos e, if_pos e, hc e, w64_id (n := (i : Int) + 1) (by omega) (by omega)]
      have := ihr (i + 1) (wk m' [(l[i], d + 1)]).2 k (by omega) (by omega) (by omega)
      rw [show ((i + 1 : Nat) : Int) = (i : Int) + 1 from by omega] at this
      exact this
    · rw [if_neg e, if_neg e]
      exact ⟨_, rfl, fun h => absurd h e⟩
theorem rule_walk_m : ∀ (m : Nat) (d : Int), 1 ≤ d → d ≤ 13 → m ≤ 60 → ∀ (x : S24) (k : Nat), 10 * m + 10 ≤ k → wkTells (rule_walk.f k x.f0 x.f1 x.f2 d (60 - (m : Int))) (wk m [(x, d)]) := by
  intro m
  induction m using Nat.strongRecOn with
  | _ m ih =>
    intro d h0 h1 hm x k hk
    obtain ⟨k, rfl⟩ : ∃ j, k = j + 4 := ⟨k - 4, by omega⟩
    have hw : wrap64 (60 - (m : Int) + 1) = 61 - m := by rw [w64_id (by omega) (by omega)]; omega
    conv => arg 1; unfold rule_walk.f
    rw [hw]
    match m, ih, hm, hk, hw with
    | 0, _, _, _, _ =>
      rw [if_pos (by omega)]
      conv => arg 1; unfold rule_walk.j0
      rw [if_pos rfl]
      exact ⟨_, rfl, fun h => by cases h⟩
    | m + 1, ih, hm, hk, _ =>
      rw [if_neg (by omega)]
      conv => arg 1; unfold rule_walk.j0
      have stop : ∀ (e : Int) (n : Nat) (c : Int), e ≠ 0 → wkTells (some (e, c)) (e, n) := fun e n c he => ⟨_, rfl, fun h => absurd h he⟩
      by_cases c1 : d > 12
      · rw [if_pos (decide_eq_true c1)]
        have : wk (m + 1) [(x, d)] = (2, m) := by unfold wk; rw [if_pos c1]
        rw [this]
        exact stop _ _ _ (by decide)
      rw [if_neg (by simpa using c1)]
      -- the two tests, each told as a truth value
      have j1t : ∀ (n : Nat) (s : Int), rule_walk.j1 (n + 1) d true s x.f0 x.f1 x.f2 = some (8, s) := fun n s => by simp only [rule_walk.j1, if_true]
      have j2t : ∀ (n : Nat) (s : Int), rule_walk.j2 (n + 1) d true s x.f0 x.f1 x.f2 = some (8, s) := fun n s => by simp only [rule_walk.j2, if_true]
      have bad : nodeOk x ≠ true → wk (m + 1) [(x, d)] = (8, m) := fun h => by unfold wk; rw [if_neg c1, if_neg h]
      by_cases c2 : (1 ≤ x.f0 ∧ x.f0 ≤ 13) ∧ (x.f2.length : Int) = rule_walk.kid x.f0
      · rw [if_neg (by omega), if_neg (by omega), show ((x.f2.length : Int) != rule_walk.kid x.f0) = false from by simp [c2.2]]
        conv => arg 1; unfold rule_walk.j1
        rw [if_neg (by decide)]
        have hk2 := kid_small x.f0 c2.1
        have go : nodeOk x = true → wkTells (rule_walk.j2 (k + 1) d false (61 - ((m + 1 : Nat) : Int)) x.f0 x.f1 x.f2) (wk (m + 1) [(x, d)]) := fun h => by
          rw [wk_one m x d (by omega) h]
          conv => arg 1; unfold rule_walk.j2
          rw [if_neg (by decide)]
          have := rule_walk_l0 m d ⟨h0, by omega⟩ x.f2 (by omega) x.f0 x.f1 x.f2 (fun m' hm' y k' hk' => ih m' (by omega) (d + 1) (by omega) (by omega) (by omega) y k' hk') x.f2.length 0 m k (by omega) (Nat.le_refl _) (by omega)
          rw [List.drop_zero] at this
          rw [show (61 - ((m + 1 : Nat) : Int)) = 60 - (m : Int) from by omega]
          exact this
        by_cases c3 : x.f0 = 1
        · rw [if_pos c3]
          by_cases c4 : x.f1 < 0
          · rw [if_pos c4, j2t, bad (by unfold nodeOk; rw [if_pos c3, decide_eq_false (show ¬ (0 ≤ x.f1 ∧ x.f1 ≤ 2147483647) by omega)]; simp)]
            exact stop _ _ _ (by decide)
          rw [if_neg c4]
          by_cases c5 : x.f1 > 2147483647
          · rw [if_pos c5, j2t, bad (by unfold nodeOk; rw [if_pos c3, decide_eq_false (show ¬ (0 ≤ x.f1 ∧ x.f1 ≤ 2147483647) by omega)]; simp)]
            exact stop _ _ _ (by decide)
          rw [if_neg c5]
          exact go (by unfold nodeOk; rw [if_pos c3, decide_eq_true c2, decide_eq_true (show 0 ≤ x.f1 ∧ x.f1 ≤ 2147483647 by omega)]; rfl)
        · rw [if_neg c3]
          by_cases c4 : x.f1 = 0
          · rw [show (x.f1 != 0) = false from by simp [c4]]
            exact go (by unfold nodeOk; rw [if_neg c3, decide_eq_true c2, decide_eq_true c4]; rfl)
          · rw [show (x.f1 != 0) = true from by simp [c4], j2t, bad (by unfold nodeOk; rw [if_neg c3, decide_eq_false c4]; simp)]
            exact stop _ _ _ (by decide)
      · have hb := bad (by unfold nodeOk; rw [decide_eq_false c2]; simp)
        rw [hb]
        by_cases c3 : x.f0 < 1
        · rw [if_pos c3, j1t]; exact stop _ _ _ (by decide)
        rw [if_neg c3]
        by_cases c4 : x.f0 > 13
        · rw [if_pos c4, j1t]; exact stop _ _ _ (by decide)
        rw [if_neg c4, show ((x.f2.length : Int) != rule_walk.kid x.f0) = true from by
          rw [bne_iff_ne]; exact fun h => c2 ⟨by omega, h⟩, j1t]
        exact stop _ _ _ (by decide)
/-- The fault of an expression. -/
def exErr (a b : Int) (l : List S24) : Int := (wk 60 [((⟨a, b, l⟩ : S24), 1)]).1
theorem rule_walk_f (a b : Int) (l : List S24) (k : Nat) (hk : 700 ≤ k) : ∃ c, rule_walk.f k a b l 1 0 = some (exErr a b l, c) := by
  obtain ⟨c, h, _⟩ := rule_walk_m 60 1 (by omega) (by omega) (by omega) (⟨a, b, l⟩ : S24) k (by omega)
  exact ⟨c, h⟩

/-- The first fault of the months from a place on: 'a' and 'b' are the days so far, 's' the names so far. -/
def moFrom : Int → Int → List (List UInt8) → List S53 → Int
  | a, b, _, [] => if a = 0 then 8 else (if b = 0 then 8 else 0)
  | a, b, s, m :: t => if isName m.f0 = true then (if m.f0.toList ∈ s then 7 else (if (0 ≤ m.f1 ∧ m.f1 ≤ 400) ∧ (0 ≤ m.f2 ∧ m.f2 ≤ 400) then moFrom (a + m.f1) (b + m.f2) (s ++ [m.f0.toList]) t else 3)) else 5
def moErr (l : List S53) : Int := if 1 ≤ l.length ∧ l.length ≤ 20 then moFrom 0 0 [] l else 2
def moNames (l : List S53) : List (List UInt8) := l.map fun m => m.f0.toList
theorem mo_at (l : List S53) (i : Nat) (h : i < l.length) : rd_T53 l (i : Int) = l[i] := by
  unfold rd_T53
  rw [show ((i : Int).toNat) = i from by omega, List.getD_eq_getElem?_getD, List.getElem?_eq_getElem h]; rfl
theorem moNames_snoc (l : List S53) (i : Nat) (h : i < l.length) : moNames (l.take i) ++ [l[i].f0.toList] = moNames (l.take (i + 1)) := by
  rw [List.take_succ_eq_append_getElem h]
  unfold moNames
  rw [List.map_append]; rfl
theorem rule_Months_l1 (x0 : List S53) (x3 x4 : Int) (x17 : List S53) (x18 x19 : Int) (y : List S53) (n : ByteArray) (f1 f2 : Int) (hy : y.length ≤ 20) : ∀ (d i k : Nat), i + d = y.length →
    rule_Months.l1 (k + d + 1) x0 x3 x4 x17 x18 x19 y (y.length : Int) (i : Int) n f1 f2 = if n.toList ∈ moNames (y.drop i) then some 7 else (if (0 ≤ f1 ∧ f1 ≤ 400) ∧ (0 ≤ f2 ∧ f2 ≤ 400) then rule_Months.l0 k x0 (wrap64 (x3 + f1)) (wrap64 (x4 + f2)) x17 x18 (wrap64 (x19 + 1)) else some 3) := by
  intro d
  induction d with
  | zero =>
    intro i k hi
    conv => lhs; unfold rule_Months.l1
    rw [if_neg (by omega), List.drop_of_length_le (by omega), if_neg (show ¬ n.toList ∈ moNames ([] : List S53) from by unfold moNames; simp)]
    by_cases c1 : f1 < 0
    · rw [if_pos c1, if_neg (by omega)]
    rw [if_neg c1]
    by_cases c2 : f1 > 400
    · rw [if_pos c2, if_neg (by omega)]
    rw [if_neg c2]
    by_cases c3 : f2 < 0
    · rw [if_pos c3, if_neg (by omega)]
    rw [if_neg c3]
    by_cases c4 : f2 > 400
    · rw [if_pos c4, if_neg (by omega)]
    rw [if_neg c4, if_pos (show (0 ≤ f1 ∧ f1 ≤ 400) ∧ (0 ≤ f2 ∧ f2 ≤ 400) from by omega)]
  | succ d ih =>
    intro i k hi
    have hlt : i < y.length := by omega
    have ih := ih (i + 1) k (by omega)
    have hc : (n.toList ∈ moNames (y.drop i)) ↔ (y[i].f0.toList = n.toList ∨ n.toList ∈ moNames (y.drop (i + 1))) := by
      rw [List.drop_eq_getElem_cons hlt]
      unfold moNames
      rw [List.map_cons, List.mem_cons]
      exact ⟨fun h => h.imp (fun e => e.symm) id, fun h => h.imp (fun e => e.symm) id⟩
    rw [show k + (d + 1) + 1 = (k + d + 1) + 1 from by omega]
    conv => lhs; unfold rule_Months.l1
    rw [if_pos (by omega), if_pos (by omega), if_pos (by omega), mo_at y i hlt, w64_id (n := (i : Int) + 1) (by omega) (by omega)]
    rw [show ((i + 1 : Nat) : Int) = (i : Int) + 1 from by omega] at ih
    by_cases c : y[i].f0.toList = n.toList
    · rw [if_pos c, if_pos (hc.2 (.inl c))]
    · rw [if_neg c, ih]
      by_cases c2 : n.toList ∈ moNames (y.drop (i + 1))
      · rw [if_pos c2, if_pos (hc.2 (.inr c2))]
      · rw [if_neg c2, if_neg (fun h => (hc.1 h).elim c c2)]
theorem rule_Months_l0 (l : List S53) (hl : l.length ≤ 20) : ∀ (d i k : Nat) (a b : Int), i + d = l.length → 30 * d + 30 < k → 0 ≤ a → a ≤ 400 * i → 0 ≤ b → b ≤ 400 * i →
    rule_Months.l0 k l a b l (l.length : Int) (i : Int) = some (moFrom a b (moNames (l.take i)) (l.drop i)) := by
  intro d
  induction d with
  | zero =>
    intro i k a b hi hk ha ha1 hb hb1
    obtain ⟨k, rfl⟩ : ∃ m, k = m + 1 := ⟨k - 1, by omega⟩
    conv => lhs; unfold rule_Months.l0
    rw [if_neg (by omega), List.drop_of_length_le (by omega)]
    unfold moFrom
    by_cases c : a = 0
    · rw [if_pos c, if_pos c]
    rw [if_neg c, if_neg c]
    by_cases c : b = 0
    · rw [if_pos c, if_pos c]
    rw [if_neg c, if_neg c]
  | succ d ih =>
    intro i k a b hi hk ha ha1 hb hb1
    have hlt : i < l.length := by omega
    obtain ⟨k, rfl⟩ : ∃ m, k = m + i + 1 + 1 := ⟨k - i - 2, by omega⟩
    conv => lhs; unfold rule_Months.l0
    rw [if_pos (by omega), if_pos (by omega), if_pos (by omega), mo_at l i hlt, rule_Name_f, Option.bind_some, List.drop_eq_getElem_cons hlt]
    unfold moFrom
    by_cases c1 : isName l[i].f0 = true
    · have hty : (l.take i).length = i := by rw [List.length_take]; omega
      have h1 := rule_Months_l1 l a b l (l.length : Int) (i : Int) (l.take i) l[i].f0 l[i].f1 l[i].f2 (by omega) i 0 k (by omega)
      rw [if_pos c1, if_pos c1, if_pos (by omega), Option.bind_some, show ((i : Int).toNat) = i from by omega]
      rw [List.drop_zero] at h1
      refine h1.trans ?_
      by_cases c2 : l[i].f0.toList ∈ moNames (l.take i)
      · rw [if_pos c2, if_pos c2]
      rw [if_neg c2, if_neg c2]
      by_cases c3 : (0 ≤ l[i].f1 ∧ l[i].f1 ≤ 400) ∧ (0 ≤ l[i].f2 ∧ l[i].f2 ≤ 400)
      · rw [if_pos c3, if_pos c3, moNames_snoc l i hlt, w64_id (n := a + l[i].f1) (by omega) (by omega), w64_id (n := b + l[i].f2) (by omega) (by omega), w64_id (n := (i : Int) + 1) (by omega) (by omega)]
        exact ih (i + 1) k (a + l[i].f1) (b + l[i].f2) (by omega) (by omega) (by omega) (by omega) (by omega) (by omega)
      · rw [if_neg c3, if_neg c3]
    · rw [if_neg c1, if_neg c1]
theorem rule_Months_f (l : List S53) (k : Nat) (hk : 700 ≤ k) : rule_Months.f k l = some (moErr l) := by
  obtain ⟨k, rfl⟩ : ∃ m, k = m + 1 := ⟨k - 1, by omega⟩
  have e : rule_Months.f (k + 1) l = rule_Months.j0 (k + 1) l (decide (¬ (1 ≤ l.length ∧ l.length ≤ 20))) := by
    unfold rule_Months.f
    by_cases c : (l.length : Int) < 1
    · rw [if_pos c, decide_eq_true (by omega)]
    · rw [if_neg c]
      by_cases c2 : (l.length : Int) > 20
      · rw [decide_eq_true c2, decide_eq_true (by omega)]
      · rw [decide_eq_false c2, decide_eq_false (by omega)]
  rw [e]
  conv => lhs; unfold rule_Months.j0
  simp only [decide_eq_true_eq]
  unfold moErr
  by_cases c : 1 ≤ l.length ∧ l.length ≤ 20
  · rw [if_neg (fun h => h c), if_pos c]
    exact rule_Months_l0 l c.2 l.length 0 k 0 0 (by omega) (by omega) (by omega) (by omega) (by omega) (by omega)
  · rw [if_pos c, if_neg c]

/-- The fault of a rule. -/
def ruleErr (n : ByteArray) (e c a b : Int) (l : List S24) (ms : List S53) : Int :=
  if isName n = true then (if (-4000000 ≤ e ∧ e ≤ 4000000) ∧ (1 ≤ c ∧ c ≤ 3000) then (if exErr a b l = 0 then moErr ms else exErr a b l) else 3) else 5
theorem rule_Check_f (n : ByteArray) (e c a b : Int) (l : List S24) (ms : List S53) (k : Nat) (hk : 701 ≤ k) : rule_Check.f k n e c a b l ms = some (ruleErr n e c a b l ms) := by
  obtain ⟨k, rfl⟩ : ∃ j, k = j + 1 := ⟨k - 1, by omega⟩
  unfold rule_Check.f ruleErr
  rw [rule_Name_f, Option.bind_some]
  by_cases h1 : isName n = true
  · rw [if_pos h1, if_pos h1, line_Check_f, Option.bind_some]
    have bad : rule_Check.j0 (k + 1) true n e c a b l ms = some 3 := by simp only [rule_Check.j0, if_true]
    by_cases h2 : -4000000 ≤ e ∧ e ≤ 4000000
    · rw [if_pos h2, if_pos rfl]
      by_cases h3 : c < 1
      · rw [if_pos h3, bad, if_neg (by omega)]
      rw [if_neg h3]
      by_cases h4 : c > 3000
      · rw [decide_eq_true h4, bad, if_neg (by omega)]
      rw [decide_eq_false h4, if_pos ⟨h2, by omega⟩]
      simp only [rule_Check.j0]
      rw [if_neg (by decide), show runtime_plainError_RuntimeError.f 0 = some 0 from rfl, Option.bind_some]
      obtain ⟨q, hq⟩ := rule_walk_f a b l k (by omega)
      rw [hq, Option.bind_some]
      by_cases h5 : exErr a b l = 0
      · rw [if_pos h5, if_pos h5, rule_Months_f _ _ (by omega)]; rfl
      · rw [if_neg h5, if_neg h5]
    · rw [if_neg h2, if_neg (by omega), bad, if_neg (fun g => h2 g.1)]
  · rw [if_neg h1, if_neg h1]

theorem whole_Div_f {a b : Int} (k : Nat) (hk : 1 ≤ k) (ha : -9223372036854775808 ≤ a) (ha1 : a ≤ 9223372036854775807) (hb : -9223372036854775808 ≤ b) (hb1 : b ≤ 9223372036854775807) : whole_Div.f k a b = some (divs a b) := by
  obtain ⟨k, rfl⟩ : ∃ m, k = m + 1 := ⟨k - 1, by omega⟩
  unfold whole_Div.f divs
  by_cases c : b = 0
  · rw [if_pos c, if_pos c]
  rw [if_neg c, if_neg c]
  by_cases d : a = -9223372036854775808 ∧ b = -1
  · rw [if_pos d.1, if_pos d, d.2]; simp [whole_Div.j0]
  have e : (if a = (-9223372036854775808) then (whole_Div.j0 (k + 1) a b (b == (-1))) else (whole_Div.j0 (k + 1) a b false)) = whole_Div.j0 (k + 1) a b false := by
    by_cases c1 : a = -9223372036854775808
    · rw [if_pos c1, show (b == -1) = false from beq_eq_false_iff_ne.2 (fun h => d ⟨c1, h⟩)]
    · rw [if_neg c1]
  rw [e, if_neg d]
  simp only [whole_Div.j0, Bool.false_eq_true, if_false]
  rw [if_neg c]
  obtain ⟨b1, b2⟩ := tdiv_bound a b c ha ha1 d
  obtain ⟨g1, g2, g3⟩ := fd_of_t a b c
  obtain ⟨t0, t1, t2, t3, t4⟩ := tdm a b c
  rw [w64_id b1 b2]
  by_cases hz : Int.tmod a b = 0
  · rw [if_pos hz, (g1 hz).1, (g1 hz).2, hz]
  · rw [if_neg hz]
    cases hs : (decide (Int.tmod a b < 0) != decide (b < 0)) with
    | true =>
      have hq : fd a b = Int.tdiv a b - 1 := (g2 hz hs).1
      have hfs := fd_spec a b c
      have hlow : -9223372036854775808 ≤ Int.tdiv a b - 1 := by
        by_cases hm : Int.tdiv a b = -9223372036854775808
        · exfalso
          have h9 : (Int.tdiv a b).natAbs = a.natAbs / b.natAbs := Int.natAbs_tdiv a b
          rw [hm] at h9
          have h10 : a.natAbs / b.natAbs ≤ a.natAbs := Nat.div_le_self _ _
          by_cases hb2 : b.natAbs = 1
          · have : b = 1 ∨ b = -1 := by omega
            rcases this with rfl | rfl
            · exact hz (by rw [Int.tmod_one])
            · exact hz (by rw [Int.tmod_neg, Int.tmod_one])
          · have : a.natAbs / b.natAbs ≤ a.natAbs / 2 := Nat.div_le_div_left (by omega) (by omega)
            omega
        · omega
      have hss : (Int.tmod a b < 0 ∧ 0 < b) ∨ (0 < Int.tmod a b ∧ b < 0) := by
        by_cases hx : Int.tmod a b < 0 <;> by_cases hy : b < 0 <;> simp [hx, hy] at hs
        · exact .inl ⟨hx, by omega⟩
        · exact .inr ⟨by omega, hy⟩
      simp only [if_true]
      rw [(g2 hz hs).1, (g2 hz hs).2, w64_id hlow (by omega), w64_id (n := Int.tmod a b + b) (by omega) (by omega)]
    | false =>
      simp only [Bool.false_eq_true, if_false]
      rw [(g3 hz hs).1, (g3 hz hs).2]

theorem rule_boolean_f (b : Bool) : rule_boolean.f b = some (if b = true then 1 else 0) := by unfold rule_boolean.f; split <;> rfl
/-- A number that is let in, or the fault. -/
def fin31 (v : Int) : Int × Int := if v < -2147483647 then (0, 14) else (if v > 2147483647 then (0, 14) else (v, 0))
/-- What an operation gives. -/
def opv (kd n y a b : Int) : Int × Int :=
  if kd = 1 then fin31 n else (if kd = 2 then fin31 y else (if kd = 3 then fin31 (-a) else (if kd = 4 then fin31 (a + b) else (if kd = 5 then fin31 (a - b) else (if kd = 6 then fin31 (a * b) else
  (if kd = 7 then (if (divs a b).2.2 = 0 then fin31 (divs a b).1 else (0, (divs a b).2.2)) else (if kd = 8 then (if (divs a b).2.2 = 0 then fin31 (divs a b).2.1 else (0, (divs a b).2.2)) else
  (if kd = 9 then fin31 (if a < b then 1 else 0) else (if kd = 10 then fin31 (if a = b then 1 else 0) else (if kd = 11 then fin31 (if a = 0 then 1 else 0) else
  (if kd = 12 then fin31 (if a ≠ 0 ∧ b ≠ 0 then 1 else 0) else fin31 (if a ≠ 0 ∨ b ≠ 0 then 1 else 0))))))))))))
theorem fin31_in (v : Int) : -2147483647 ≤ (fin31 v).1 ∧ (fin31 v).1 ≤ 2147483647 := by unfold fin31; grind
theorem ite_in31 {p : Prop} [Decidable p] {x y : Int × Int} (hx : -2147483647 ≤ x.1 ∧ x.1 ≤ 2147483647) (hy : -2147483647 ≤ y.1 ∧ y.1 ≤ 2147483647) : -2147483647 ≤ (if p then x else y).1 ∧ (if p then x else y).1 ≤ 2147483647 := by
  split
  · exact hx
  · exact hy
theorem opv_in (kd n y a b : Int) : -2147483647 ≤ (opv kd n y a b).1 ∧ (opv kd n y a b).1 ≤ 2147483647 := by
  have z : ∀ e : Int, -2147483647 ≤ ((0, e) : Int × Int).1 ∧ ((0, e) : Int × Int).1 ≤ 2147483647 := fun e => ⟨by show (-2147483647 : Int) ≤ 0; omega, by show (0 : Int) ≤ 2147483647; omega⟩
  unfold opv
  repeat (first | exact fin31_in _ | exact z _ | refine ite_in31 ?_ ?_)
theorem mul_small {a b : Int} (ha : -2147483647 ≤ a ∧ a ≤ 2147483647) (hb : -2147483647 ≤ b ∧ b ≤ 2147483647) : -4611686018427387904 ≤ a * b ∧ a * b ≤ 4611686018427387904 := by
  have h1 : ab a ≤ 2147483647 := by unfold ab; split <;> omega
  have h2 : ab b ≤ 2147483647 := by unfold ab; split <;> omega
  have h3 : ab a * ab b ≤ 2147483647 * 2147483647 := Int.mul_le_mul h1 h2 (ab_nonneg b) (by omega)
  have h4 : 0 ≤ ab a * ab b := Int.mul_nonneg (ab_nonneg a) (ab_nonneg b)
  rcases ab_mul a b with ⟨_, e⟩ | ⟨_, e⟩ <;> rw [e] <;> omega
theorem value_end (kd n y a b : Int) (hk : 1 ≤ kd ∧ kd ≤ 13) (ha : -2147483647 ≤ a ∧ a ≤ 2147483647) (hb : -2147483647 ≤ b ∧ b ≤ 2147483647) (xs l : List S24) (q : Int) (k : Nat) :
    rule_machine_value.l0 (k + 3) xs q q y 0 kd n l a b = some ((opv kd n y a b).1, y, (opv kd n y a b).2) := by
  conv => lhs; unfold rule_machine_value.l0
  rw [if_neg (by omega)]
  have hm := mul_small ha hb
  have w1 : wrap64 (-a) = -a := w64_id (by omega) (by omega)
  have w2 : wrap64 (a + b) = a + b := w64_id (by omega) (by omega)
  have w3 : wrap64 (a - b) = a - b := w64_id (by omega) (by omega)
  have w4 : wrap64 (a * b) = a * b := w64_id (by omega) (by omega)
  have hD := whole_Div_f (a := a) (b := b) (k + 1) (by omega) (by omega) (by omega) (by omega) (by omega)
  simp only [w1, w2, w3, w4, rule_machine_value.j1, hD, rule_boolean_f, Option.bind_some]
  clear w1 w2 w3 w4 hD
  have hfin : ∀ v : Int, (if v < -2147483647 then some (0, y, 14) else (if v > 2147483647 then some (0, y, 14) else some (v, y, 0))) = some ((fin31 v).1, y, (fin31 v).2) := by intro v; unfold fin31; grind
  simp only [hfin]
  clear hfin
  unfold opv
  generalize divs a b = dv
  generalize a * b = ab_ at hm ⊢
  generalize fin31 = F
  have hc : kd = 1 ∨ kd = 2 ∨ kd = 3 ∨ kd = 4 ∨ kd = 5 ∨ kd = 6 ∨ kd = 7 ∨ kd = 8 ∨ kd = 9 ∨ kd = 10 ∨ kd = 11 ∨ kd = 12 ∨ kd = 13 := by omega
  rcases hc with rfl | rfl | rfl | rfl | rfl | rfl | rfl | rfl | rfl | rfl | rfl | rfl | rfl <;> simp <;> grind
theorem value_kids (kd n y : Int) (l : List S24) (k : Nat) (c0 : S24) (r0 : Int × Int) (hl : l = [c0]) (h0 : rule_machine_value.f (k + 3) y 0 c0.f0 c0.f1 c0.f2 = some (r0.1, y, r0.2))
    (hk : 1 ≤ kd ∧ kd ≤ 13) (hr : -2147483647 ≤ r0.1 ∧ r0.1 ≤ 2147483647) :
    rule_machine_value.f (k + 5) y 0 kd n l = some (if r0.2 = 0 then ((opv kd n y r0.1 0).1, y, (opv kd n y r0.1 0).2) else (0, y, r0.2)) := by
  subst hl
  conv => lhs; unfold rule_machine_value.f
  conv => lhs; unfold rule_machine_value.l0
  rw [if_pos (by simp), if_pos (by omega), if_pos (by simp), show rd_T24 [c0] 0 = c0 from rfl, h0, Option.bind_some, if_pos rfl]
  by_cases e : r0.2 = 0
  · rw [if_pos e, if_pos e]
    show rule_machine_value.l0 (k + 3) [c0] 1 1 y r0.2 kd n [c0] r0.1 0 = _
    rw [e]
    exact value_end kd n y r0.1 0 hk hr (by omega) _ _ _ _
  · rw [if_neg e, if_neg e]
theorem value_kids2 (kd n y : Int) (l : List S24) (k : Nat) (c0 c1 : S24) (r0 r1 : Int × Int) (hl : l = [c0, c1]) (h0 : rule_machine_value.f (k + 4) y 0 c0.f0 c0.f1 c0.f2 = some (r0.1, y, r0.2))
    (h1 : rule_machine_value.f (k + 3) y 0 c1.f0 c1.f1 c1.f2 = some (r1.1, y, r1.2)) (hk : 1 ≤ kd ∧ kd ≤ 13) (hr : -2147483647 ≤ r0.1 ∧ r0.1 ≤ 2147483647) (hr1 : -2147483647 ≤ r1.1 ∧ r1.1 ≤ 2147483647) :
    rule_machine_value.f (k + 6) y 0 kd n l = some (if r0.2 = 0 then (if r1.2 = 0 then ((opv kd n y r0.1 r1.1).1, y, (opv kd n y r0.1 r1.1).2) else (0, y, r1.2)) else (0, y, r0.2)) := by
  subst hl
  conv => lhs; unfold rule_machine_value.f
  conv => lhs; unfold rule_machine_value.l0
  rw [if_pos (by simp), if_pos (by omega), if_pos (by simp), show rd_T24 [c0, c1] 0 = c0 from rfl, h0, Option.bind_some, if_pos rfl]
  by_cases e : r0.2 = 0
  · rw [if_pos e, if_pos e]
    show rule_machine_value.l0 (k + 4) [c0, c1] 2 1 y r0.2 kd n [c0, c1] r0.1 0 = _
    rw [e]
    conv => lhs; unfold rule_machine_value.l0
    rw [if_pos (by omega), if_pos (by omega), if_pos (by simp), show rd_T24 [c0, c1] 1 = c1 from rfl, h1, Option.bind_some, if_neg (by omega), if_pos rfl]
    by_cases e1 : r1.2 = 0
    · rw [if_pos e1, if_pos e1]
      show rule_machine_value.l0 (k + 3) [c0, c1] 2 2 y r1.2 kd n [c0, c1] r0.1 r1.1 = _
      rw [e1]
      exact value_end kd n y r0.1 r1.1 hk hr hr1 _ _ _ _
    · rw [if_neg e1, if_neg e1]
  · rw [if_neg e, if_neg e]

theorem ephemerisref1_Size_f {a : Int} (h0 : -9223372036854775808 ≤ a) (h1 : a ≤ 9223372036854775807) : ephemerisref1_Size.f a = some (ab a) := by
  unfold ephemerisref1_Size.f ab
  by_cases c : a < 0
  · rw [if_pos c, if_pos c, w64_id (n := a + 1) (by omega) (by omega), w64_id (n := -(a + 1)) (by omega) (by omega), u64_id (n := -(a + 1)) (by omega) (by omega), u64_id (by omega) (by omega)]
    congr 1; omega
  · rw [if_neg c, if_neg c, u64_id (by omega) (by omega)]

theorem ephemerisref1_Div_l0 (X Y : Int) (hX : 0 ≤ X) (hX1 : X < 18446744073709551616) (hY : 0 < Y) (hY1 : Y ≤ 9223372036854775808) :
    ∀ (n k : Nat), n ≤ 64 → n < k → ephemerisref1_Div.l0 k X Y (X / 2 ^ n / Y * 2 ^ n) (X / 2 ^ n % Y) ((n : Int) - 1) = some (X / Y, X % Y) := by
  intro n
  induction n with
  | zero =>
    intro k _ hk
    obtain ⟨k, rfl⟩ : ∃ m, k = m + 1 := ⟨k - 1, by omega⟩
    simp only [ephemerisref1_Div.l0]
    rw [if_neg (by omega)]
    simp
  | succ n ih =>
    intro k hn hk
    obtain ⟨k, rfl⟩ : ∃ m, k = m + 1 := ⟨k - 1, by omega⟩
    have ih := ih k (by omega) (by omega)
    have hhp := half_pow X n
    have hpow : (2 : Int) ^ (n + 1) = 2 * 2 ^ n := by rw [Int.pow_succ, Int.mul_comm]
    have hpp := pow_pos' n
    have hp63 := pow_le_63 n (by omega)
    have hd1 := div_pow_le X Y (n + 1) hX hY
    have hd0 := div_pow_le X Y n hX hY
    have hz : 0 ≤ X / 2 ^ n := Int.ediv_nonneg hX (by omega)
    obtain ⟨s1, s2⟩ := long_step (X / 2 ^ n) Y hz hY
    rw [← hhp] at s1 s2
    have r0 := Int.emod_nonneg (X / 2 ^ (n + 1)) (b := Y) (by omega)
    have r1 := Int.emod_lt_of_pos (X / 2 ^ (n + 1)) hY
    have hshr : shr .u64 X ((n : Int) + 1 - 1) = X / 2 ^ n := by
      rw [show (n : Int) + 1 - 1 = n from by omega]; exact shr_pow X n (by omega)
    have hshl : shl .u64 1 ((n : Int) + 1 - 1) = 2 ^ n := by
      rw [show (n : Int) + 1 - 1 = n from by omega]; exact shl_one n (by omega)
    have hzx : X / 2 ^ n ≤ X := Int.ediv_le_self _ hX
    have hmod : (X / 2 ^ (n + 1) / Y * 2 ^ (n + 1)) % 2 ^ (n + 1) = 0 := Int.mul_emod_left _ _
    have hor : Go.bits .or .u64 (X / 2 ^ (n + 1) / Y * 2 ^ (n + 1)) (2 ^ n) = X / 2 ^ (n + 1) / Y * 2 ^ (n + 1) + 2 ^ n :=
      or_join (n + 1) _ _ hd1.1 (by omega) hmod (by omega) (by omega) (by omega)
    have q2 : X / 2 ^ (n + 1) / Y * 2 ^ (n + 1) = 2 * (X / 2 ^ (n + 1) / Y) * 2 ^ n := by
      rw [hpow, Int.mul_comm 2 (X / (2 * 2 ^ n) / Y), Int.mul_assoc]
    generalize hR : X / 2 ^ (n + 1) % Y = R at *
    generalize hQ : X / 2 ^ (n + 1) / Y * 2 ^ (n + 1) = Q at *
    simp only [ephemerisref1_Div.l0]
    rw [show (((n + 1 : Nat) : Int) - 1) = (n : Int) + 1 - 1 from by omega]
    rw [if_pos (by omega), hshr, hshl, hor, w64_id (n := (n : Int) + 1 - 1 - 1) (by omega) (by omega), show (n : Int) + 1 - 1 - 1 = (n : Int) - 1 from by omega]
    rw [and_one _ hz (by omega), u64_id (n := R * 2) (by omega) (by omega)]
    have hbit := Int.emod_nonneg (X / 2 ^ n) (b := 2) (by omega)
    have hbit1 := Int.emod_lt_of_pos (X / 2 ^ n) (b := 2) (by omega)
    rw [or_join 1 (R * 2) _ (by omega) (by omega) (by simp only [Int.reducePow]; omega) hbit (by simp only [Int.reducePow]; omega) (by omega)]
    rw [if_neg (by omega)]
    rw [show R * 2 + X / 2 ^ n % 2 = 2 * R + X / 2 ^ n % 2 from by omega]
    by_cases c : Y ≤ 2 * R + X / 2 ^ n % 2
    · rw [if_pos c, u64_id (by omega) (by omega)]
      have e := s1 c
      rw [e.1, e.2, Int.add_mul, Int.one_mul, ← q2] at ih
      exact ih
    · rw [if_neg c]
      have e := s2 c
      rw [e.1, e.2, ← q2] at ih
      exact ih
theorem ephemerisref1_Div_f {a b : Int} (k : Nat) (hk : 65 ≤ k) (ha : -9223372036854775808 ≤ a) (ha1 : a ≤ 9223372036854775807) (hb : -9223372036854775808 ≤ b) (hb1 : b ≤ 9223372036854775807) : ephemerisref1_Div.f k a b = some (divs a b) := by
  unfold ephemerisref1_Div.f
  by_cases c : b = 0
  · rw [if_pos c]; unfold divs; rw [if_pos c]
  rw [if_neg c, ephemerisref1_Size_f ha ha1, ephemerisref1_Size_f hb hb1]
  simp only [Option.bind_some]
  have hX := ab_nonneg a
  have hX1 := ab_le ha ha1
  have hY1 := ab_le hb hb1
  have hY : 0 < ab b := by unfold ab; split <;> omega
  have h64 := ephemerisref1_Div_l0 (ab a) (ab b) hX (by omega) hY hY1 64 k (by omega) (by omega)
  have hz : ab a / 2 ^ 64 = 0 := Int.ediv_eq_zero_of_lt hX (by simp only [Int.reducePow]; omega)
  rw [hz] at h64
  simp only [Int.zero_ediv, Int.zero_mul, Int.zero_emod] at h64
  rw [show (((64 : Nat) : Int) - 1) = 63 from by omega] at h64
  rw [h64]
  simp only [Option.bind_some, Option.some.injEq]
  have h1 := Int.mul_ediv_add_emod (ab a) (ab b)
  have h2 := Int.emod_nonneg (ab a) (b := ab b) (by omega)
  have h3 := Int.emod_lt_of_pos (ab a) hY
  have h4 : ab a / ab b ≤ ab a := Int.ediv_le_self _ hX
  have h5 : 0 ≤ ab a / ab b := Int.ediv_nonneg hX (by omega)
  have h6 : 2 ≤ ab b → ab a / ab b ≤ 4611686018427387904 := fun h => by
    have : ab a / ab b ≤ ab a / 2 := by
      have := Int.ediv_le_ediv (c := 2) (by omega) (a := ab a / ab b * 2) (b := ab a) (by
        have : ab a / ab b * 2 ≤ ab a / ab b * ab b := Int.mul_le_mul_of_nonneg_left h h5
        rw [Int.mul_comm (ab b)] at h1
        omega)
      omega
    omega
  have h7 : ab b = 1 → ab a / ab b = ab a ∧ ab a % ab b = 0 := fun h => by rw [h]; omega
  have uniq : ∀ {q r : Int}, a = b * q + r → (0 < b → 0 ≤ r ∧ r < b) → (b < 0 → b < r ∧ r ≤ 0) → ¬ (a = -9223372036854775808 ∧ b = -1) → divs a b = (q, r, 0) := by
    intro q r e1 e2 e3 e4
    have := fd_uniq e1 e2 e3 c
    unfold divs
    rw [if_neg c, if_neg e4, this.1, this.2]
  generalize hq : ab a / ab b = q at *
  generalize hr : ab a % ab b = r at *
  clear h64 hz
  have eY : ∀ s : Int, (-(ab b)) * s = -(ab b * s) := fun s => by rw [Int.neg_mul]
  by_cases sa : a < 0 <;> by_cases sb : b < 0
  · have xa : a = -(ab a) := by unfold ab; rw [if_pos sa]; omega
    have xb : b = -(ab b) := by unfold ab; rw [if_pos sb]; omega
    simp only [ephemerisref1_Div.e0, ephemerisref1_Div.e1, sa, sb, decide_true, bne_self_eq_false, Bool.false_eq_true, false_and, if_false, true_and, if_true]
    by_cases c2 : q > 9223372036854775807
    · rw [if_pos c2]
      unfold divs
      have : ab b = 1 := by
        by_cases h : 2 ≤ ab b
        · have := h6 h; omega
        · omega
      rw [if_neg c, if_pos (by omega)]
    · rw [if_neg c2, w64_id (by omega) (by omega), u64_def, w64_def]
      rw [uniq (q := q) (r := -r) (by rw [xb, eY]; omega) (by omega) (by omega) (fun h => by have := h7 (by omega); omega)]
      congr 2; omega
  · have xa : a = -(ab a) := by unfold ab; rw [if_pos sa]; omega
    have xb : b = ab b := by unfold ab; rw [if_neg sb]
    simp only [ephemerisref1_Div.e0, ephemerisref1_Div.e1, sa, sb, decide_true, decide_false, Bool.bne_false, Bool.false_eq_true, true_and, if_true, Bool.true_eq_false, false_and, if_false]
    by_cases c2 : r = 0
    · rw [if_neg (fun h => h c2), u64_def, w64_def, w64_id (by omega) (by omega)]
      rw [uniq (q := -q) (r := 0) (by rw [xb, Int.mul_neg]; omega) (by omega) (by omega) (by omega)]
      rw [c2]
      congr 1; omega
    · rw [if_pos c2, u64_id (n := q + 1) (by omega) (by omega), u64_id (n := ab b - r) (by omega) (by omega), u64_def, w64_def, w64_id (by omega) (by omega)]
      have : q ≤ 9223372036854775807 := by
        by_cases h : 2 ≤ ab b
        · have := h6 h; omega
        · have := h7 (by omega); omega
      have eb : b * q = ab b * q := by rw [← xb]
      rw [uniq (q := -(q + 1)) (r := ab b - r) (by rw [Int.mul_neg, Int.mul_add, Int.mul_one, eb]; omega) (by omega) (by omega) (by omega)]
      congr 1; omega
  · have xa : a = ab a := by unfold ab; rw [if_neg sa]
    have xb : b = -(ab b) := by unfold ab; rw [if_pos sb]; omega
    simp only [ephemerisref1_Div.e0, ephemerisref1_Div.e1, sa, sb, decide_true, decide_false, Bool.bne_true, Bool.not_false, Bool.false_eq_true, true_and, if_true, Bool.true_eq_false, false_and, if_false]
    by_cases c2 : r = 0
    · rw [if_neg (fun h => h c2), u64_def, w64_def, u64_def, w64_def]
      rw [uniq (q := -q) (r := 0) (by rw [xb, eY, Int.mul_neg]; omega) (by omega) (by omega) (by omega)]
      rw [c2]
      congr 1
      omega
    · rw [if_pos c2, u64_id (n := q + 1) (by omega) (by omega), u64_id (n := ab b - r) (by omega) (by omega), u64_def, w64_def, u64_def, w64_def]
      have eb := eY q
      rw [← xb] at eb
      rw [uniq (q := -(q + 1)) (r := -(ab b - r)) (by rw [Int.mul_neg, Int.mul_add, Int.mul_one, eb]; omega) (by omega) (by omega) (by omega)]
      congr 1
      · omega
      · congr 1; omega
  · have xa : a = ab a := by unfold ab; rw [if_neg sa]
    have xb : b = ab b := by unfold ab; rw [if_neg sb]
    simp only [ephemerisref1_Div.e0, ephemerisref1_Div.e1, sa, sb, decide_false, bne_self_eq_false, Bool.false_eq_true, false_and, if_false, true_and]
    rw [if_neg (by omega), w64_id (by omega) (by omega), w64_id (by omega) (by omega)]
    rw [uniq (q := q) (r := r) (by rw [xb]; omega) (by omega) (by omega) (by omega)]

theorem ephemerisref1_wide_f {a b : Int} (ha : 0 ≤ a) (ha1 : a < 18446744073709551616) (hb : 0 ≤ b) (hb1 : b < 18446744073709551616) : ephemerisref1_wide.f a b = some (a * b / 18446744073709551616, a * b % 18446744073709551616) := by
  unfold ephemerisref1_wide.f
  rw [and_mask a ha ha1, and_mask b hb hb1]
  obtain ⟨h00, h10, h01, h11⟩ := halves a b ha ha1 hb hb1
  have hw := wide_high a b ha ha1 hb hb1
  have hs := halves_mul a b
  have hpl := wide_plain _ _ _ _ h00 h10 h01 h11
  rw [← hs] at hpl
  generalize a * b = p at *
  generalize a % 4294967296 * (b % 4294967296) = p00 at *
  generalize a / 4294967296 * (b % 4294967296) = p10 at *
  generalize a % 4294967296 * (b / 4294967296) = p01 at *
  generalize a / 4294967296 * (b / 4294967296) = p11 at *
  obtain ⟨hp1, hp2⟩ := hpl
  rw [u64_id (n := p00) (by omega) (by omega), u64_id (n := p10) (by omega) (by omega), u64_id (n := p01) (by omega) (by omega), u64_id (n := p11) (by omega) (by omega)]
  rw [u64_id (n := p10 + p00 / 4294967296) (by omega) (by omega)]
  rw [and_mask (p10 + p00 / 4294967296) (by omega) (by omega), and_mask p00 (by omega) (by omega)]
  rw [u64_id (n := p01 + (p10 + p00 / 4294967296) % 4294967296) (by omega) (by omega)]
  rw [u64_id (n := p11 + (p10 + p00 / 4294967296) / 4294967296) (by omega) (by omega)]
  rw [u64_id (n := p11 + (p10 + p00 / 4294967296) / 4294967296 + (p01 + (p10 + p00 / 4294967296) % 4294967296) / 4294967296) (by omega) (by omega)]
  rw [u64_def ((p01 + (p10 + p00 / 4294967296) % 4294967296) * 4294967296)]
  rw [or_join 32 _ _ (by omega) (by omega) (by simp only [Int.reducePow]; omega) (by omega) (by simp only [Int.reducePow]; omega) (by omega)]
  rw [hp1, hp2]

theorem ephemerisref1_Mul_f {a b : Int} (k : Nat) (hk : 1 ≤ k) (ha : -9223372036854775808 ≤ a) (ha1 : a ≤ 9223372036854775807) (hb : -9223372036854775808 ≤ b) (hb1 : b ≤ 9223372036854775807) : ephemerisref1_Mul.f k a b = some (muls a b) := by
  obtain ⟨k, rfl⟩ : ∃ m, k = m + 1 := ⟨k - 1, by omega⟩
  obtain ⟨hm1, hm2⟩ := muls_of a b ha ha1 hb hb1
  have e1 := ab_nonneg a
  have e2 := ab_nonneg b
  have e3 := ab_le ha ha1
  have e4 := ab_le hb hb1
  unfold ephemerisref1_Mul.f
  rw [ephemerisref1_Size_f ha ha1, ephemerisref1_Size_f hb hb1]
  simp only [Option.bind_some]
  rw [ephemerisref1_wide_f e1 (by omega) e2 (by omega)]
  simp only [Option.bind_some]
  have hp : 0 ≤ ab a * ab b := Int.mul_nonneg e1 e2
  generalize ab a * ab b = p at *
  clear e1 e2 e3 e4
  cases hs : ((decide (a < 0)) != (decide (b < 0))) with
  | true =>
    rw [hm1 hs]
    by_cases c : p / 18446744073709551616 = 0
    · rw [if_pos c, show p % 18446744073709551616 = p from by omega]
      simp only [ephemerisref1_Mul.j0, hs, decide_eq_true_eq, if_true]
      by_cases c2 : p > 9223372036854775808
      · rw [if_pos c2, if_neg (by omega)]
      · rw [if_neg c2, if_pos (by omega), u64_def, w64_def]
        congr 2; omega
    · rw [if_neg c]
      simp only [ephemerisref1_Mul.j0, if_true]
      rw [if_neg (by omega)]
  | false =>
    rw [hm2 hs]
    by_cases c : p / 18446744073709551616 = 0
    · rw [if_pos c, show p % 18446744073709551616 = p from by omega]
      simp only [ephemerisref1_Mul.j0, hs, decide_eq_true_eq, Bool.false_eq_true, if_false]
      by_cases c2 : p > 9223372036854775808
      · rw [if_pos c2, if_neg (by omega)]
      · rw [if_neg c2]
        by_cases c3 : p = 9223372036854775808
        · rw [if_pos c3, if_neg (by omega)]
        · rw [if_neg c3, if_pos (by omega), w64_id (by omega) (by omega)]
    · rw [if_neg c]
      simp only [ephemerisref1_Mul.j0, if_true]
      rw [if_neg (by omega)]

theorem ephemerisref1_yes_f (b : Bool) : ephemerisref1_yes.f b = some (if b = true then 1 else 0) := by unfold ephemerisref1_yes.f; split <;> rfl

theorem ephemerisref1_In_f (x lo hi : Int) : ephemerisref1_In.f x lo hi = some (decide (lo ≤ x ∧ x ≤ hi)) := by
  unfold ephemerisref1_In.f
  by_cases h : x ≥ lo
  · rw [if_pos h]; congr 1; simp; omega
  · rw [if_neg h]; congr 1; simp; omega

theorem ephemerisref1_Num_f (x : Int) : ephemerisref1_Num.f x = some (decide (-2147483647 ≤ x ∧ x ≤ 2147483647)) := by
  unfold ephemerisref1_Num.f
  rw [ephemerisref1_In_f]; rfl

theorem Eval_j2 (k : Nat) (v : Int) : ephemerisref1_Eval.j2 (k + 1) 0 v = some (fin31 v) := by
  simp only [ephemerisref1_Eval.j2, if_true, ephemerisref1_Num_f, Option.bind_some]
  unfold fin31
  grind
theorem Eval_j2e (k : Nat) (e v : Int) : ephemerisref1_Eval.j2 (k + 1) e v = some (if e = 0 then fin31 v else (0, e)) := by
  by_cases h : e = 0
  · subst h; rw [if_pos rfl]; exact Eval_j2 k v
  · simp only [ephemerisref1_Eval.j2]; rw [if_neg h, if_neg h]
theorem Eval_end (kd n y a b : Int) (hk : 1 ≤ kd ∧ kd ≤ 13) (ha : -2147483647 ≤ a ∧ a ≤ 2147483647) (hb : -2147483647 ≤ b ∧ b ≤ 2147483647) (l : List S24) (k : Nat) (hkk : 65 ≤ k) :
    ephemerisref1_Eval.j1 (k + 2) y a b 0 kd n l = some (opv kd n y a b) := by
  conv => lhs; unfold ephemerisref1_Eval.j1
  have hm := mul_small ha hb
  have w1 : wrap64 (-a) = -a := w64_id (by omega) (by omega)
  have w2 : wrap64 (a + b) = a + b := w64_id (by omega) (by omega)
  have w3 : wrap64 (a - b) = a - b := w64_id (by omega) (by omega)
  have hD := ephemerisref1_Div_f (a := a) (b := b) (k + 1) (by omega) (by omega) (by omega) (by omega) (by omega)
  have hM := ephemerisref1_Mul_f (a := a) (b := b) (k + 1) (by omega) (by omega) (by omega) (by omega) (by omega)
  have hM2 : muls a b = (a * b, 0) := by unfold muls; rw [if_pos (by omega)]
  rw [hM2] at hM
  have y1 : ∀ p q : Bool, wrap64 ((if p = true then 1 else 0) * (if q = true then 1 else 0)) = if p = true ∧ q = true then 1 else 0 := by intro p q; cases p <;> cases q <;> simp [wrap64]
  have y2 : ∀ p : Bool, wrap64 (1 - (if p = true then 1 else 0)) = if p = true then 0 else 1 := by intro p; cases p <;> simp [wrap64]
  have y3 : ∀ p q : Bool, mx (if p = true then 1 else 0) (if q = true then 1 else 0) = if p = true ∨ q = true then 1 else 0 := by intro p q; cases p <;> cases q <;> simp [mx]
  simp only [w1, w2, w3, hD, hM, ephemerisref1_yes_f, Option.bind_some, Eval_j2e, y1, y2, y3]
  clear w1 w2 w3 hD hM hM2 y1 y2 y3
  unfold opv
  generalize divs a b = dv
  generalize a * b = ab_ at hm ⊢
  generalize fin31 = F
  have hc : kd = 1 ∨ kd = 2 ∨ kd = 3 ∨ kd = 4 ∨ kd = 5 ∨ kd = 6 ∨ kd = 7 ∨ kd = 8 ∨ kd = 9 ∨ kd = 10 ∨ kd = 11 ∨ kd = 12 ∨ kd = 13 := by omega
  rcases hc with rfl | rfl | rfl | rfl | rfl | rfl | rfl | rfl | rfl | rfl | rfl | rfl | rfl <;> simp <;> grind
/-- Where an expression is in form, both ways of its value are one. -/
theorem value_m : ∀ (m : Nat) (x : S24) (d : Int), (wk m [(x, d)]).1 = 0 → ∀ (y : Int), -10000 ≤ y ∧ y ≤ 10000 →
    ∃ r : Int × Int, (-2147483647 ≤ r.1 ∧ r.1 ≤ 2147483647) ∧ ∀ k : Nat, 10 * m + 80 ≤ k → rule_machine_value.f k y 0 x.f0 x.f1 x.f2 = some (r.1, y, r.2) ∧ ephemerisref1_Eval.f k x.f0 x.f1 x.f2 y = some r := by
  have z : ∀ e : Int, -2147483647 ≤ ((0, e) : Int × Int).1 ∧ ((0, e) : Int × Int).1 ≤ 2147483647 := fun e => ⟨by show (-2147483647 : Int) ≤ 0; omega, by show (0 : Int) ≤ 2147483647; omega⟩
  intro m
  induction m using Nat.strongRecOn with
  | _ m ih =>
    intro x d hx y hy
    match m, ih, hx with
    | 0, _, hx => exact absurd hx (by show ¬ (2 : Int) = 0; decide)
    | m + 1, ih, hx =>
      rw [wk_succ] at hx
      by_cases c1 : d > 12
      · rw [if_pos c1] at hx; exact absurd hx (by show ¬ (2 : Int) = 0; decide)
      rw [if_neg c1] at hx
      by_cases c2 : nodeOk x = true
      · rw [if_pos c2, List.append_nil] at hx
        have hn : (1 ≤ x.f0 ∧ x.f0 ≤ 13) ∧ (x.f2.length : Int) = rule_walk.kid x.f0 := by
          unfold nodeOk at c2
          rw [Bool.and_eq_true] at c2
          exact of_decide_eq_true c2.1
        have hs := kid_small x.f0 hn.1
        obtain ⟨kd, n, l⟩ := x
        have hn1 : 1 ≤ kd ∧ kd ≤ 13 := hn.1
        have hl2 : l.length ≤ 2 := by have : (l.length : Int) = rule_walk.kid kd := hn.2; have : 0 ≤ rule_walk.kid kd ∧ rule_walk.kid kd ≤ 2 := hs; omega
        show ∃ r : Int × Int, _ ∧ ∀ k : Nat, 10 * (m + 1) + 80 ≤ k → rule_machine_value.f k y 0 kd n l = some (r.1, y, r.2) ∧ ephemerisref1_Eval.f k kd n l y = some r
        have hx' : (wk m (l.map fun z => (z, d + 1))).1 = 0 := hx
        match l, hl2, hx' with
        | [], _, _ =>
          refine ⟨opv kd n y 0 0, opv_in _ _ _ _ _, fun k hk => ?_⟩
          obtain ⟨k, rfl⟩ : ∃ j, k = j + 7 := ⟨k - 7, by omega⟩
          constructor
          · conv => lhs; unfold rule_machine_value.f
            exact value_end kd n y 0 0 hn1 (by omega) (by omega) _ _ _ _
          · conv => lhs; unfold ephemerisref1_Eval.f
            rw [if_neg (by simp)]
            conv => lhs; unfold ephemerisref1_Eval.j0
            rw [if_neg (by simp)]
            exact Eval_end kd n y 0 0 hn1 (by omega) (by omega) _ _ (by omega)
        | [c0], _, h =>
          obtain ⟨r0, b0, f0⟩ := ih m (by omega) c0 (d + 1) h y hy
          refine ⟨if r0.2 = 0 then opv kd n y r0.1 0 else (0, r0.2), ite_in31 (opv_in _ _ _ _ _) (z _), fun k hk => ?_⟩
          obtain ⟨k, rfl⟩ : ∃ j, k = j + 7 := ⟨k - 7, by omega⟩
          constructor
          · rw [value_kids kd n y [c0] (k + 2) c0 r0 rfl (f0 _ (by omega)).1 hn1 b0]
            split <;> rfl
          · conv => lhs; unfold ephemerisref1_Eval.f
            rw [if_pos (by simp), if_pos (by simp), show rd_T24 [c0] 0 = c0 from rfl, (f0 _ (by omega)).2, Option.bind_some]
            by_cases e : r0.2 = 0
            · rw [if_pos e, if_pos e, e]
              conv => lhs; unfold ephemerisref1_Eval.j0
              rw [if_neg (by simp)]
              exact Eval_end kd n y r0.1 0 hn1 b0 (by omega) _ _ (by omega)
            · rw [if_neg e, if_neg e]
        | [c0, c1], _, h =>
          rw [List.map_cons, wk_cons] at h
          by_cases g : (wk m [(c0, d + 1)]).1 = 0
          · rw [if_pos g] at h
            have hle := wk_le m [(c0, d + 1)]
            obtain ⟨r0, b0, f0⟩ := ih m (by omega) c0 (d + 1) g y hy
            obtain ⟨r1, b1, f1⟩ := ih (wk m [(c0, d + 1)]).2 (by omega) c1 (d + 1) h y hy
            refine ⟨if r0.2 = 0 then (if r1.2 = 0 then opv kd n y r0.1 r1.1 else (0, r1.2)) else (0, r0.2), ite_in31 (ite_in31 (opv_in _ _ _ _ _) (z _)) (z _), fun k hk => ?_⟩
            obtain ⟨k, rfl⟩ : ∃ j, k = j + 7 := ⟨k - 7, by omega⟩
            constructor
            · rw [value_kids2 kd n y [c0, c1] (k + 1) c0 c1 r0 r1 rfl (f0 _ (by omega)).1 (f1 _ (by omega)).1 hn1 b0 b1]
              split
              · split <;> rfl
              · rfl
            · conv => lhs; unfold ephemerisref1_Eval.f
              rw [if_pos (by simp), if_pos (by simp), show rd_T24 [c0, c1] 0 = c0 from rfl, (f0 _ (by omega)).2, Option.bind_some]
              by_cases e : r0.2 = 0
              · rw [if_pos e, if_pos e, e]
                conv => lhs; unfold ephemerisref1_Eval.j0
                rw [if_pos (by simp), if_pos (by simp), show rd_T24 [c0, c1] 1 = c1 from rfl, (f1 _ (by omega)).2, Option.bind_some]
                by_cases f : r1.2 = 0
                · rw [if_pos f, if_pos f, f]
                  exact Eval_end kd n y r0.1 r1.1 hn1 b0 b1 _ _ (by omega)
                · rw [if_neg f, if_neg f]
              · rw [if_neg e, if_neg e]
          · rw [if_neg g] at h; exact absurd h g
      · rw [if_neg c2] at hx; exact absurd hx (by show ¬ (8 : Int) = 0; decide)

/-- What rule.Eval tells: the expression's fault; a year out of range; or the reference's own answer. -/
theorem rule_Eval_f (a b : Int) (l : List S24) (y : Int) : ∃ q : Int × Int, (∀ k, 1000 ≤ k → rule_Eval.f k a b l y = some q) ∧
    (exErr a b l ≠ 0 → q = (0, exErr a b l)) ∧ (exErr a b l = 0 → ¬ (-10000 ≤ y ∧ y ≤ 10000) → q = (0, 3)) ∧
    (exErr a b l = 0 → -10000 ≤ y ∧ y ≤ 10000 → ∀ k, 1000 ≤ k → ephemerisref1_Eval.f k a b l y = some q) := by
  have un : ∀ k, 1000 ≤ k → rule_Eval.f k a b l y = if exErr a b l = 0 then (if y < -10000 then rule_Eval.j0 k y true a b l else rule_Eval.j0 k y (decide (y > 10000)) a b l) else some (0, exErr a b l) := by
    intro k hk
    unfold rule_Eval.f
    rw [show runtime_plainError_RuntimeError.f 0 = some 0 from rfl, Option.bind_some]
    obtain ⟨c, hc⟩ := rule_walk_f a b l k (by omega)
    rw [hc, Option.bind_some]
  by_cases e : exErr a b l = 0
  · have bad : ∀ k, 1000 ≤ k → rule_Eval.j0 k y true a b l = some (0, 3) := by
      intro k hk
      obtain ⟨k, rfl⟩ : ∃ j, k = j + 1 := ⟨k - 1, by omega⟩
      simp only [rule_Eval.j0, if_true]
    by_cases hy : -10000 ≤ y ∧ y ≤ 10000
    · obtain ⟨r, _, hr⟩ := value_m 60 (⟨a, b, l⟩ : S24) 1 e y hy
      refine ⟨r, fun k hk => ?_, fun h => absurd e h, fun _ h => absurd hy h, fun _ _ k hk => (hr k (by omega)).2⟩
      rw [un k hk, if_pos e, if_neg (by omega), decide_eq_false (by omega)]
      obtain ⟨k, rfl⟩ : ∃ j, k = j + 1 := ⟨k - 1, by omega⟩
      simp only [rule_Eval.j0]
      rw [if_neg (by decide), show runtime_errorAddressString_RuntimeError.f y = some (y, 0) from rfl, Option.bind_some]
      rw [show rule_machine_value.f k y 0 a b l = some (r.1, y, r.2) from (hr k (by omega)).1, Option.bind_some]
    · refine ⟨(0, 3), fun k hk => ?_, fun h => absurd e h, fun _ _ => rfl, fun _ h => absurd h hy⟩
      rw [un k hk, if_pos e]
      by_cases h1 : y < -10000
      · rw [if_pos h1, bad k hk]
      · rw [if_neg h1, decide_eq_true (show y > 10000 by omega), bad k hk]
  · refine ⟨(0, exErr a b l), fun k hk => ?_, fun _ => rfl, fun h => absurd h e, fun h => absurd h e⟩
    rw [un k hk, if_neg e]

/-- The years of a cycle whose expression is not 0, from the year y on; or the first fault. -/
def leapsFrom (ev : Int → Int × Int) : Nat → Int → List Int → List Int × Int
  | 0, _, s => (s, 0)
  | r + 1, y, s => if (ev y).2 = 0 then (if (ev y).1 = 0 then leapsFrom ev r (y + 1) s else leapsFrom ev r (y + 1) (s ++ [y])) else ([], (ev y).2)
theorem leapsFrom_len (ev : Int → Int × Int) : ∀ (r : Nat) (y : Int) (s : List Int), (leapsFrom ev r y s).1.length ≤ s.length + r
  | 0, _, s => Nat.le_refl _
  | r + 1, y, s => by
    unfold leapsFrom
    by_cases c : (ev y).2 = 0
    · rw [if_pos c]
      by_cases d : (ev y).1 = 0
      · rw [if_pos d]; have := leapsFrom_len ev r (y + 1) s; omega
      · rw [if_neg d]; have := leapsFrom_len ev r (y + 1) (s ++ [y]); rw [List.length_append, List.length_singleton] at this; omega
    · rw [if_neg c]; simp
def evOf (a b : Int) (l : List S24) (y : Int) : Int × Int := (ephemerisref1_Eval.f 1000 a b l y).getD (0, 0)
theorem evOf_tells (a b : Int) (l : List S24) (he : exErr a b l = 0) (y : Int) (hy : -10000 ≤ y ∧ y ≤ 10000) (k : Nat) (hk : 1000 ≤ k) : rule_Eval.f k a b l y = some (evOf a b l y) ∧ ephemerisref1_Eval.f k a b l y = some (evOf a b l y) := by
  obtain ⟨q, hq, _, _, h3⟩ := rule_Eval_f a b l y
  have e : evOf a b l y = q := by unfold evOf; rw [h3 he hy 1000 (Nat.le_refl _)]; rfl
  rw [e]
  exact ⟨hq k hk, h3 he hy k hk⟩
/-- What comes of it: the calendar, or the fault. -/
def compOut (n : ByteArray) (e c : Int) (ms : List S53) (r : List Int × Int) : ByteArray × Int × Int × List S53 × List Int × Int :=
  if r.2 = 0 then (n, e, c, ms, r.1, 0) else ((⟨#[]⟩ : ByteArray), 0, 0, [], [], r.2)
theorem compile_Compile_l0 (a b : Int) (l : List S24) (he : exErr a b l = 0) (n0 : ByteArray) (e0 : Int) (ms0 : List S53) (n : ByteArray) (e c cy : Int) (ms : List S53) (hc : cy ≤ 3000) : ∀ (r : Nat) (y : Int) (s : List Int) (k : Nat), 1 ≤ y → y + r = cy + 1 → s.length + r ≤ 3000 → 1000 ≤ k →
    compile_Compile.l0 (k + r + 1) y n0 e0 cy a b l ms0 n e c ms s = some (compOut n e c ms (leapsFrom (evOf a b l) r y s)) := by
  intro r
  induction r with
  | zero =>
    intro y s k h1 h2 hs hk
    simp only [compile_Compile.l0]
    rw [if_neg (by omega)]
    unfold leapsFrom compOut
    rw [if_pos rfl]
  | succ r ih =>
    intro y s k h1 h2 hs hk
    rw [show k + (r + 1) + 1 = (k + r + 1) + 1 from by omega]
    conv => lhs; unfold compile_Compile.l0
    rw [if_pos (by omega), (evOf_tells a b l he y (by omega) (k + r + 1) (by omega)).1, Option.bind_some]
    unfold leapsFrom
    by_cases q : (evOf a b l y).2 = 0
    · rw [if_pos q, if_pos q, w64_id (n := y + 1) (by omega) (by omega)]
      by_cases d : (evOf a b l y).1 = 0
      · rw [if_pos d, if_pos d]
        exact ih (y + 1) s k (by omega) (by omega) (by omega) hk
      · rw [if_neg d, if_neg d, if_pos (by omega)]
        exact ih (y + 1) (s ++ [y]) k (by omega) (by omega) (by rw [List.length_append, List.length_singleton]; omega) hk
    · rw [if_neg q, if_neg q]
      unfold compOut
      rw [if_neg q]
/-- The compiled rule. -/
def compAll (n : ByteArray) (e c a b : Int) (l : List S24) (ms : List S53) : ByteArray × Int × Int × List S53 × List Int × Int :=
  if ruleErr n e c a b l ms = 0 then compOut n e c ms (leapsFrom (evOf a b l) c.toNat 1 []) else ((⟨#[]⟩ : ByteArray), 0, 0, [], [], ruleErr n e c a b l ms)
theorem ruleErr_ok (n : ByteArray) (e c a b : Int) (l : List S24) (ms : List S53) (h : ruleErr n e c a b l ms = 0) : (1 ≤ c ∧ c ≤ 3000) ∧ exErr a b l = 0 ∧ moErr ms = 0 := by
  unfold ruleErr at h
  by_cases h1 : isName n = true
  · rw [if_pos h1] at h
    by_cases h2 : (-4000000 ≤ e ∧ e ≤ 4000000) ∧ (1 ≤ c ∧ c ≤ 3000)
    · rw [if_pos h2] at h
      by_cases h3 : exErr a b l = 0
      · rw [if_pos h3] at h; exact ⟨h2.2, h3, h⟩
      · rw [if_neg h3] at h; exact absurd h h3
    · rw [if_neg h2] at h; exact absurd h (by decide)
  · rw [if_neg h1] at h; exact absurd h (by decide)
theorem compile_Compile_f (n : ByteArray) (e c a b : Int) (l : List S24) (ms : List S53) (hm : ms.length < 4398046511104) (k : Nat) (hk : 5000 ≤ k) : compile_Compile.f k n e c a b l ms = some (compAll n e c a b l ms) := by
  unfold compile_Compile.f compAll
  rw [rule_Check_f _ _ _ _ _ _ _ _ (by omega), Option.bind_some]
  by_cases h : ruleErr n e c a b l ms = 0
  · obtain ⟨hc, he, _⟩ := ruleErr_ok n e c a b l ms h
    rw [if_pos h, if_pos h, show api_RuleMonth.f ms = some ms from by unfold api_RuleMonth.f; rw [Option.bind_some, if_pos (by simpa using hm)]; simp, Option.bind_some]
    obtain ⟨j, rfl⟩ : ∃ j, k = j + c.toNat + 1 := ⟨k - c.toNat - 1, by omega⟩
    exact compile_Compile_l0 a b l he n e ms n e c c ms (by omega) c.toNat 1 [] j (by omega) (by omega) (by simp; omega) (by omega)
  · rw [if_neg h, if_neg h]

theorem ephemerisref1_SameInts_l0 (a b : List Int) (hl : a.length = b.length) (hm : a.length ≤ 9223372036854775807) : ∀ (d i k : Nat), i + d = a.length → d < k →
    ephemerisref1_SameInts.l0 k a b (a.length : Int) (i : Int) = some (decide (a.drop i = b.drop i)) := by
  intro d
  induction d with
  | zero =>
    intro i k hi hk
    obtain ⟨k, rfl⟩ : ∃ m, k = m + 1 := ⟨k - 1, by omega⟩
    conv => lhs; unfold ephemerisref1_SameInts.l0
    rw [if_neg (by omega), List.drop_of_length_le (by omega), List.drop_of_length_le (by omega)]; rfl
  | succ d ih =>
    intro i k hi hk
    obtain ⟨k, rfl⟩ : ∃ m, k = m + 1 := ⟨k - 1, by omega⟩
    have h1 : i < a.length := by omega
    have h2 : i < b.length := by omega
    conv => lhs; unfold ephemerisref1_SameInts.l0
    rw [if_pos (by omega), if_pos (by omega), if_pos (by omega), if_pos (by omega), rd_get a i h1, rd_get b i h2, List.drop_eq_getElem_cons h1, List.drop_eq_getElem_cons h2]
    by_cases c : a[i] = b[i]
    · rw [if_pos c, w64_id (n := (i : Int) + 1) (by omega) (by omega)]
      have := ih (i + 1) k (by omega) (by omega)
      rw [show ((i + 1 : Nat) : Int) = (i : Int) + 1 from by omega] at this
      rw [this]
      congr 1
      apply decide_eq_decide.2
      constructor
      · intro h; rw [c, h]
      · intro h; exact (List.cons.inj h).2
    · rw [if_neg c]
      congr 1
      symm
      exact decide_eq_false (fun h => c (List.cons.inj h).1)
theorem ephemerisref1_SameInts_f (a b : List Int) (hm : a.length ≤ 9223372036854775807) (k : Nat) (hk : a.length < k) : ephemerisref1_SameInts.f k a b = some (decide (a = b)) := by
  unfold ephemerisref1_SameInts.f
  by_cases c : a.length = b.length
  · rw [if_pos (by omega)]
    exact ephemerisref1_SameInts_l0 a b c hm a.length 0 k (by omega) hk
  · rw [if_neg (by omega)]
    congr 1
    symm
    exact decide_eq_false (fun h => c (by rw [h]))

def opsOfKind (x : Int) : Int := if x = 1 ∨ x = 2 then 0 else (if x = 3 ∨ x = 11 then 1 else (if 4 ≤ x ∧ x ≤ 13 then 2 else -1))
theorem ephemerisref1_operands_f (x : Int) (k : Nat) (hk : 2 ≤ k) : ephemerisref1_operands.f k x = some (opsOfKind x) := by
  obtain ⟨k, rfl⟩ : ∃ j, k = j + 2 := ⟨k - 2, by omega⟩
  unfold ephemerisref1_operands.f opsOfKind
  have z : ∀ b : Bool, ephemerisref1_operands.j0 (k + 2) x x b = if b = true then some 0 else (if x = 3 ∨ x = 11 then some 1 else (if 4 ≤ x ∧ x ≤ 13 then some 2 else some (-1))) := by
    intro b
    simp only [ephemerisref1_operands.j0, ephemerisref1_operands.j1, ephemerisref1_In_f, Option.bind_some]
    grind
  rw [z, z]
  grind

theorem ops_kid (x : Int) (h : 1 ≤ x ∧ x ≤ 13) : opsOfKind x = rule_walk.kid x := by
  obtain ⟨n, rfl⟩ : ∃ n : Nat, x = n := ⟨x.toNat, by omega⟩
  have h1 : n ≤ 13 := by omega
  have h2 : 1 ≤ n := by omega
  unfold rule_walk.kid rule_walk.kids opsOfKind
  rw [Int.toNat_natCast]
  match n, h1, h2 with
  | 1, _, _ | 2, _, _ | 3, _, _ | 4, _, _ | 5, _, _ | 6, _, _ | 7, _, _ | 8, _, _ | 9, _, _ | 10, _, _ | 11, _, _ | 12, _, _ | 13, _, _ => decide
theorem ops_none (x : Int) (h : ¬ (1 ≤ x ∧ x ≤ 13)) : opsOfKind x = -1 := by
  unfold opsOfKind
  rw [if_neg (by omega), if_neg (by omega), if_neg (by omega)]
theorem nil_or_snoc {α : Type} (l : List α) : l = [] ∨ ∃ t s, l = t ++ [s] := by
  rcases List.eq_nil_or_concat l with h | ⟨t, s, h⟩
  · exact .inl h
  · exact .inr ⟨t, s, by rw [h, List.concat_eq_append]⟩
/-- The stack as a list of what comes next. -/
def items (st : List S122) : List (S24 × Int) := st.reverse.map fun s => (s.f0, s.f1)
theorem items_snoc (st : List S122) (s : S122) : items (st ++ [s]) = (s.f0, s.f1) :: items st := by
  unfold items
  rw [List.reverse_append]; rfl
theorem rd_item (st : List S122) (s : S122) : rd_T122 (st ++ [s]) (st.length : Int) = s := by
  unfold rd_T122
  rw [show ((st.length : Int).toNat) = st.length from by omega, List.getD_eq_getElem?_getD, List.getElem?_append_right (Nat.le_refl _)]
  simp
theorem ephemerisref1_ExprError_l1 (x4 : Int) (a b : Int) (l : List S24) (u v : Int) (ys : List S24) (d : Int) (hd : 1 ≤ d ∧ d ≤ 12) (hy : ys.length ≤ 2) : ∀ (i k : Nat) (st : List S122), i ≤ ys.length → st.length ≤ 100 - i →
    ephemerisref1_ExprError.l1 (k + i + 1) st x4 ((i : Int) - 1) a b l u v ys d = ephemerisref1_ExprError.l0 k (st ++ ((ys.take i).reverse.map fun y => (⟨y, d + 1⟩ : S122))) (wrap64 (x4 + 1)) a b l := by
  intro i
  induction i with
  | zero =>
    intro k st hi hst
    conv => lhs; unfold ephemerisref1_ExprError.l1
    rw [if_neg (by omega)]
    simp
  | succ i ih =>
    intro k st hi hst
    have hlt : i < ys.length := by omega
    conv => lhs; unfold ephemerisref1_ExprError.l1
    rw [if_pos (by omega), if_pos (by omega), if_pos (by omega), if_pos (by omega), show (((i + 1 : Nat) : Int) - 1) = (i : Int) from by omega, rd_expr ys i hlt, w64_id (n := d + 1) (by omega) (by omega), w64_id (n := (i : Int) - 1) (by omega) (by omega)]
    have := ih k (st ++ [(⟨ys[i], d + 1⟩ : S122)]) (by omega) (by rw [List.length_append, List.length_singleton]; omega)
    rw [show k + (i + 1) = k + i + 1 from by omega, this, List.append_assoc, List.take_succ_eq_append_getElem hlt, List.reverse_append, List.map_append]
    rfl
theorem ephemerisref1_ExprError_m (a b : Int) (l : List S24) : ∀ (m : Nat), m ≤ 60 → ∀ (st : List S122) (k : Nat), st.length + m ≤ 61 → (∀ s ∈ st, 1 ≤ s.f1 ∧ s.f1 ≤ 13) → 10 * m + 10 ≤ k →
    ephemerisref1_ExprError.l0 k st (61 - (m : Int)) a b l = some (wk m (items st)).1 := by
  intro m
  induction m with
  | zero =>
    intro hm st k hst hd hk
    obtain ⟨k, rfl⟩ : ∃ j, k = j + 3 := ⟨k - 3, by omega⟩
    conv => lhs; unfold ephemerisref1_ExprError.l0
    rcases nil_or_snoc st with rfl | ⟨st, s, rfl⟩
    · rw [if_neg (by simp)]; rfl
    · have hl : ((st ++ [s]).length : Int) = (st.length : Int) + 1 := by rw [List.length_append, List.length_singleton]; omega
      have hw : wrap64 (((st ++ [s]).length : Int) - 1) = (st.length : Int) := by rw [hl, w64_id (by omega) (by omega)]; omega
      rw [hw, if_pos (by omega), if_pos (by omega), if_pos (by omega), if_pos (by omega), Option.bind_some, if_pos (by omega), items_snoc]
      simp only [ephemerisref1_ExprError.j1, if_true]
      rfl
  | succ m ih =>
    intro hm st k hst hd hk
    obtain ⟨k, rfl⟩ : ∃ j, k = j + 4 := ⟨k - 4, by omega⟩
    conv => lhs; unfold ephemerisref1_ExprError.l0
    rcases nil_or_snoc st with rfl | ⟨st, s, rfl⟩
    · rw [if_neg (by simp)]; rfl
    · have hl : ((st ++ [s]).length : Int) = (st.length : Int) + 1 := by rw [List.length_append, List.length_singleton]; omega
      have hln : (st ++ [s]).length = st.length + 1 := by simp
      have hw : wrap64 (((st ++ [s]).length : Int) - 1) = (st.length : Int) := by rw [hl, w64_id (by omega) (by omega)]; omega
      have hs := hd s (by simp)
      rw [hw, if_pos (by omega), if_pos (by omega), if_pos (by omega), if_pos (by omega), Option.bind_some, if_neg (by omega), items_snoc, rd_item, show ((st.length : Int).toNat) = st.length from by omega, List.take_left]
      simp only [ephemerisref1_ExprError.j1]
      by_cases c1 : s.f1 > 12
      · rw [if_pos (decide_eq_true c1)]
        unfold wk
        rw [if_pos c1]
      rw [if_neg (by simpa using c1), ephemerisref1_operands_f _ _ (by omega), Option.bind_some]
      have bad : nodeOk s.f0 ≠ true → (wk (m + 1) ((s.f0, s.f1) :: items st)).1 = 8 := fun h => by unfold wk; rw [if_neg c1, if_neg h]
      by_cases c2 : (1 ≤ s.f0.f0 ∧ s.f0.f0 ≤ 13) ∧ (s.f0.f2.length : Int) = rule_walk.kid s.f0.f0
      · rw [if_pos (by rw [ops_kid _ c2.1]; exact c2.2)]
        have hk2 := kid_small s.f0.f0 c2.1
        have go : nodeOk s.f0 = true → ephemerisref1_ExprError.j2 (k + 2) st (61 - ((m + 1 : Nat) : Int)) a b l s.f0.f0 s.f0.f1 s.f0.f2 s.f1 = some (wk (m + 1) ((s.f0, s.f1) :: items st)).1 := fun h => by
          simp only [ephemerisref1_ExprError.j2]
          have hj : ∃ j, k + 1 = j + s.f0.f2.length + 1 := ⟨k - s.f0.f2.length, by omega⟩
          obtain ⟨j, hj⟩ := hj
          rw [w64_id (n := (s.f0.f2.length : Int) - 1) (by omega) (by omega), hj, ephemerisref1_ExprError_l1 _ a b l _ _ s.f0.f2 s.f1 (by omega) (by omega) s.f0.f2.length j st (Nat.le_refl _) (by omega), List.take_length, show wrap64 (61 - ((m + 1 : Nat) : Int) + 1) = 61 - (m : Int) from by rw [w64_id (by omega) (by omega)]; omega]
          rw [ih (by omega) _ j (by simp only [List.length_append, List.length_map, List.length_reverse]; omega) (fun q hq => by
            rcases List.mem_append.1 hq with hq | hq
            · exact hd q (List.mem_append.2 (.inl hq))
            · obtain ⟨y, _, rfl⟩ := List.mem_map.1 hq
              exact ⟨by show 1 ≤ s.f1 + 1; omega, by show s.f1 + 1 ≤ 13; omega⟩) (by omega)]
          conv => rhs; unfold wk
          rw [if_neg c1, if_pos h]
          unfold items
          rw [List.reverse_append, List.map_append, ← List.map_reverse, List.reverse_reverse, List.map_map]
          rfl
        by_cases c3 : s.f0.f0 = 1
        · rw [if_pos c3, ephemerisref1_In_f, Option.bind_some]
          by_cases c4 : 0 ≤ s.f0.f1 ∧ s.f0.f1 ≤ 2147483647
          · rw [if_pos (decide_eq_true c4)]
            exact go (by unfold nodeOk; rw [if_pos c3, decide_eq_true c2, decide_eq_true c4]; rfl)
          · rw [if_neg (by simpa using c4), bad (by unfold nodeOk; rw [if_pos c3, decide_eq_false c4]; simp)]
        · rw [if_neg c3]
          by_cases c4 : s.f0.f1 = 0
          · rw [if_pos c4]
            exact go (by unfold nodeOk; rw [if_neg c3, decide_eq_true c2, decide_eq_true c4]; rfl)
          · rw [if_neg c4, bad (by unfold nodeOk; rw [if_neg c3, decide_eq_false c4]; simp)]
      · rw [if_neg (fun h => by
          by_cases c3 : 1 ≤ s.f0.f0 ∧ s.f0.f0 ≤ 13
          · exact c2 ⟨c3, by rw [← ops_kid _ c3]; exact h⟩
          · rw [ops_none _ c3] at h; omega), bad (by unfold nodeOk; rw [decide_eq_false c2]; simp)]
theorem ephemerisref1_ExprError_f (a b : Int) (l : List S24) (k : Nat) (hk : 700 ≤ k) : ephemerisref1_ExprError.f k a b l = some (exErr a b l) := by
  unfold ephemerisref1_ExprError.f
  have := ephemerisref1_ExprError_m a b l 60 (by omega) [(⟨(⟨a, b, l⟩ : S24), 1⟩ : S122)] k (by simp) (fun s hs => by rw [List.mem_singleton.1 hs]; exact ⟨by show (1 : Int) ≤ 1; omega, by show (1 : Int) ≤ 13; omega⟩) (by omega)
  exact this

theorem ephemerisref1_Name_l0 (s : ByteArray) (hs : s.size ≤ 12) : ∀ (d i k : Nat), i + d = s.size → d < k →
    ephemerisref1_Name.l0 k s (s.size : Int) (i : Int) = some (noWord s && letters (s.data.toList.drop i)) := by
  intro d
  induction d with
  | zero =>
    intro i k hi hk
    obtain ⟨k, rfl⟩ : ∃ m, k = m + 1 := ⟨k - 1, by omega⟩
    obtain rfl : i = s.size := by omega
    simp only [ephemerisref1_Name.l0]
    rw [if_neg (by omega), letters_end, Bool.and_true]
    unfold noWord
    by_cases c1 : s.toList = [121]
    · rw [if_pos c1]; simp [c1]
    rw [if_neg c1, bne_iff_ne.2 c1]
    by_cases c2 : s.toList = [97, 110, 100]
    · rw [if_pos c2]; simp [c2]
    rw [if_neg c2, bne_iff_ne.2 c2]
    by_cases c3 : s.toList = [111, 114]
    · rw [if_pos c3]; simp [c3]
    rw [if_neg c3, bne_iff_ne.2 c3]
    rfl
  | succ d ih =>
    intro i k hi hk
    obtain ⟨k, rfl⟩ : ∃ m, k = m + 1 := ⟨k - 1, by omega⟩
    simp only [ephemerisref1_Name.l0]
    rw [if_pos (by omega), if_pos (by omega), if_pos (by omega), letters_cons s i (by omega)]
    by_cases c1 : bt s i < 97
    · rw [if_pos c1, decide_eq_false (show ¬ 97 ≤ bt s i by omega)]; simp
    rw [if_neg c1, decide_eq_true (show 97 ≤ bt s i by omega)]
    by_cases c2 : bt s i > 122
    · rw [if_pos c2, decide_eq_false (show ¬ bt s i ≤ 122 by omega)]; simp
    rw [if_neg c2, decide_eq_true (show bt s i ≤ 122 by omega), w64_id (by omega) (by omega)]
    have := ih (i + 1) k (by omega) (by omega)
    rw [show ((i + 1 : Nat) : Int) = (i : Int) + 1 from by omega] at this
    rw [this]; simp
theorem ephemerisref1_Name_f (s : ByteArray) (k : Nat) (hk : 20 ≤ k) : ephemerisref1_Name.f k s = some (isName s) := by
  obtain ⟨k, rfl⟩ : ∃ m, k = m + 1 := ⟨k - 1, by omega⟩
  unfold ephemerisref1_Name.f isName
  by_cases h1 : s.toList = []
  · rw [if_pos h1, decide_eq_false (show ¬ 1 ≤ s.size by have := (toList_nil s).1 h1; omega)]
    simp [ephemerisref1_Name.j0]
  have h1' : ¬ s.size = 0 := fun h => h1 ((toList_nil s).2 h)
  rw [if_neg h1, decide_eq_true (show 1 ≤ s.size by omega)]
  simp only [ephemerisref1_Name.j0, decide_eq_true_eq]
  by_cases h2 : (s.size : Int) > 12
  · rw [if_pos h2, decide_eq_false (show ¬ s.size ≤ 12 by omega)]; rfl
  rw [if_neg h2, decide_eq_true (show s.size ≤ 12 by omega)]
  exact ephemerisref1_Name_l0 s (by omega) s.size 0 k (by omega) (by omega)

theorem ephemerisref1_Day_f (x : Int) : ephemerisref1_Day.f x = some (decide (-4000000 ≤ x ∧ x ≤ 4000000)) := by
  unfold ephemerisref1_Day.f
  rw [ephemerisref1_In_f]; rfl

/-- The first fault of the months from a place on, as the other reading tells it: 'a' and 'b' tell whether there was a day so far. -/
def mrFrom : Bool → Bool → List (List UInt8) → List S53 → Int
  | a, b, _, [] => if a = true then (if b = true then 0 else 8) else 8
  | a, b, s, m :: t => if isName m.f0 = true then (if m.f0.toList ∈ s then 7 else (if (0 ≤ m.f1 ∧ m.f1 ≤ 400) ∧ (0 ≤ m.f2 ∧ m.f2 ≤ 400) then mrFrom (a || decide (m.f1 > 0)) (b || decide (m.f2 > 0)) (s ++ [m.f0.toList]) t else 3)) else 5
def mrErr (l : List S53) : Int := if 1 ≤ l.length ∧ l.length ≤ 20 then mrFrom false false [] l else 2
def mrNames (l : List S53) : List (List UInt8) := l.map fun m => m.f0.toList
theorem mr_at (l : List S53) (i : Nat) (h : i < l.length) : rd_T53 l (i : Int) = l[i] := by
  unfold rd_T53
  rw [show ((i : Int).toNat) = i from by omega, List.getD_eq_getElem?_getD, List.getElem?_eq_getElem h]; rfl
theorem mrNames_snoc (l : List S53) (i : Nat) (h : i < l.length) : mrNames (l.take i) ++ [l[i].f0.toList] = mrNames (l.take (i + 1)) := by
  rw [List.take_succ_eq_append_getElem h]
  unfold mrNames
  rw [List.map_append]; rfl
theorem ephemerisref1_MonthsError_l1 (l : List S53) (a b : Bool) (x12 x13 : Int) (i : Nat) (hl : l.length ≤ 20) (hlt : i < l.length) : ∀ (d j k : Nat), j + d = i →
    ephemerisref1_MonthsError.l1 (k + d + 1) l a b (i : Int) x12 x13 (i : Int) (j : Int) = if l[i].f0.toList ∈ mrNames ((l.take i).drop j) then some 7 else (if (0 ≤ l[i].f1 ∧ l[i].f1 ≤ 400) ∧ (0 ≤ l[i].f2 ∧ l[i].f2 ≤ 400) then ephemerisref1_MonthsError.l0 k l (a || decide (l[i].f1 > 0)) (b || decide (l[i].f2 > 0)) x12 (wrap64 (x13 + 1)) else some 3) := by
  intro d
  have hty : (l.take i).length = i := by rw [List.length_take]; omega
  induction d with
  | zero =>
    intro j k hj
    conv => lhs; unfold ephemerisref1_MonthsError.l1
    rw [if_neg (by omega), List.drop_of_length_le (by omega), if_neg (show ¬ l[i].f0.toList ∈ mrNames ([] : List S53) from by unfold mrNames; simp), if_pos (by omega), if_pos (by omega), mr_at l i hlt, ephemerisref1_In_f, Option.bind_some]
    by_cases c1 : 0 ≤ l[i].f1 ∧ l[i].f1 ≤ 400
    · rw [if_pos (decide_eq_true c1), ephemerisref1_In_f, Option.bind_some]
      by_cases c2 : 0 ≤ l[i].f2 ∧ l[i].f2 ≤ 400
      · rw [if_pos (decide_eq_true c2), if_pos (show (0 ≤ l[i].f1 ∧ l[i].f1 ≤ 400) ∧ (0 ≤ l[i].f2 ∧ l[i].f2 ≤ 400) from ⟨c1, c2⟩)]
        cases a <;> cases b <;> rfl
      · rw [if_neg (by simpa using c2), if_neg (fun h => c2 h.2)]
    · rw [if_neg (by simpa using c1), if_neg (fun h => c1 h.1)]
  | succ d ih =>
    intro j k hj
    have hlj : j < l.length := by omega
    have ih := ih (j + 1) k (by omega)
    have hc : (l[i].f0.toList ∈ mrNames ((l.take i).drop j)) ↔ (l[j].f0.toList = l[i].f0.toList ∨ l[i].f0.toList ∈ mrNames ((l.take i).drop (j + 1))) := by
      rw [List.drop_eq_getElem_cons (show j < (l.take i).length by omega), List.getElem_take]
      unfold mrNames
      rw [List.map_cons, List.mem_cons]
      exact ⟨fun h => h.imp (fun e => e.symm) id, fun h => h.imp (fun e => e.symm) id⟩
    rw [show k + (d + 1) + 1 = (k + d + 1) + 1 from by omega]
    conv => lhs; unfold ephemerisref1_MonthsError.l1
    rw [if_pos (by omega), if_pos (by omega), if_pos (by omega), if_pos (by omega), if_pos (by omega), mr_at l j hlj, mr_at l i hlt, w64_id (n := (j : Int) + 1) (by omega) (by omega)]
    rw [show ((j + 1 : Nat) : Int) = (j : Int) + 1 from by omega] at ih
    by_cases c : l[j].f0.toList = l[i].f0.toList
    · rw [if_pos c, if_pos (hc.2 (.inl c))]
    · rw [if_neg c, ih]
      by_cases c2 : l[i].f0.toList ∈ mrNames ((l.take i).drop (j + 1))
      · rw [if_pos c2, if_pos (hc.2 (.inr c2))]
      · rw [if_neg c2, if_neg (fun h => (hc.1 h).elim c c2)]
theorem ephemerisref1_MonthsError_l0 (l : List S53) (hl : l.length ≤ 20) : ∀ (d i k : Nat) (a b : Bool), i + d = l.length → 50 * d + 50 < k →
    ephemerisref1_MonthsError.l0 k l a b (l.length : Int) (i : Int) = some (mrFrom a b (mrNames (l.take i)) (l.drop i)) := by
  intro d
  induction d with
  | zero =>
    intro i k a b hi hk
    obtain ⟨k, rfl⟩ : ∃ m, k = m + 1 := ⟨k - 1, by omega⟩
    conv => lhs; unfold ephemerisref1_MonthsError.l0
    rw [if_neg (by omega), List.drop_of_length_le (by omega)]
    unfold mrFrom
    cases a <;> cases b <;> rfl
  | succ d ih =>
    intro i k a b hi hk
    have hlt : i < l.length := by omega
    obtain ⟨k, rfl⟩ : ∃ m, k = m + i + 1 + 1 := ⟨k - i - 2, by omega⟩
    conv => lhs; unfold ephemerisref1_MonthsError.l0
    rw [if_pos (by omega), if_pos (by omega), if_pos (by omega), mr_at l i hlt, ephemerisref1_Name_f _ _ (by omega), Option.bind_some, List.drop_eq_getElem_cons hlt]
    unfold mrFrom
    by_cases c1 : isName l[i].f0 = true
    · have h1 := ephemerisref1_MonthsError_l1 l a b (l.length : Int) (i : Int) i hl hlt i 0 k (by omega)
      rw [if_pos c1, if_pos c1]
      rw [List.drop_zero] at h1
      refine h1.trans ?_
      by_cases c2 : l[i].f0.toList ∈ mrNames (l.take i)
      · rw [if_pos c2, if_pos c2]
      rw [if_neg c2, if_neg c2]
      by_cases c3 : (0 ≤ l[i].f1 ∧ l[i].f1 ≤ 400) ∧ (0 ≤ l[i].f2 ∧ l[i].f2 ≤ 400)
      · rw [if_pos c3, if_pos c3, mrNames_snoc l i hlt, w64_id (n := (i : Int) + 1) (by omega) (by omega)]
        exact ih (i + 1) k _ _ (by omega) (by omega)
      · rw [if_neg c3, if_neg c3]
    · rw [if_neg c1, if_neg c1]
theorem ephemerisref1_MonthsError_f (l : List S53) (k : Nat) (hk : 1100 ≤ k) : ephemerisref1_MonthsError.f k l = some (mrErr l) := by
  unfold ephemerisref1_MonthsError.f mrErr
  rw [ephemerisref1_In_f, Option.bind_some]
  by_cases c : 1 ≤ l.length ∧ l.length ≤ 20
  · rw [if_pos (decide_eq_true (by omega)), if_pos c]
    exact ephemerisref1_MonthsError_l0 l c.2 l.length 0 k false false (by omega) (by omega)
  · rw [if_neg (fun h => c (by have := of_decide_eq_true h; omega)), if_neg c]

theorem moFrom_eq : ∀ (l : List S53) (a b : Int) (p q : Bool) (s : List (List UInt8)), 0 ≤ a → 0 ≤ b → (p = true ↔ 0 < a) → (q = true ↔ 0 < b) → moFrom a b s l = mrFrom p q s l
  | [], a, b, p, q, s, ha, hb, hp, hq => by
    unfold moFrom mrFrom
    by_cases c : a = 0
    · rw [if_pos c, if_neg (fun h => by have := hp.1 h; omega)]
    · rw [if_neg c, if_pos (hp.2 (by omega))]
      by_cases d : b = 0
      · rw [if_pos d, if_neg (fun h => by have := hq.1 h; omega)]
      · rw [if_neg d, if_pos (hq.2 (by omega))]
  | m :: t, a, b, p, q, s, ha, hb, hp, hq => by
    unfold moFrom mrFrom
    by_cases c : (0 ≤ m.f1 ∧ m.f1 ≤ 400) ∧ (0 ≤ m.f2 ∧ m.f2 ≤ 400)
    · rw [if_pos c, if_pos c, moFrom_eq t (a + m.f1) (b + m.f2) (p || decide (m.f1 > 0)) (q || decide (m.f2 > 0)) (s ++ [m.f0.toList]) (by omega) (by omega)
        (by rw [Bool.or_eq_true, hp, decide_eq_true_eq]; omega) (by rw [Bool.or_eq_true, hq, decide_eq_true_eq]; omega)]
    · rw [if_neg c, if_neg c]
theorem moErr_eq (l : List S53) : moErr l = mrErr l := by
  unfold moErr mrErr
  rw [moFrom_eq l 0 0 false false [] (by omega) (by omega) (by simp) (by simp)]

theorem ephemerisref1_RuleError_f (n : ByteArray) (e c a b : Int) (l : List S24) (ms : List S53) (k : Nat) (hk : 1101 ≤ k) : ephemerisref1_RuleError.f k n e c a b l ms = some (ruleErr n e c a b l ms) := by
  obtain ⟨k, rfl⟩ : ∃ j, k = j + 1 := ⟨k - 1, by omega⟩
  unfold ephemerisref1_RuleError.f ruleErr
  rw [ephemerisref1_Name_f _ _ (by omega), Option.bind_some]
  by_cases h1 : isName n = true
  · rw [if_pos h1, if_pos h1, ephemerisref1_Day_f, Option.bind_some]
    have bad : ephemerisref1_RuleError.j0 (k + 1) true n e c a b l ms = some 3 := by simp only [ephemerisref1_RuleError.j0, if_true]
    by_cases h2 : -4000000 ≤ e ∧ e ≤ 4000000
    · rw [if_pos (decide_eq_true h2), ephemerisref1_In_f, Option.bind_some]
      by_cases h3 : 1 ≤ c ∧ c ≤ 3000
      · rw [decide_eq_true h3, if_pos ⟨h2, h3⟩]
        simp only [ephemerisref1_RuleError.j0]
        rw [if_neg (by decide), ephemerisref1_ExprError_f _ _ _ _ (by omega), Option.bind_some]
        by_cases h5 : exErr a b l = 0
        · rw [if_pos h5, if_pos h5, ephemerisref1_MonthsError_f _ _ (by omega), moErr_eq]; rfl
        · rw [if_neg h5, if_neg h5]
      · rw [decide_eq_false h3, if_neg (fun g => h3 g.2)]
        exact bad
    · rw [if_neg (by simpa using h2), bad, if_neg (fun g => h2 g.1)]
  · rw [if_neg h1, if_neg h1]

theorem ephemerisref1_Compile_l0 (a b : Int) (l : List S24) (he : exErr a b l = 0) (n0 : ByteArray) (e0 : Int) (ms0 : List S53) (n : ByteArray) (e c cy : Int) (ms : List S53) (hc : cy ≤ 3000) : ∀ (r : Nat) (y : Int) (s : List Int) (k : Nat), 1 ≤ y → y + r = cy + 1 → s.length + r ≤ 3000 → 1000 ≤ k →
    ephemerisref1_Compile.l0 (k + r + 1) y n0 e0 cy a b l ms0 n e c ms s = some (compOut n e c ms (leapsFrom (evOf a b l) r y s)) := by
  intro r
  induction r with
  | zero =>
    intro y s k h1 h2 hs hk
    simp only [ephemerisref1_Compile.l0]
    rw [if_neg (by omega)]
    unfold leapsFrom compOut
    rw [if_pos rfl]
  | succ r ih =>
    intro y s k h1 h2 hs hk
    rw [show k + (r + 1) + 1 = (k + r + 1) + 1 from by omega]
    conv => lhs; unfold ephemerisref1_Compile.l0
    rw [if_pos (by omega), (evOf_tells a b l he y (by omega) (k + r + 1) (by omega)).2, Option.bind_some]
    unfold leapsFrom
    by_cases q : (evOf a b l y).2 = 0
    · rw [if_pos q, if_pos q, w64_id (n := y + 1) (by omega) (by omega)]
      by_cases d : (evOf a b l y).1 = 0
      · rw [if_pos d, if_pos d]
        exact ih (y + 1) s k (by omega) (by omega) (by omega) hk
      · rw [if_neg d, if_neg d, if_pos (by omega)]
        exact ih (y + 1) (s ++ [y]) k (by omega) (by omega) (by rw [List.length_append, List.length_singleton]; omega) hk
    · rw [if_neg q, if_neg q]
      unfold compOut
      rw [if_neg q]
theorem ephemerisref1_Compile_f (n : ByteArray) (e c a b : Int) (l : List S24) (ms : List S53) (k : Nat) (hk : 5000 ≤ k) : ephemerisref1_Compile.f k n e c a b l ms = some (compAll n e c a b l ms) := by
  unfold ephemerisref1_Compile.f compAll
  rw [ephemerisref1_RuleError_f _ _ _ _ _ _ _ _ (by omega), Option.bind_some]
  by_cases h : ruleErr n e c a b l ms = 0
  · obtain ⟨hc, he, _⟩ := ruleErr_ok n e c a b l ms h
    rw [if_pos h, if_pos h]
    obtain ⟨j, rfl⟩ : ∃ j, k = j + c.toNat + 1 := ⟨k - c.toNat - 1, by omega⟩
    exact ephemerisref1_Compile_l0 a b l he n e ms n e c c ms (by omega) c.toNat 1 [] j (by omega) (by omega) (by simp; omega) (by omega)
  · rw [if_neg h, if_neg h]

theorem SameCalendar_l0 (n : ByteArray) (e c : Int) (ms : List S53) (l : List Int) (n' : ByteArray) (e' c' : Int) (l' : List Int) (hm : ms.length ≤ 9223372036854775806) : ∀ (d i k : Nat), i + d = ms.length → d < k →
    ephemerisref1_SameCalendar.l0 k (ms.length : Int) (i : Int) n e c ms l n' e' c' ms l' = some true := by
  intro d
  induction d with
  | zero =>
    intro i k hi hk
    obtain ⟨k, rfl⟩ : ∃ m, k = m + 1 := ⟨k - 1, by omega⟩
    rw [ephemerisref1_SameCalendar.l0, if_neg (by omega)]
  | succ d ih =>
    intro i k hi hk
    obtain ⟨k, rfl⟩ : ∃ m, k = m + 1 := ⟨k - 1, by omega⟩
    rw [ephemerisref1_SameCalendar.l0, if_pos (by omega), if_pos (by omega), if_pos (by omega), w64_id (n := (i : Int) + 1) (by omega) (by omega)]
    simp only [beq_self_eq_true, Bool.not_true, Bool.or_self, Bool.false_eq_true, if_false]
    rw [if_pos (by omega)]
    exact ih (i + 1) k (by omega) (by omega)
theorem ephemerisref1_SameCalendar_f (n : ByteArray) (e c : Int) (ms : List S53) (l : List Int) (hm : ms.length ≤ 9223372036854775806) (hl : l.length ≤ 9223372036854775806) (k : Nat) (h1 : l.length < k) (h2 : ms.length + 3 < k) :
    ephemerisref1_SameCalendar.f k n e c ms l n e c ms l = some true := by
  obtain ⟨k, rfl⟩ : ∃ m, k = m + 1 := ⟨k - 1, by omega⟩
  unfold ephemerisref1_SameCalendar.f
  rw [if_pos rfl, if_pos rfl, if_pos rfl, if_pos rfl, ephemerisref1_SameInts_f l l (by omega) _ (by omega), Option.bind_some, decide_eq_true rfl, ephemerisref1_SameCalendar.j0, if_neg (by decide)]
  exact SameCalendar_l0 n e c ms l n e c l hm ms.length 0 k (by omega) (by omega)

theorem small_name : isName (⟨#[115, 109, 97, 108, 108]⟩ : ByteArray) = true := by unfold isName noWord; rw [toList_data]; decide
theorem small_mo : moErr smallM = 0 := by
  have n2 : isName (⟨#[111, 110, 101]⟩ : ByteArray) = true := by unfold isName noWord; rw [toList_data]; decide
  have n3 : isName (⟨#[116, 119, 111]⟩ : ByteArray) = true := by unfold isName noWord; rw [toList_data]; decide
  unfold moErr smallM
  rw [if_pos (by decide)]
  simp only [moFrom, n2, n3, if_true, toList_data]
  decide
theorem small_ex : exErr 10 0 [⟨8, 0, [⟨2, 0, []⟩, ⟨1, 4, []⟩]⟩, ⟨1, 0, []⟩] = 0 := rfl
theorem small_leaps : leapsFrom (evOf 10 0 [⟨8, 0, [⟨2, 0, []⟩, ⟨1, 4, []⟩]⟩, ⟨1, 0, []⟩]) 8 1 [] = ([4, 8], 0) := by kernel_rfl
theorem compAll_len (n : ByteArray) (e c a b : Int) (l : List S24) (ms : List S53) (hm : ms.length < 4398046511104) : (compAll n e c a b l ms).2.2.2.1.length ≤ 20 ∧ (compAll n e c a b l ms).2.2.2.2.1.length ≤ 3000 := by
  unfold compAll
  by_cases h : ruleErr n e c a b l ms = 0
  · obtain ⟨hc, he, hmo⟩ := ruleErr_ok n e c a b l ms h
    rw [if_pos h]
    have hl := leapsFrom_len (evOf a b l) c.toNat 1 []
    have h20 : ms.length ≤ 20 := by
      unfold moErr at hmo
      by_cases g : 1 ≤ ms.length ∧ ms.length ≤ 20
      · exact g.2
      · rw [if_neg g] at hmo; exact absurd hmo (by decide)
    unfold compOut
    split
    · exact ⟨h20, by simp at hl; show (leapsFrom (evOf a b l) c.toNat 1 []).1.length ≤ 3000; omega⟩
    · exact ⟨Nat.zero_le _, Nat.zero_le _⟩
  · rw [if_neg h]
    exact ⟨Nat.zero_le _, Nat.zero_le _⟩
theorem CompileCompiles : ephemerislaw1_CompileCompiles.Pure := by
  intro n e c a b l ms hn he hc ha hb hl hms
  have hm : ms.length < 4398046511104 := by have := hms.1; omega
  refine ⟨6000, ?_⟩
  unfold ephemerislaw1_CompileCompiles.f
  rw [ephemerislaw1_small_f, Option.bind_some]
  unfold smallT
  rw [compile_Compile_f _ _ _ _ _ _ _ (by decide) _ (by omega), Option.bind_some]
  have hsm : compAll (⟨#[115, 109, 97, 108, 108]⟩ : ByteArray) 1 8 10 0 [⟨8, 0, [⟨2, 0, []⟩, ⟨1, 4, []⟩]⟩, ⟨1, 0, []⟩] smallM = ((⟨#[115, 109, 97, 108, 108]⟩ : ByteArray), 1, 8, smallM, [4, 8], 0) := by
    unfold compAll
    rw [if_pos (by unfold ruleErr; rw [if_pos small_name, if_pos (by decide), if_pos small_ex, small_mo]), show (8 : Int).toNat = 8 from rfl, small_leaps]
    unfold compOut
    rw [if_pos rfl]
  rw [hsm, if_pos rfl, ephemerisref1_SameInts_f _ _ (by decide) _ (by show 2 < 6000; omega), Option.bind_some]
  show ephemerislaw1_CompileCompiles.j0 (5999 + 1) _ n e c a b l ms = some true
  simp only [ephemerislaw1_CompileCompiles.j0]
  rw [if_neg (by decide), compile_Compile_f _ _ _ _ _ _ _ hm _ (by omega), Option.bind_some, ephemerisref1_Compile_f _ _ _ _ _ _ _ _ (by omega), Option.bind_some]
  obtain ⟨h20, h3⟩ := compAll_len n e c a b l ms hm
  rw [ephemerisref1_SameCalendar_f _ _ _ _ _ (by omega) (by omega) _ (by omega) (by omega), Option.bind_some, if_pos rfl]
  simp
end Go.Proofs.YtgcmclnjnimolaaDoor.Pure
