/- The law RuleChecks over numbers and lists: what the law's functions tell, and that the law holds. -/
import Derived.Test.YtgcmclnjnimolaaDoorPRuleChecksx6
import Derived.Test.YtgcmclnjnimolaaDoorM
import Derived.Test.YtgcmclnjnimolaaDoorT
import Derived.Test.YtgcmclnjnimolaaDoorL
import Derived.Test.YtgcmclnjnimolaaDoorO
import Derived.Test.YtgcmclnjnimolaaDoorD
namespace Go.Proofs.YtgcmclnjnimolaaDoor.Pure
open Go.RowKit Go.Proofs.YtgcmclnjnimolaaDoor.PRuleChecks Go.Proofs.YtgcmclnjnimolaaDoorW.PrintWords Go.Proofs.YtgcmclnjnimolaaDoorW.PrintLast Go.Proofs.YtgcmclnjnimolaaDoor.M Go.Proofs.YtgcmclnjnimolaaDoor.T Go.Proofs.YtgcmclnjnimolaaDoor.L Go.Proofs.YtgcmclnjnimolaaDoor.O Go.Proofs.YtgcmclnjnimolaaDoor.D
set_option linter.unusedVariables false
set_option linter.unusedSimpArgs false
/-- The law over numbers and lists. -/
def ephemerislaw1_RuleChecks.Pure : Prop := ∀ (a0_0 : ByteArray) (a0_1 : Int) (a0_2 : Int) (a0_3 : Int) (a0_4 : Int) (l0_5 : List (S24)) (l0_6 : List (S53)), a0_0.size ≤ 140737488351232 → (Lit.int .i64 a0_1).wf = true → (Lit.int .i64 a0_2).wf = true → (Lit.int .i64 a0_3).wf = true → (Lit.int .i64 a0_4).wf = true → (l0_5.length * 40 ≤ 140737488351232 ∧ l0_5.length ≤ 9223372036854775807 ∧ ∀ v ∈ l0_5, True) → (l0_6.length * 32 ≤ 140737488351232 ∧ l0_6.length ≤ 9223372036854775807 ∧ ∀ v ∈ l0_6, (v.f0.size ≤ 140737488351232 ∧ (Lit.int .i64 v.f1).wf = true ∧ (Lit.int .i64 v.f2).wf = true)) → ∃ k, ephemerislaw1_RuleChecks.f k a0_0 a0_1 a0_2 a0_3 a0_4 l0_5 l0_6 = some true

/-- The small rule: its months. -/
def smallM : List S53 := [⟨⟨#[111, 110, 101]⟩, 31, 31⟩, ⟨⟨#[116, 119, 111]⟩, 28, 29⟩]
def smallT : ByteArray × Int × Int × Int × Int × List S24 × List S53 :=
  (⟨#[115, 109, 97, 108, 108]⟩, 1, 8, 10, 0, [⟨8, 0, [⟨2, 0, []⟩, ⟨1, 4, []⟩]⟩, ⟨1, 0, []⟩], smallM)

theorem ephemerislaw1_small_f : ephemerislaw1_small.f = some smallT := rfl

theorem rule_Name_f (s : ByteArray) : rule_Name.f s = some (isName s) := by
  have e : rule_Name.all s.data.toList = letters s.data.toList := rfl
  unfold rule_Name.f isName noWord
  rw [e]
  congr 1
  by_cases h1 : (s.size : Int) < 1
  · rw [if_pos h1, decide_eq_false (show ¬ 1 ≤ s.size by omega)]; rfl
  rw [if_neg h1, decide_eq_true (show 1 ≤ s.size by omega)]
  by_cases h2 : (s.size : Int) > 12
  · rw [if_pos h2, decide_eq_false (show ¬ s.size ≤ 12 by omega)]; rfl
  rw [if_neg h2, decide_eq_true (show s.size ≤ 12 by omega)]
  by_cases c1 : s.toList = [121]
  · rw [if_pos c1]; simp [c1]
  rw [if_neg c1, bne_iff_ne.2 c1]
  by_cases c2 : s.toList = [97, 110, 100]
  · rw [if_pos c2]; simp [c2]
  rw [if_neg c2, bne_iff_ne.2 c2]
  by_cases c3 : s.toList = [111, 114]
  · rw [if_pos c3]; simp [c3]
  rw [if_neg c3, bne_iff_ne.2 c3]
  by_cases c4 : s.toList = [110, 111, 116]
  · rw [if_pos c4]; simp [c4]
  rw [if_neg c4, bne_iff_ne.2 c4]
  rfl

theorem line_Check_f (x : Int) : line_Check.f x = some (if -4000000 ≤ x ∧ x ≤ 4000000 then 0 else 3) := by
  unfold line_Check.f
  by_cases h : x < -4000000
  · rw [if_pos h, if_neg (by omega)]
  · rw [if_neg h]
    by_cases h2 : x > 4000000
    · rw [if_pos h2, if_neg (by omega)]
    · rw [if_neg h2, if_pos (by omega)]

/-- Is an expression's own node in form? -/
def nodeOk (x : S24) : Bool := decide ((1 ≤ x.f0 ∧ x.f0 ≤ 13) ∧ (x.f2.length : Int) = rule_walk.kid x.f0) && (if x.f0 = 1 then decide (0 ≤ x.f1 ∧ x.f1 ≤ 2147483647) else decide (x.f1 = 0))
/-- The first fault of expressions, node by node in preorder; at most m nodes may come; how many may still come behind them. -/
def wk : Nat → List (S24 × Int) → Int × Nat
  | m, [] => (0, m)
  | 0, _ :: _ => (2, 0)
  | m + 1, p :: t => if p.2 > 12 then (2, m) else (if nodeOk p.1 = true then wk m (p.1.f2.map (fun y => (y, p.2 + 1)) ++ t) else (8, m))
theorem wk_nil (m : Nat) : wk m [] = (0, m) := by cases m <;> rfl
theorem wk_le : ∀ (m : Nat) (l : List (S24 × Int)), (wk m l).2 ≤ m
  | m, [] => by rw [wk_nil]; exact Nat.le_refl _
  | 0, _ :: _ => Nat.le_refl _
  | m + 1, p :: t => by
    unfold wk
    split
    · exact Nat.le_succ _
    · split
      · exact Nat.le_succ_of_le (wk_le m _)
      · exact Nat.le_succ _
theorem wk_succ (m : Nat) (p : S24 × Int) (t : List (S24 × Int)) : wk (m + 1) (p :: t) = if p.2 > 12 then (2, m) else (if nodeOk p.1 = true then wk m (p.1.f2.map (fun y => (y, p.2 + 1)) ++ t) else (8, m)) := rfl
theorem wk_app : ∀ (m : Nat) (a b : List (S24 × Int)), wk m (a ++ b) = if (wk m a).1 = 0 then wk (wk m a).2 b else wk m a
  | m, [], b => by rw [wk_nil, if_pos rfl]; rfl
  | 0, p :: t, b => by rw [List.cons_append]; unfold wk; simp
  | m + 1, p :: t, b => by
    rw [List.cons_append, wk_succ, wk_succ]
    by_cases c : p.2 > 12
    · rw [if_pos c, if_pos c]; simp
    · rw [if_neg c, if_neg c]
      by_cases d : nodeOk p.1 = true
      · rw [if_pos d, if_pos d, ← List.append_assoc, wk_app m]
      · rw [if_neg d, if_neg d]; simp
theorem wk_cons (m : Nat) (p : S24 × Int) (t : List (S24 × Int)) : wk m (p :: t) = if (wk m [p]).1 = 0 then wk (wk m [p]).2 t else wk m [p] := wk_app m [p] t
theorem wk_one (m : Nat) (x : S24) (d : Int) (hd : d ≤ 12) (h : nodeOk x = true) : wk (m + 1) [(x, d)] = wk m (x.f2.map fun y => (y, d + 1)) := by
  conv => lhs; unfold wk
  rw [if_neg (by simpa using hd), if_pos h, List.append_nil]
theorem kid_small (x : Int) (h : 1 ≤ x ∧ x ≤ 13) : 0 ≤ rule_walk.kid x ∧ rule_walk.kid x ≤ 2 := by
  obtain ⟨n, rfl⟩ : ∃ n : Nat, x = n := ⟨x.toNat, by omega⟩
  have h1 : n ≤ 13 := by omega
  unfold rule_walk.kid rule_walk.kids
  rw [Int.toNat_natCast]
  match n, h1 with
  | 0, _ | 1, _ | 2, _ | 3, _ | 4, _ | 5, _ | 6, _ | 7, _ | 8, _ | 9, _ | 10, _ | 11, _ | 12, _ | 13, _ => decide
theorem rd_expr (l : List S24) (i : Nat) (h : i < l.length) : rd_T24 l (i : Int) = l[i] := by
  unfold rd_T24
  rw [show ((i : Int).toNat) = i from by omega, List.getD_eq_getElem?_getD, List.getElem?_eq_getElem h]; rfl

/-- What rule.walk tells of one expression: the fault, and where there is none the count. -/
def wkTells (o : Option (Int × Int)) (r : Int × Nat) : Prop := ∃ c, o = some (r.1, c) ∧ (r.1 = 0 → c = 60 - (r.2 : Int))
theorem rule_walk_l0 (m : Nat) (d : Int) (hd : 1 ≤ d ∧ d ≤ 12) (l : List S24) (hl : l.length ≤ 2) (a b : Int) (c : List S24)
    (ih : ∀ m', m' ≤ m → ∀ (x : S24) (k : Nat), 10 * m' + 10 ≤ k → wkTells (rule_walk.f k x.f0 x.f1 x.f2 (d + 1) (60 - (m' : Int))) (wk m' [(x, d + 1)])) :
    ∀ (r i m' k : Nat), i + r = l.length → m' ≤ m → 10 * m + 11 + r ≤ k → wkTells (rule_walk.l0 k d l (l.length : Int) (i : Int) (60 - (m' : Int)) a b c) (wk m' ((l.drop i).map fun y => (y, d + 1))) := by
  intro r
  induction r with
  | zero =>
    intro i m' k hi hm hk
    obtain ⟨k, rfl⟩ : ∃ j, k = j + 1 := ⟨k - 1, by omega⟩
    rw [List.drop_of_length_le (by omega), List.map_nil, wk_nil]
    conv => arg 1; unfold rule_walk.l0
    rw [if_neg (by omega)]
    exact ⟨_, rfl, fun _ => rfl⟩
  | succ r ihr =>
    intro i m' k hi hm hk
    obtain ⟨k, rfl⟩ : ∃ j, k = j + 1 := ⟨k - 1, by omega⟩
    have hlt : i < l.length := by omega
    rw [List.drop_eq_getElem_cons hlt, List.map_cons, wk_cons]
    conv => arg 1; unfold rule_walk.l0
    rw [if_pos (by omega), if_pos (by omega), if_pos (by omega), rd_expr l i hlt, w64_id (n := d + 1) (by omega) (by omega)]
    obtain ⟨q, hq, hc⟩ := ih m' hm l[i] k (by omega)
    rw [hq, Option.bind_some]
    have hle := wk_le m' [(l[i], d + 1)]
    by_cases e : (wk m' [(l[i], d + 1)]).1 = 0
    · rw [if_pos e, if_pos e, hc e, w64_id (n := (i : Int) + 1) (by omega) (by omega)]
      have := ihr (i + 1) (wk m' [(l[i], d + 1)]).2 k (by omega) (by omega) (by omega)
      rw [show ((i + 1 : Nat) : Int) = (i : Int) + 1 from by omega] at this
      exact this
    · rw [if_neg e, if_neg e]
      exact ⟨_, rfl, fun h => absurd h e⟩
theorem rule_walk_m : ∀ (m : Nat) (d : Int), 1 ≤ d → d ≤ 13 → m ≤ 60 → ∀ (x : S24) (k : Nat), 10 * m + 10 ≤ k → wkTells (rule_walk.f k x.f0 x.f1 x.f2 d (60 - (m : Int))) (wk m [(x, d)]) := by
  intro m
  induction m using Nat.strongRecOn with
  | _ m ih =>
    intro d h0 h1 hm x k hk
    obtain ⟨k, rfl⟩ : ∃ j, k = j + 4 := ⟨k - 4, by omega⟩
    have hw : wrap64 (60 - (m : Int) + 1) = 61 - m := by rw [w64_id (by omega) (by omega)]; omega
    conv => arg 1; unfold rule_walk.f
    rw [hw]
    match m, ih, hm, hk, hw with
    | 0, _, _, _, _ =>
      rw [if_pos (by omega)]
      conv => arg 1; unfold rule_walk.j0
      rw [if_pos rfl]
      exact ⟨_, rfl, fun h => by cases h⟩
    | m + 1, ih, hm, hk, _ =>
      rw [if_neg (by omega)]
      conv => arg 1; unfold rule_walk.j0
      have stop : ∀ (e : Int) (n : Nat) (c : Int), e ≠ 0 → wkTells (some (e, c)) (e, n) := fun e n c he => ⟨_, rfl, fun h => absurd h he⟩
      by_cases c1 : d > 12
      · rw [if_pos (decide_eq_true c1)]
        have : wk (m + 1) [(x, d)] = (2, m) := by unfold wk; rw [if_pos c1]
        rw [this]
        exact stop _ _ _ (by decide)
      rw [if_neg (by simpa using c1)]
      -- the two tests, each told as a truth value
      have j1t : ∀ (n : Nat) (s : Int), rule_walk.j1 (n + 1) d true s x.f0 x.f1 x.f2 = some (8, s) := fun n s => by simp only [rule_walk.j1, if_true]
      have j2t : ∀ (n : Nat) (s : Int), rule_walk.j2 (n + 1) d true s x.f0 x.f1 x.f2 = some (8, s) := fun n s => by simp only [rule_walk.j2, if_true]
      have bad : nodeOk x ≠ true → wk (m + 1) [(x, d)] = (8, m) := fun h => by unfold wk; rw [if_neg c1, if_neg h]
      by_cases c2 : (1 ≤ x.f0 ∧ x.f0 ≤ 13) ∧ (x.f2.length : Int) = rule_walk.kid x.f0
      · rw [if_neg (by omega), if_neg (by omega), show ((x.f2.length : Int) != rule_walk.kid x.f0) = false from by simp [c2.2]]
        conv => arg 1; unfold rule_walk.j1
        rw [if_neg (by decide)]
        have hk2 := kid_small x.f0 c2.1
        have go : nodeOk x = true → wkTells (rule_walk.j2 (k + 1) d false (61 - ((m + 1 : Nat) : Int)) x.f0 x.f1 x.f2) (wk (m + 1) [(x, d)]) := fun h => by
          rw [wk_one m x d (by omega) h]
          conv => arg 1; unfold rule_walk.j2
          rw [if_neg (by decide)]
          have := rule_walk_l0 m d ⟨h0, by omega⟩ x.f2 (by omega) x.f0 x.f1 x.f2 (fun m' hm' y k' hk' => ih m' (by omega) (d + 1) (by omega) (by omega) (by omega) y k' hk') x.f2.length 0 m k (by omega) (Nat.le_refl _) (by omega)
          rw [List.drop_zero] at this
          rw [show (61 - ((m + 1 : Nat) : Int)) = 60 - (m : Int) from by omega]
          exact this
        by_cases c3 : x.f0 = 1
        · rw [if_pos c3]
          by_cases c4 : x.f1 < 0
          · rw [if_pos c4, j2t, bad (by unfold nodeOk; rw [if_pos c3, decide_eq_false (show ¬ (0 ≤ x.f1 ∧ x.f1 ≤ 2147483647) by omega)]; simp)]
            exact stop _ _ _ (by decide)
          rw [if_neg c4]
          by_cases c5 : x.f1 > 2147483647
          · rw [if_pos c5, j2t, bad (by unfold nodeOk; rw [if_pos c3, decide_eq_false (show ¬ (0 ≤ x.f1 ∧ x.f1 ≤ 2147483647) by omega)]; simp)]
            exact stop _ _ _ (by decide)
          rw [if_neg c5]
          exact go (by unfold nodeOk; rw [if_pos c3, decide_eq_true c2, decide_eq_true (show 0 ≤ x.f1 ∧ x.f1 ≤ 2147483647 by omega)]; rfl)
        · rw [if_neg c3]
          by_cases c4 : x.f1 = 0
          · rw [show (x.f1 != 0) = false from by simp [c4]]
            exact go (by unfold nodeOk; rw [if_neg c3, decide_eq_true c2, decide_eq_true c4]; rfl)
          · rw [show (x.f1 != 0) = true from by simp [c4], j2t, bad (by unfold nodeOk; rw [if_neg c3, decide_eq_false c4]; simp)]
            exact stop _ _ _ (by decide)
      · have hb := bad (by unfold nodeOk; rw [decide_eq_false c2]; simp)
        rw [hb]
        by_cases c3 : x.f0 < 1
        · rw [if_pos c3, j1t]; exact stop _ _ _ (by decide)
        rw [if_neg c3]
        by_cases c4 : x.f0 > 13
        · rw [if_pos c4, j1t]; exact stop _ _ _ (by decide)
        rw [if_neg c4, show ((x.f2.length : Int) != rule_walk.kid x.f0) = true from by
          rw [bne_iff_ne]; exact fun h => c2 ⟨by omega, h⟩, j1t]
        exact stop _ _ _ (by decide)
/-- The fault of an expression. -/
def exErr (a b : Int) (l : List S24) : Int := (wk 60 [((⟨a, b, l⟩ : S24), 1)]).1
theorem rule_walk_f (a b : Int) (l : List S24) (k : Nat) (hk : 700 ≤ k) : ∃ c, rule_walk.f k a b l 1 0 = some (exErr a b l, c) := by
  obtain ⟨c, h, _⟩ := rule_walk_m 60 1 (by omega) (by omega) (by omega) (⟨a, b, l⟩ : S24) k (by omega)
  exact ⟨c, h⟩

/-- The first fault of the months from a place on: 'a' and 'b' are the days so far, 's' the names so far. -/
def moFrom : Int → Int → List (List UInt8) → List S53 → Int
  | a, b, _, [] => if a = 0 then 8 else (if b = 0 then 8 else 0)
  | a, b, s, m :: t => if isName m.f0 = true then (if m.f0.toList ∈ s then 7 else (if (0 ≤ m.f1 ∧ m.f1 ≤ 400) ∧ (0 ≤ m.f2 ∧ m.f2 ≤ 400) then moFrom (a + m.f1) (b + m.f2) (s ++ [m.f0.toList]) t else 3)) else 5
def moErr (l : List S53) : Int := if 1 ≤ l.length ∧ l.length ≤ 20 then moFrom 0 0 [] l else 2
def moNames (l : List S53) : List (List UInt8) := l.map fun m => m.f0.toList
theorem mo_at (l : List S53) (i : Nat) (h : i < l.length) : rd_T53 l (i : Int) = l[i] := by
  unfold rd_T53
  rw [show ((i : Int).toNat) = i from by omega, List.getD_eq_getElem?_getD, List.getElem?_eq_getElem h]; rfl
theorem moNames_snoc (l : List S53) (i : Nat) (h : i < l.length) : moNames (l.take i) ++ [l[i].f0.toList] = moNames (l.take (i + 1)) := by
  rw [List.take_succ_eq_append_getElem h]
  unfold moNames
  rw [List.map_append]; rfl
theorem rule_Months_l1 (x0 : List S53) (x3 x4 : Int) (x17 : List S53) (x18 x19 : Int) (y : List S53) (n : ByteArray) (f1 f2 : Int) (hy : y.length ≤ 20) : ∀ (d i k : Nat), i + d = y.length →
    rule_Months.l1 (k + d + 1) x0 x3 x4 x17 x18 x19 y (y.length : Int) (i : Int) n f1 f2 = if n.toList ∈ moNames (y.drop i) then some 7 else (if (0 ≤ f1 ∧ f1 ≤ 400) ∧ (0 ≤ f2 ∧ f2 ≤ 400) then rule_Months.l0 k x0 (wrap64 (x3 + f1)) (wrap64 (x4 + f2)) x17 x18 (wrap64 (x19 + 1)) else some 3) := by
  intro d
  induction d with
  | zero =>
    intro i k hi
    conv => lhs; unfold rule_Months.l1
    rw [if_neg (by omega), List.drop_of_length_le (by omega), if_neg (show ¬ n.toList ∈ moNames ([] : List S53) from by unfold moNames; simp)]
    by_cases c1 : f1 < 0
    · rw [if_pos c1, if_neg (by omega)]
    rw [if_neg c1]
    by_cases c2 : f1 > 400
    · rw [if_pos c2, if_neg (by omega)]
    rw [if_neg c2]
    by_cases c3 : f2 < 0
    · rw [if_pos c3, if_neg (by omega)]
    rw [if_neg c3]
    by_cases c4 : f2 > 400
    · rw [if_pos c4, if_neg (by omega)]
    rw [if_neg c4, if_pos (show (0 ≤ f1 ∧ f1 ≤ 400) ∧ (0 ≤ f2 ∧ f2 ≤ 400) from by omega)]
  | succ d ih =>
    intro i k hi
    have hlt : i < y.length := by omega
    have ih := ih (i + 1) k (by omega)
    have hc : (n.toList ∈ moNames (y.drop i)) ↔ (y[i].f0.toList = n.toList ∨ n.toList ∈ moNames (y.drop (i + 1))) := by
      rw [List.drop_eq_getElem_cons hlt]
      unfold moNames
      rw [List.map_cons, List.mem_cons]
      exact ⟨fun h => h.imp (fun e => e.symm) id, fun h => h.imp (fun e => e.symm) id⟩
    rw [show k + (d + 1) + 1 = (k + d + 1) + 1 from by omega]
    conv => lhs; unfold rule_Months.l1
    rw [if_pos (by omega), if_pos (by omega), if_pos (by omega), mo_at y i hlt, w64_id (n := (i : Int) + 1) (by omega) (by omega)]
    rw [show ((i + 1 : Nat) : Int) = (i : Int) + 1 from by omega] at ih
    by_cases c : y[i].f0.toList = n.toList
    · rw [if_pos c, if_pos (hc.2 (.inl c))]
    · rw [if_neg c, ih]
      by_cases c2 : n.toList ∈ moNames (y.drop (i + 1))
      · rw [if_pos c2, if_pos (hc.2 (.inr c2))]
      · rw [if_neg c2, if_neg (fun h => (hc.1 h).elim c c2)]
theorem rule_Months_l0 (l : List S53) (hl : l.length ≤ 20) : ∀ (d i k : Nat) (a b : Int), i + d = l.length → 30 * d + 30 < k → 0 ≤ a → a ≤ 400 * i → 0 ≤ b → b ≤ 400 * i →
    rule_Months.l0 k l a b l (l.length : Int) (i : Int) = some (moFrom a b (moNames (l.take i)) (l.drop i)) := by
  intro d
  induction d with
  | zero =>
    intro i k a b hi hk ha ha1 hb hb1
    obtain ⟨k, rfl⟩ : ∃ m, k = m + 1 := ⟨k - 1, by omega⟩
    conv => lhs; unfold rule_Months.l0
    rw [if_neg (by omega), List.drop_of_length_le (by omega)]
    unfold moFrom
    by_cases c : a = 0
    · rw [if_pos c, if_pos c]
    rw [if_neg c, if_neg c]
    by_cases c : b = 0
    · rw [if_pos c, if_pos c]
    rw [if_neg c, if_neg c]
  | succ d ih =>
    intro i k a b hi hk ha ha1 hb hb1
    have hlt : i < l.length := by omega
    obtain ⟨k, rfl⟩ : ∃ m, k = m + i + 1 + 1 := ⟨k - i - 2, by omega⟩
    conv => lhs; unfold rule_Months.l0
    rw [if_pos (by omega), if_pos (by omega), if_pos (by omega), mo_at l i hlt, rule_Name_f, Option.bind_some, List.drop_eq_getElem_cons hlt]
    unfold moFrom
    by_cases c1 : isName l[i].f0 = true
    · have hty : (l.take i).length = i := by rw [List.length_take]; omega
      have h1 := rule_Months_l1 l a b l (l.length : Int) (i : Int) (l.take i) l[i].f0 l[i].f1 l[i].f2 (by omega) i 0 k (by omega)
      rw [if_pos c1, if_pos c1, if_pos (by omega), Option.bind_some, show ((i : Int).toNat) = i from by omega]
      rw [List.drop_zero] at h1
      refine h1.trans ?_
      by_cases c2 : l[i].f0.toList ∈ moNames (l.take i)
      · rw [if_pos c2, if_pos c2]
      rw [if_neg c2, if_neg c2]
      by_cases c3 : (0 ≤ l[i].f1 ∧ l[i].f1 ≤ 400) ∧ (0 ≤ l[i].f2 ∧ l[i].f2 ≤ 400)
      · rw [if_pos c3, if_pos c3, moNames_snoc l i hlt, w64_id (n := a + l[i].f1) (by omega) (by omega), w64_id (n := b + l[i].f2) (by omega) (by omega), w64_id (n := (i : Int) + 1) (by omega) (by omega)]
        exact ih (i + 1) k (a + l[i].f1) (b + l[i].f2) (by omega) (by omega) (by omega) (by omega) (by omega) (by omega)
      · rw [if_neg c3, if_neg c3]
    · rw [if_neg c1, if_neg c1]
theorem rule_Months_f (l : List S53) (k : Nat) (hk : 700 ≤ k) : rule_Months.f k l = some (moErr l) := by
  obtain ⟨k, rfl⟩ : ∃ m, k = m + 1 := ⟨k - 1, by omega⟩
  have e : rule_Months.f (k + 1) l = rule_Months.j0 (k + 1) l (decide (¬ (1 ≤ l.length ∧ l.length ≤ 20))) := by
    unfold rule_Months.f
    by_cases c : (l.length : Int) < 1
    · rw [if_pos c, decide_eq_true (by omega)]
    · rw [if_neg c]
      by_cases c2 : (l.length : Int) > 20
      · rw [decide_eq_true c2, decide_eq_true (by omega)]
      · rw [decide_eq_false c2, decide_eq_false (by omega)]
  rw [e]
  conv => lhs; unfold rule_Months.j0
  simp only [decide_eq_true_eq]
  unfold moErr
  by_cases c : 1 ≤ l.length ∧ l.length ≤ 20
  · rw [if_neg (fun h => h c), if_pos c]
    exact rule_Months_l0 l c.2 l.length 0 k 0 0 (by omega) (by omega) (by omega) (by omega) (by omega) (by omega)
  · rw [if_pos c, if_neg c]

/-- The fault of a rule. -/
def ruleErr (n : ByteArray) (e c a b : Int) (l : List S24) (ms : List S53) : Int :=
  if isName n = true then (if (-4000000 ≤ e ∧ e ≤ 4000000) ∧ (1 ≤ c ∧ c ≤ 3000) then (if exErr a b l = 0 then moErr ms else exErr a b l) else 3) else 5
theorem rule_Check_f (n : ByteArray) (e c a b : Int) (l : List S24) (ms : List S53) (k : Nat) (hk : 701 ≤ k) : rule_Check.f k n e c a b l ms = some (ruleErr n e c a b l ms) := by
  obtain ⟨k, rfl⟩ : ∃ j, k = j + 1 := ⟨k - 1, by omega⟩
  unfold rule_Check.f ruleErr
  rw [rule_Name_f, Option.bind_some]
  by_cases h1 : isName n = true
  · rw [if_pos h1, if_pos h1, line_Check_f, Option.bind_some]
    have bad : rule_Check.j0 (k + 1) true n e c a b l ms = some 3 := by simp only [rule_Check.j0, if_true]
    by_cases h2 : -4000000 ≤ e ∧ e ≤ 4000000
    · rw [if_pos h2, if_pos rfl]
      by_cases h3 : c < 1
      · rw [if_pos h3, bad, if_neg (by omega)]
      rw [if_neg h3]
      by_cases h4 : c > 3000
      · rw [decide_eq_true h4, bad, if_neg (by omega)]
      rw [decide_eq_false h4, if_pos ⟨h2, by omega⟩]
      simp only [rule_Check.j0]
      rw [if_neg (by decide), show runtime_plainError_RuntimeError.f 0 = some 0 from rfl, Option.bind_some]
      obtain ⟨q, hq⟩ := rule_walk_f a b l k (by omega)
      rw [hq, Option.bind_some]
      by_cases h5 : exErr a b l = 0
      · rw [if_pos h5, if_pos h5, rule_Months_f _ _ (by omega)]; rfl
      · rw [if_neg h5, if_neg h5]
    · rw [if_neg h2, if_neg (by omega), bad, if_neg (fun g => h2 g.1)]
  · rw [if_neg h1, if_neg h1]

theorem ephemerisref1_In_f (x lo hi : Int) : ephemerisref1_In.f x lo hi = some (decide (lo ≤ x ∧ x ≤ hi)) := by
  unfold ephemerisref1_In.f
  by_cases h : x ≥ lo
  · rw [if_pos h]; congr 1; simp; omega
  · rw [if_neg h]; congr 1; simp; omega

def opsOfKind (x : Int) : Int := if x = 1 ∨ x = 2 then 0 else (if x = 3 ∨ x = 11 then 1 else (if 4 ≤ x ∧ x ≤ 13 then 2 else -1))
theorem ephemerisref1_operands_f (x : Int) (k : Nat) (hk : 2 ≤ k) : ephemerisref1_operands.f k x = some (opsOfKind x) := by
  obtain ⟨k, rfl⟩ : ∃ j, k = j + 2 := ⟨k - 2, by omega⟩
  unfold ephemerisref1_operands.f opsOfKind
  have z : ∀ b : Bool, ephemerisref1_operands.j0 (k + 2) x x b = if b = true then some 0 else (if x = 3 ∨ x = 11 then some 1 else (if 4 ≤ x ∧ x ≤ 13 then some 2 else some (-1))) := by
    intro b
    simp only [ephemerisref1_operands.j0, ephemerisref1_operands.j1, ephemerisref1_In_f, Option.bind_some]
    grind
  rw [z, z]
  grind

theorem ops_kid (x : Int) (h : 1 ≤ x ∧ x ≤ 13) : opsOfKind x = rule_walk.kid x := by
  obtain ⟨n, rfl⟩ : ∃ n : Nat, x = n := ⟨x.toNat, by omega⟩
  have h1 : n ≤ 13 := by omega
  have h2 : 1 ≤ n := by omega
  unfold rule_walk.kid rule_walk.kids opsOfKind
  rw [Int.toNat_natCast]
  match n, h1, h2 with
  | 1, _, _ | 2, _, _ | 3, _, _ | 4, _, _ | 5, _, _ | 6, _, _ | 7, _, _ | 8, _, _ | 9, _, _ | 10, _, _ | 11, _, _ | 12, _, _ | 13, _, _ => decide
theorem ops_none (x : Int) (h : ¬ (1 ≤ x ∧ x ≤ 13)) : opsOfKind x = -1 := by
  unfold opsOfKind
  rw [if_neg (by omega), if_neg (by omega), if_neg (by omega)]
theorem nil_or_snoc {α : Type} (l : List α) : l = [] ∨ ∃ t s, l = t ++ [s] := by
  rcases List.eq_nil_or_concat l with h | ⟨t, s, h⟩
  · exact .inl h
  · exact .inr ⟨t, s, by rw [h, List.concat_eq_append]⟩
/-- The stack as a list of what comes next. -/
def items (st : List S122) : List (S24 × Int) := st.reverse.map fun s => (s.f0, s.f1)
theorem items_snoc (st : List S122) (s : S122) : items (st ++ [s]) = (s.f0, s.f1) :: items st := by
  unfold items
  rw [List.reverse_append]; rfl
theorem rd_item (st : List S122) (s : S122) : rd_T122 (st ++ [s]) (st.length : Int) = s := by
  unfold rd_T122
  rw [show ((st.length : Int).toNat) = st.length from by omega, List.getD_eq_getElem?_getD, List.getElem?_append_right (Nat.le_refl _)]
  simp
theorem ephemerisref1_ExprError_l1 (x4 : Int) (a b : Int) (l : List S24) (u v : Int) (ys : List S24) (d : Int) (hd : 1 ≤ d ∧ d ≤ 12) (hy : ys.length ≤ 2) : ∀ (i k : Nat) (st : List S122), i ≤ ys.length → st.length ≤ 100 - i →
    ephemerisref1_ExprError.l1 (k + i + 1) st x4 ((i : Int) - 1) a b l u v ys d = ephemerisref1_ExprError.l0 k (st ++ ((ys.take i).reverse.map fun y => (⟨y, d + 1⟩ : S122))) (wrap64 (x4 + 1)) a b l := by
  intro i
  induction i with
  | zero =>
    intro k st hi hst
    conv => lhs; unfold ephemerisref1_ExprError.l1
    rw [if_neg (by omega)]
    simp
  | succ i ih =>
    intro k st hi hst
    have hlt : i < ys.length := by omega
    conv => lhs; unfold ephemerisref1_ExprError.l1
    rw [if_pos (by omega), if_pos (by omega), if_pos (by omega), if_pos (by omega), show (((i + 1 : Nat) : Int) - 1) = (i : Int) from by omega, rd_expr ys i hlt, w64_id (n := d + 1) (by omega) (by omega), w64_id (n := (i : Int) - 1) (by omega) (by omega)]
    have := ih k (st ++ [(⟨ys[i], d + 1⟩ : S122)]) (by omega) (by rw [List.length_append, List.length_singleton]; omega)
    rw [show k + (i + 1) = k + i + 1 from by omega, this, List.append_assoc, List.take_succ_eq_append_getElem hlt, List.reverse_append, List.map_append]
    rfl
theorem ephemerisref1_ExprError_m (a b : Int) (l : List S24) : ∀ (m : Nat), m ≤ 60 → ∀ (st : List S122) (k : Nat), st.length + m ≤ 61 → (∀ s ∈ st, 1 ≤ s.f1 ∧ s.f1 ≤ 13) → 10 * m + 10 ≤ k →
    ephemerisref1_ExprError.l0 k st (61 - (m : Int)) a b l = some (wk m (items st)).1 := by
  intro m
  induction m with
  | zero =>
    intro hm st k hst hd hk
    obtain ⟨k, rfl⟩ : ∃ j, k = j + 3 := ⟨k - 3, by omega⟩
    conv => lhs; unfold ephemerisref1_ExprError.l0
    rcases nil_or_snoc st with rfl | ⟨st, s, rfl⟩
    · rw [if_neg (by simp)]; rfl
    · have hl : ((st ++ [s]).length : Int) = (st.length : Int) + 1 := by rw [List.length_append, List.length_singleton]; omega
      have hw : wrap64 (((st ++ [s]).length : Int) - 1) = (st.length : Int) := by rw [hl, w64_id (by omega) (by omega)]; omega
      rw [hw, if_pos (by omega), if_pos (by omega), if_pos (by omega), if_pos (by omega), Option.bind_some, if_pos (by omega), items_snoc]
      simp only [ephemerisref1_ExprError.j1, if_true]
      rfl
  | succ m ih =>
    intro hm st k hst hd hk
    obtain ⟨k, rfl⟩ : ∃ j, k = j + 4 := ⟨k - 4, by omega⟩
    conv => lhs; unfold ephemerisref1_ExprError.l0
    rcases nil_or_snoc st with rfl | ⟨st, s, rfl⟩
    · rw [if_neg (by simp)]; rfl
    · have hl : ((st ++ [s]).length : Int) = (st.length : Int) + 1 := by rw [List.length_append, List.length_singleton]; omega
      have hln : (st ++ [s]).length = st.length + 1 := by simp
      have hw : wrap64 (((st ++ [s]).length : Int) - 1) = (st.length : Int) := by rw [hl, w64_id (by omega) (by omega)]; omega
      have hs := hd s (by simp)
      rw [hw, if_pos (by omega), if_pos (by omega), if_pos (by omega), if_pos (by omega), Option.bind_some, if_neg (by omega), items_snoc, rd_item, show ((st.length : Int).toNat) = st.length from by omega, List.take_left]
      simp only [ephemerisref1_ExprError.j1]
      by_cases c1 : s.f1 > 12
      · rw [if_pos (decide_eq_true c1)]
        unfold wk
        rw [if_pos c1]
      rw [if_neg (by simpa using c1), ephemerisref1_operands_f _ _ (by omega), Option.bind_some]
      have bad : nodeOk s.f0 ≠ true → (wk (m + 1) ((s.f0, s.f1) :: items st)).1 = 8 := fun h => by unfold wk; rw [if_neg c1, if_neg h]
      by_cases c2 : (1 ≤ s.f0.f0 ∧ s.f0.f0 ≤ 13) ∧ (s.f0.f2.length : Int) = rule_walk.kid s.f0.f0
      · rw [if_pos (by rw [ops_kid _ c2.1]; exact c2.2)]
        have hk2 := kid_small s.f0.f0 c2.1
        have go : nodeOk s.f0 = true → ephemerisref1_ExprError.j2 (k + 2) st (61 - ((m + 1 : Nat) : Int)) a b l s.f0.f0 s.f0.f1 s.f0.f2 s.f1 = some (wk (m + 1) ((s.f0, s.f1) :: items st)).1 := fun h => by
          simp only [ephemerisref1_ExprError.j2]
          have hj : ∃ j, k + 1 = j + s.f0.f2.length + 1 := ⟨k - s.f0.f2.length, by omega⟩
          obtain ⟨j, hj⟩ := hj
          rw [w64_id (n := (s.f0.f2.length : Int) - 1) (by omega) (by omega), hj, ephemerisref1_ExprError_l1 _ a b l _ _ s.f0.f2 s.f1 (by omega) (by omega) s.f0.f2.length j st (Nat.le_refl _) (by omega), List.take_length, show wrap64 (61 - ((m + 1 : Nat) : Int) + 1) = 61 - (m : Int) from by rw [w64_id (by omega) (by omega)]; omega]
          rw [ih (by omega) _ j (by simp only [List.length_append, List.length_map, List.length_reverse]; omega) (fun q hq => by
            rcases List.mem_append.1 hq with hq | hq
            · exact hd q (List.mem_append.2 (.inl hq))
            · obtain ⟨y, _, rfl⟩ := List.mem_map.1 hq
              exact ⟨by show 1 ≤ s.f1 + 1; omega, by show s.f1 + 1 ≤ 13; omega⟩) (by omega)]
          conv => rhs; unfold wk
          rw [if_neg c1, if_pos h]
          unfold items
          rw [List.reverse_append, List.map_append, ← List.map_reverse, List.reverse_reverse, List.map_map]
          rfl
        by_cases c3 : s.f0.f0 = 1
        · rw [if_pos c3, ephemerisref1_In_f, Option.bind_some]
          by_cases c4 : 0 ≤ s.f0.f1 ∧ s.f0.f1 ≤ 2147483647
          · rw [if_pos (decide_eq_true c4)]
            exact go (by unfold nodeOk; rw [if_pos c3, decide_eq_true c2, decide_eq_true c4]; rfl)
          · rw [if_neg (by simpa using c4), bad (by unfold nodeOk; rw [if_pos c3, decide_eq_false c4]; simp)]
        · rw [if_neg c3]
          by_cases c4 : s.f0.f1 = 0
          · rw [if_pos c4]
            exact go (by unfold nodeOk; rw [if_neg c3, decide_eq_true c2, decide_eq_true c4]; rfl)
          · rw [if_neg c4, bad (by unfold nodeOk; rw [if_neg c3, decide_eq_false c4]; simp)]
      · rw [if_neg (fun h => by
          by_cases c3 : 1 ≤ s.f0.f0 ∧ s.f0.f0 ≤ 13
          · exact c2 ⟨c3, by rw [← ops_kid _ c3]; exact h⟩
          · rw [ops_none _ c3] at h; omega), bad (by unfold nodeOk; rw [decide_eq_false c2]; simp)]
theorem ephemerisref1_ExprError_f (a b : Int) (l : List S24) (k : Nat) (hk : 700 ≤ k) : ephemerisref1_ExprError.f k a b l = some (exErr a b l) := by
  unfold ephemerisref1_ExprError.f
  have := ephemerisref1_ExprError_m a b l 60 (by omega) [(⟨(⟨a, b, l⟩ : S24), 1⟩ : S122)] k (by simp) (fun s hs => by rw [List.mem_singleton.1 hs]; exact ⟨by show (1 : Int) ≤ 1; omega, by show (1 : Int) ≤ 13; omega⟩) (by omega)
  exact this

theorem ephemerisref1_Name_l0 (s : ByteArray) (hs : s.size ≤ 12) : ∀ (d i k : Nat), i + d = s.size → d < k →
    ephemerisref1_Name.l0 k s (s.size : Int) (i : Int) = some (noWord s && letters (s.data.toList.drop i)) := by
  intro d
  induction d with
  | zero =>
    intro i k hi hk
    obtain ⟨k, rfl⟩ : ∃ m, k = m + 1 := ⟨k - 1, by omega⟩
    obtain rfl : i = s.size := by omega
    simp only [ephemerisref1_Name.l0]
    rw [if_neg (by omega), letters_end, Bool.and_true]
    unfold noWord
    by_cases c1 : s.toList = [121]
    · rw [if_pos c1]; simp [c1]
    rw [if_neg c1, bne_iff_ne.2 c1]
    by_cases c2 : s.toList = [97, 110, 100]
    · rw [if_pos c2]; simp [c2]
    rw [if_neg c2, bne_iff_ne.2 c2]
    by_cases c3 : s.toList = [111, 114]
    · rw [if_pos c3]; simp [c3]
    rw [if_neg c3, bne_iff_ne.2 c3]
    rfl
  | succ d ih =>
    intro i k hi hk
    obtain ⟨k, rfl⟩ : ∃ m, k = m + 1 := ⟨k - 1, by omega⟩
    simp only [ephemerisref1_Name.l0]
    rw [if_pos (by omega), if_pos (by omega), if_pos (by omega), letters_cons s i (by omega)]
    by_cases c1 : bt s i < 97
    · rw [if_pos c1, decide_eq_false (show ¬ 97 ≤ bt s i by omega)]; simp
    rw [if_neg c1, decide_eq_true (show 97 ≤ bt s i by omega)]
    by_cases c2 : bt s i > 122
    · rw [if_pos c2, decide_eq_false (show ¬ bt s i ≤ 122 by omega)]; simp
    rw [if_neg c2, decide_eq_true (show bt s i ≤ 122 by omega), w64_id (by omega) (by omega)]
    have := ih (i + 1) k (by omega) (by omega)
    rw [show ((i + 1 : Nat) : Int) = (i : Int) + 1 from by omega] at this
    rw [this]; simp
theorem ephemerisref1_Name_f (s : ByteArray) (k : Nat) (hk : 20 ≤ k) : ephemerisref1_Name.f k s = some (isName s) := by
  obtain ⟨k, rfl⟩ : ∃ m, k = m + 1 := ⟨k - 1, by omega⟩
  unfold ephemerisref1_Name.f isName
  by_cases h1 : s.toList = []
  · rw [if_pos h1, decide_eq_false (show ¬ 1 ≤ s.size by have := (toList_nil s).1 h1; omega)]
    simp [ephemerisref1_Name.j0]
  have h1' : ¬ s.size = 0 := fun h => h1 ((toList_nil s).2 h)
  rw [if_neg h1, decide_eq_true (show 1 ≤ s.size by omega)]
  simp only [ephemerisref1_Name.j0, decide_eq_true_eq]
  by_cases h2 : (s.size : Int) > 12
  · rw [if_pos h2, decide_eq_false (show ¬ s.size ≤ 12 by omega)]; rfl
  rw [if_neg h2, decide_eq_true (show s.size ≤ 12 by omega)]
  exact ephemerisref1_Name_l0 s (by omega) s.size 0 k (by omega) (by omega)

theorem ephemerisref1_Day_f (x : Int) : ephemerisref1_Day.f x = some (decide (-4000000 ≤ x ∧ x ≤ 4000000)) := by
  unfold ephemerisref1_Day.f
  rw [ephemerisref1_In_f]; rfl

/-- The first fault of the months from a place on, as the other reading tells it: 'a' and 'b' tell whether there was a day so far. -/
def mrFrom : Bool → Bool → List (List UInt8) → List S53 → Int
  | a, b, _, [] => if a = true then (if b = true then 0 else 8) else 8
  | a, b, s, m :: t => if isName m.f0 = true then (if m.f0.toList ∈ s then 7 else (if (0 ≤ m.f1 ∧ m.f1 ≤ 400) ∧ (0 ≤ m.f2 ∧ m.f2 ≤ 400) then mrFrom (a || decide (m.f1 > 0)) (b || decide (m.f2 > 0)) (s ++ [m.f0.toList]) t else 3)) else 5
def mrErr (l : List S53) : Int := if 1 ≤ l.length ∧ l.length ≤ 20 then mrFrom false false [] l else 2
def mrNames (l : List S53) : List (List UInt8) := l.map fun m => m.f0.toList
theorem mr_at (l : List S53) (i : Nat) (h : i < l.length) : rd_T53 l (i : Int) = l[i] := by
  unfold rd_T53
  rw [show ((i : Int).toNat) = i from by omega, List.getD_eq_getElem?_getD, List.getElem?_eq_getElem h]; rfl
theorem mrNames_snoc (l : List S53) (i : Nat) (h : i < l.length) : mrNames (l.take i) ++ [l[i].f0.toList] = mrNames (l.take (i + 1)) := by
  rw [List.take_succ_eq_append_getElem h]
  unfold mrNames
  rw [List.map_append]; rfl
theorem ephemerisref1_MonthsError_l1 (l : List S53) (a b : Bool) (x12 x13 : Int) (i : Nat) (hl : l.length ≤ 20) (hlt : i < l.length) : ∀ (d j k : Nat), j + d = i →
    ephemerisref1_MonthsError.l1 (k + d + 1) l a b (i : Int) x12 x13 (i : Int) (j : Int) = if l[i].f0.toList ∈ mrNames ((l.take i).drop j) then some 7 else (if (0 ≤ l[i].f1 ∧ l[i].f1 ≤ 400) ∧ (0 ≤ l[i].f2 ∧ l[i].f2 ≤ 400) then ephemerisref1_MonthsError.l0 k l (a || decide (l[i].f1 > 0)) (b || decide (l[i].f2 > 0)) x12 (wrap64 (x13 + 1)) else some 3) := by
  intro d
  have hty : (l.take i).length = i := by rw [List.length_take]; omega
  induction d with
  | zero =>
    intro j k hj
    conv => lhs; unfold ephemerisref1_MonthsError.l1
    rw [if_neg (by omega), List.drop_of_length_le (by omega), if_neg (show ¬ l[i].f0.toList ∈ mrNames ([] : List S53) from by unfold mrNames; simp), if_pos (by omega), if_pos (by omega), mr_at l i hlt, ephemerisref1_In_f, Option.bind_some]
    by_cases c1 : 0 ≤ l[i].f1 ∧ l[i].f1 ≤ 400
    · rw [if_pos (decide_eq_true c1), ephemerisref1_In_f, Option.bind_some]
      by_cases c2 : 0 ≤ l[i].f2 ∧ l[i].f2 ≤ 400
      · rw [if_pos (decide_eq_true c2), if_pos (show (0 ≤ l[i].f1 ∧ l[i].f1 ≤ 400) ∧ (0 ≤ l[i].f2 ∧ l[i].f2 ≤ 400) from ⟨c1, c2⟩)]
        cases a <;> cases b <;> rfl
      · rw [if_neg (by simpa using c2), if_neg (fun h => c2 h.2)]
    · rw [if_neg (by simpa using c1), if_neg (fun h => c1 h.1)]
  | succ d ih =>
    intro j k hj
    have hlj : j < l.length := by omega
    have ih := ih (j + 1) k (by omega)
    have hc : (l[i].f0.toList ∈ mrNames ((l.take i).drop j)) ↔ (l[j].f0.toList = l[i].f0.toList ∨ l[i].f0.toList ∈ mrNames ((l.take i).drop (j + 1))) := by
      rw [List.drop_eq_getElem_cons (show j < (l.take i).length by omega), List.getElem_take]
      unfold mrNames
      rw [List.map_cons, List.mem_cons]
      exact ⟨fun h => h.imp (fun e => e.symm) id, fun h => h.imp (fun e => e.symm) id⟩
    rw [show k + (d + 1) + 1 = (k + d + 1) + 1 from by omega]
    conv => lhs; unfold ephemerisref1_MonthsError.l1
    rw [if_pos (by omega), if_pos (by omega), if_pos (by omega), if_pos (by omega), if_pos (by omega), mr_at l j hlj, mr_at l i hlt, w64_id (n := (j : Int) + 1) (by omega) (by omega)]
    rw [show ((j + 1 : Nat) : Int) = (j : Int) + 1 from by omega] at ih
    by_cases c : l[j].f0.toList = l[i].f0.toList
    · rw [if_pos c, if_pos (hc.2 (.inl c))]
    · rw [if_neg c, ih]
      by_cases c2 : l[i].f0.toList ∈ mrNames ((l.take i).drop (j + 1))
      · rw [if_pos c2, if_pos (hc.2 (.inr c2))]
      · rw [if_neg c2, if_neg (fun h => (hc.1 h).elim c c2)]
theorem ephemerisref1_MonthsError_l0 (l : List S53) (hl : l.length ≤ 20) : ∀ (d i k : Nat) (a b : Bool), i + d = l.length → 50 * d + 50 < k →
    ephemerisref1_MonthsError.l0 k l a b (l.length : Int) (i : Int) = some (mrFrom a b (mrNames (l.take i)) (l.drop i)) := by
  intro d
  induction d with
  | zero =>
    intro i k a b hi hk
    obtain ⟨k, rfl⟩ : ∃ m, k = m + 1 := ⟨k - 1, by omega⟩
    conv => lhs; unfold ephemerisref1_MonthsError.l0
    rw [if_neg (by omega), List.drop_of_length_le (by omega)]
    unfold mrFrom
    cases a <;> cases b <;> rfl
  | succ d ih =>
    intro i k a b hi hk
    have hlt : i < l.length := by omega
    obtain ⟨k, rfl⟩ : ∃ m, k = m + i + 1 + 1 := ⟨k - i - 2, by omega⟩
    conv => lhs; unfold ephemerisref1_MonthsError.l0
    rw [if_pos (by omega), if_pos (by omega), if_pos (by omega), mr_at l i hlt, ephemerisref1_Name_f _ _ (by omega), Option.bind_some, List.drop_eq_getElem_cons hlt]
    unfold mrFrom
    by_cases c1 : isName l[i].f0 = true
    · have h1 := ephemerisref1_MonthsError_l1 l a b (l.length : Int) (i : Int) i hl hlt i 0 k (by omega)
      rw [if_pos c1, if_pos c1]
      rw [List.drop_zero] at h1
      refine h1.trans ?_
      by_cases c2 : l[i].f0.toList ∈ mrNames (l.take i)
      · rw [if_pos c2, if_pos c2]
      rw [if_neg c2, if_neg c2]
      by_cases c3 : (0 ≤ l[i].f1 ∧ l[i].f1 ≤ 400) ∧ (0 ≤ l[i].f2 ∧ l[i].f2 ≤ 400)
      · rw [if_pos c3, if_pos c3, mrNames_snoc l i hlt, w64_id (n := (i : Int) + 1) (by omega) (by omega)]
        exact ih (i + 1) k _ _ (by omega) (by omega)
      · rw [if_neg c3, if_neg c3]
    · rw [if_neg c1, if_neg c1]
theorem ephemerisref1_MonthsError_f (l : List S53) (k : Nat) (hk : 1100 ≤ k) : ephemerisref1_MonthsError.f k l = some (mrErr l) := by
  unfold ephemerisref1_MonthsError.f mrErr
  rw [ephemerisref1_In_f, Option.bind_some]
  by_cases c : 1 ≤ l.length ∧ l.length ≤ 20
  · rw [if_pos (decide_eq_true (by omega)), if_pos c]
    exact ephemerisref1_MonthsError_l0 l c.2 l.length 0 k false false (by omega) (by omega)
  · rw [if_neg (fun h => c (by have := of_decide_eq_true h; omega)), if_neg c]

theorem moFrom_eq : ∀ (l : List S53) (a b : Int) (p q : Bool) (s : List (List UInt8)), 0 ≤ a → 0 ≤ b → (p = true ↔ 0 < a) → (q = true ↔ 0 < b) → moFrom a b s l = mrFrom p q s l
  | [], a, b, p, q, s, ha, hb, hp, hq => by
    unfold moFrom mrFrom
    by_cases c : a = 0
    · rw [if_pos c, if_neg (fun h => by have := hp.1 h; omega)]
    · rw [if_neg c, if_pos (hp.2 (by omega))]
      by_cases d : b = 0
      · rw [if_pos d, if_neg (fun h => by have := hq.1 h; omega)]
      · rw [if_neg d, if_pos (hq.2 (by omega))]
  | m :: t, a, b, p, q, s, ha, hb, hp, hq => by
    unfold moFrom mrFrom
    by_cases c : (0 ≤ m.f1 ∧ m.f1 ≤ 400) ∧ (0 ≤ m.f2 ∧ m.f2 ≤ 400)
    · rw [if_pos c, if_pos c, moFrom_eq t (a + m.f1) (b + m.f2) (p || decide (m.f1 > 0)) (q || decide (m.f2 > 0)) (s ++ [m.f0.toList]) (by omega) (by omega)
        (by rw [Bool.or_eq_true, hp, decide_eq_true_eq]; omega) (by rw [Bool.or_eq_true, hq, decide_eq_true_eq]; omega)]
    · rw [if_neg c, if_neg c]
theorem moErr_eq (l : List S53) : moErr l = mrErr l := by
  unfold moErr mrErr
  rw [moFrom_eq l 0 0 false false [] (by omega) (by omega) (by simp) (by simp)]

theorem ephemerisref1_RuleError_f (n : ByteArray) (e c a b : Int) (l : List S24) (ms : List S53) (k : Nat) (hk : 1101 ≤ k) : ephemerisref1_RuleError.f k n e c a b l ms = some (ruleErr n e c a b l ms) := by
  obtain ⟨k, rfl⟩ : ∃ j, k = j + 1 := ⟨k - 1, by omega⟩
  unfold ephemerisref1_RuleError.f ruleErr
  rw [ephemerisref1_Name_f _ _ (by omega), Option.bind_some]
  by_cases h1 : isName n = true
  · rw [if_pos h1, if_pos h1, ephemerisref1_Day_f, Option.bind_some]
    have bad : ephemerisref1_RuleError.j0 (k + 1) true n e c a b l ms = some 3 := by simp only [ephemerisref1_RuleError.j0, if_true]
    by_cases h2 : -4000000 ≤ e ∧ e ≤ 4000000
    · rw [if_pos (decide_eq_true h2), ephemerisref1_In_f, Option.bind_some]
      by_cases h3 : 1 ≤ c ∧ c ≤ 3000
      · rw [decide_eq_true h3, if_pos ⟨h2, h3⟩]
        simp only [ephemerisref1_RuleError.j0]
        rw [if_neg (by decide), ephemerisref1_ExprError_f _ _ _ _ (by omega), Option.bind_some]
        by_cases h5 : exErr a b l = 0
        · rw [if_pos h5, if_pos h5, ephemerisref1_MonthsError_f _ _ (by omega), moErr_eq]; rfl
        · rw [if_neg h5, if_neg h5]
      · rw [decide_eq_false h3, if_neg (fun g => h3 g.2)]
        exact bad
    · rw [if_neg (by simpa using h2), bad, if_neg (fun g => h2 g.1)]
  · rw [if_neg h1, if_neg h1]

theorem small_name : isName (⟨#[115, 109, 97, 108, 108]⟩ : ByteArray) = true := by unfold isName noWord; rw [toList_data]; decide
theorem small_mo : moErr smallM = 0 := by
  have n2 : isName (⟨#[111, 110, 101]⟩ : ByteArray) = true := by unfold isName noWord; rw [toList_data]; decide
  have n3 : isName (⟨#[116, 119, 111]⟩ : ByteArray) = true := by unfold isName noWord; rw [toList_data]; decide
  unfold moErr smallM
  rw [if_pos (by decide)]
  simp only [moFrom, n2, n3, if_true, toList_data]
  decide
theorem small_ex : exErr 10 0 [⟨8, 0, [⟨2, 0, []⟩, ⟨1, 4, []⟩]⟩, ⟨1, 0, []⟩] = 0 := rfl
theorem RuleChecks : ephemerislaw1_RuleChecks.Pure := by
  intro n e c a b l ms hn he hc ha hb hl hms
  refine ⟨1200, ?_⟩
  unfold ephemerislaw1_RuleChecks.f
  rw [ephemerislaw1_small_f, Option.bind_some, Option.bind_some]
  unfold smallT
  rw [rule_Check_f _ _ _ _ _ _ _ _ (by omega), Option.bind_some, if_pos (by
    unfold ruleErr
    rw [if_pos small_name, if_pos (by decide), if_pos small_ex, small_mo]), rule_Check_f _ _ _ _ _ _ _ _ (by omega), Option.bind_some]
  have h3 : ruleErr (⟨#[115, 109, 97, 108, 108]⟩ : ByteArray) 1 0 10 0 [⟨8, 0, [⟨2, 0, []⟩, ⟨1, 4, []⟩]⟩, ⟨1, 0, []⟩] smallM = 3 := by
    unfold ruleErr
    rw [if_pos small_name, if_neg (by decide)]
  rw [h3]
  simp only [ephemerislaw1_RuleChecks.j0]
  rw [if_neg (by decide), rule_Check_f _ _ _ _ _ _ _ _ (by omega), Option.bind_some, ephemerisref1_RuleError_f _ _ _ _ _ _ _ _ (by omega), Option.bind_some]
  simp
end Go.Proofs.YtgcmclnjnimolaaDoor.Pure
