/- The law ReformChecks over numbers and lists: what the law's functions tell, and that the law holds. -/
import Derived.Test.YtbcbghbmjgcbmaaDoorPReformChecksx5
import Derived.Test.YtbcbghbmjgcbmaaDoorM
import Derived.Test.YtbcbghbmjgcbmaaDoorT
import Derived.Test.YtbcbghbmjgcbmaaDoorO
import Derived.Test.YtbcbghbmjgcbmaaDoorE
import Derived.Test.YtbcbghbmjgcbmaaDoorA
import Derived.Test.YtbcbghbmjgcbmaaDoorI
import Derived.Lib.IndexBytes
import Derived.Lib.SplitLaws
import Derived.Lib.ItoaLen
namespace Go.Proofs.YtbcbghbmjgcbmaaDoor.Pure
open Go.RowKit Go.Proofs.YtbcbghbmjgcbmaaDoor.PReformChecks Go.Proofs.YtbcbghbmjgcbmaaDoorW.PrintWords Go.Proofs.YtbcbghbmjgcbmaaDoorW.PrintLast Go.Proofs.YtbcbghbmjgcbmaaDoor.M Go.Proofs.YtbcbghbmjgcbmaaDoor.T Go.Proofs.YtbcbghbmjgcbmaaDoor.O Go.Proofs.YtbcbghbmjgcbmaaDoor.E Go.Proofs.YtbcbghbmjgcbmaaDoor.A Go.Proofs.YtbcbghbmjgcbmaaDoor.I
set_option linter.unusedVariables false
set_option linter.unusedSimpArgs false
/-- The law over numbers and lists. -/
def ephemerislaw1_ReformChecks.Pure : Prop := ∀ (a0_0 : ByteArray) (l0_1 : List (S27)), a0_0.size ≤ 140737488351232 → (l0_1.length * 24 ≤ 140737488351232 ∧ l0_1.length ≤ 9223372036854775807 ∧ ∀ v ∈ l0_1, ((Lit.int .i64 v.f0).wf = true ∧ v.f1.size ≤ 140737488351232)) → ∃ k, ephemerislaw1_ReformChecks.f k a0_0 l0_1 = some true

theorem rule_Name_f (s : ByteArray) : rule_Name.f s = some (isName s) := by
  have e : rule_Name.all s.data.toList = letters s.data.toList := rfl
  unfold rule_Name.f isName noWord
  rw [e]
  congr 1
  by_cases h1 : (s.size : Int) < 1
  · rw [if_pos h1, decide_eq_false (show ¬ 1 ≤ s.size by omega)]; rfl
  rw [if_neg h1, decide_eq_true (show 1 ≤ s.size by omega)]
  by_cases h2 : (s.size : Int) > 12
  · rw [if_pos h2, decide_eq_false (show ¬ s.size ≤ 12 by omega)]; rfl
  rw [if_neg h2, decide_eq_true (show s.size ≤ 12 by omega)]
  by_cases c1 : s.toList = [121]
  · rw [if_pos c1]; simp [c1]
  rw [if_neg c1, bne_iff_ne.2 c1]
  by_cases c2 : s.toList = [97, 110, 100]
  · rw [if_pos c2]; simp [c2]
  rw [if_neg c2, bne_iff_ne.2 c2]
  by_cases c3 : s.toList = [111, 114]
  · rw [if_pos c3]; simp [c3]
  rw [if_neg c3, bne_iff_ne.2 c3]
  by_cases c4 : s.toList = [110, 111, 116]
  · rw [if_pos c4]; simp [c4]
  rw [if_neg c4, bne_iff_ne.2 c4]
  rfl

theorem line_Check_f (x : Int) : line_Check.f x = some (if -4000000 ≤ x ∧ x ≤ 4000000 then 0 else 3) := by
  unfold line_Check.f
  by_cases h : x < -4000000
  · rw [if_pos h, if_neg (by omega)]
  · rw [if_neg h]
    by_cases h2 : x > 4000000
    · rw [if_pos h2, if_neg (by omega)]
    · rw [if_neg h2, if_pos (by omega)]

theorem ephemerisref1_Name_l0 (s : ByteArray) (hs : s.size ≤ 12) : ∀ (d i k : Nat), i + d = s.size → d < k →
    ephemerisref1_Name.l0 k s (s.size : Int) (i : Int) = some (noWord s && letters (s.data.toList.drop i)) := by
  intro d
  induction d with
  | zero =>
    intro i k hi hk
    obtain ⟨k, rfl⟩ : ∃ m, k = m + 1 := ⟨k - 1, by omega⟩
    obtain rfl : i = s.size := by omega
    simp only [ephemerisref1_Name.l0]
    rw [if_neg (by omega), letters_end, Bool.and_true]
    unfold noWord
    by_cases c1 : s.toList = [121]
    · rw [if_pos c1]; simp [c1]
    rw [if_neg c1, bne_iff_ne.2 c1]
    by_cases c2 : s.toList = [97, 110, 100]
    · rw [if_pos c2]; simp [c2]
    rw [if_neg c2, bne_iff_ne.2 c2]
    by_cases c3 : s.toList = [111, 114]
    · rw [if_pos c3]; simp [c3]
    rw [if_neg c3, bne_iff_ne.2 c3]
    rfl
  | succ d ih =>
    intro i k hi hk
    obtain ⟨k, rfl⟩ : ∃ m, k = m + 1 := ⟨k - 1, by omega⟩
    simp only [ephemerisref1_Name.l0]
    rw [if_pos (by omega), if_pos (by omega), if_pos (by omega), letters_cons s i (by omega)]
    by_cases c1 : bt s i < 97
    · rw [if_pos c1, decide_eq_false (show ¬ 97 ≤ bt s i by omega)]; simp
    rw [if_neg c1, decide_eq_true (show 97 ≤ bt s i by omega)]
    by_cases c2 : bt s i > 122
    · rw [if_pos c2, decide_eq_false (show ¬ bt s i ≤ 122 by omega)]; simp
    rw [if_neg c2, decide_eq_true (show bt s i ≤ 122 by omega), w64_id (by omega) (by omega)]
    have := ih (i + 1) k (by omega) (by omega)
    rw [show ((i + 1 : Nat) : Int) = (i : Int) + 1 from by omega] at this
    rw [this]; simp
theorem ephemerisref1_Name_f (s : ByteArray) (k : Nat) (hk : 20 ≤ k) : ephemerisref1_Name.f k s = some (isName s) := by
  obtain ⟨k, rfl⟩ : ∃ m, k = m + 1 := ⟨k - 1, by omega⟩
  unfold ephemerisref1_Name.f isName
  by_cases h1 : s.toList = []
  · rw [if_pos h1, decide_eq_false (show ¬ 1 ≤ s.size by have := (toList_nil s).1 h1; omega)]
    simp [ephemerisref1_Name.j0]
  have h1' : ¬ s.size = 0 := fun h => h1 ((toList_nil s).2 h)
  rw [if_neg h1, decide_eq_true (show 1 ≤ s.size by omega)]
  simp only [ephemerisref1_Name.j0, decide_eq_true_eq]
  by_cases h2 : (s.size : Int) > 12
  · rw [if_pos h2, decide_eq_false (show ¬ s.size ≤ 12 by omega)]; rfl
  rw [if_neg h2, decide_eq_true (show s.size ≤ 12 by omega)]
  exact ephemerisref1_Name_l0 s (by omega) s.size 0 k (by omega) (by omega)

theorem ephemerisref1_In_f (x lo hi : Int) : ephemerisref1_In.f x lo hi = some (decide (lo ≤ x ∧ x ≤ hi)) := by
  unfold ephemerisref1_In.f
  by_cases h : x ≥ lo
  · rw [if_pos h]; congr 1; simp; omega
  · rw [if_neg h]; congr 1; simp; omega

theorem ephemerisref1_Day_f (x : Int) : ephemerisref1_Day.f x = some (decide (-4000000 ≤ x ∧ x ≤ 4000000)) := by
  unfold ephemerisref1_Day.f
  rw [ephemerisref1_In_f]; rfl

/-- The parts of a text between the places of a byte. -/
def spc (c : UInt8) : List UInt8 → List (List UInt8)
  | [] => [[]]
  | b :: r => if b = c then [] :: spc c r else match spc c r with | [] => [[b]] | w :: ws => (b :: w) :: ws
theorem spc_ne (c : UInt8) : ∀ l, spc c l ≠ []
  | [] => by simp [spc]
  | b :: r => by
    unfold spc
    split
    · simp
    · split <;> simp
theorem spc_word (c : UInt8) : ∀ u : List UInt8, c ∉ u → spc c u = [u]
  | [], _ => rfl
  | b :: u, h => by
    have hc : b ≠ c := fun e => h (by rw [e]; exact List.mem_cons_self)
    rw [spc, if_neg hc, spc_word c u (fun g => h (List.mem_cons_of_mem _ g))]
theorem spc_cons (c : UInt8) (m : List UInt8) : ∀ u : List UInt8, c ∉ u → spc c (u ++ c :: m) = u :: spc c m
  | [], _ => by rw [List.nil_append, spc, if_pos rfl]
  | b :: u, h => by
    have hc : b ≠ c := fun e => h (by rw [e]; exact List.mem_cons_self)
    rw [List.cons_append, spc, if_neg hc, spc_cons c m u (fun g => h (List.mem_cons_of_mem _ g))]
theorem spc_len (c : UInt8) : ∀ l, l.length + 1 = ((spc c l).map (fun w => w.length + 1)).sum
  | [] => rfl
  | b :: r => by
    have ih := spc_len c r
    have hne := spc_ne c r
    unfold spc
    split
    · rw [List.map_cons, List.sum_cons, ← ih, List.length_cons]; simp; omega
    · split
      · rename_i he; exact absurd he hne
      · rename_i x xs he
        rw [he, List.map_cons, List.sum_cons] at ih
        rw [List.map_cons, List.sum_cons, List.length_cons, List.length_cons]; omega
theorem splitK_spc (c : UInt8) : ∀ (k : Nat) (l : List UInt8), l.count c = k → Go.Lib.splitK [c] 0 k l = spc c l
  | 0, l, h => by
    have hn : c ∉ l := List.count_eq_zero.1 h
    rw [spc_word c l hn]; rfl
  | k + 1, l, h => by
    obtain ⟨u, r, e, hu, hr⟩ := parted (· == c) l
    have hn : c ∉ u := fun g => by have := hu _ g; simp at this
    rcases hr with rfl | ⟨d, m, rfl, hc⟩
    · rw [List.append_nil] at e; rw [e, List.count_eq_zero.2 hn] at h; cases h
    · rw [beq_iff_eq] at hc; subst hc
      subst e
      have hc2 : m.count d = k := by
        rw [List.count_append, List.count_eq_zero.2 hn, List.count_cons_self] at h; omega
      have hix : Go.Lib.index (u ++ d :: m) [d] = (u.length : Int) := by rw [Go.Lib.index_one, idx_yes d m u hn]
      have hb : ((u.length : Int) == -1) = false := beq_eq_false_iff_ne.2 (by omega)
      rw [Go.Lib.splitK, hix, hb, if_neg (by decide), spc_cons d m u hn, ← splitK_spc d k m hc2]
      congr 1
      · rw [Int.toNat_natCast, Nat.add_zero, List.take_left']; rfl
      · congr 1
        rw [Int.toNat_natCast]
        show (u ++ d :: m).drop (u.length + 1) = m
        rw [← List.drop_drop, List.drop_left']
        · rfl
        · rfl
theorem split1_f (c : UInt8) (s : ByteArray) (h : s.data.toList.length ≤ 1048576) : strings_Split.f s (⟨#[c]⟩ : ByteArray) = some ((spc c s.data.toList).map bs) := by
  rw [bs_of s] at h ⊢
  rw [bs_list] at h ⊢
  generalize s.data.toList = l at h ⊢
  unfold strings_Split.f
  rw [if_pos ⟨by rw [bs_size]; omega, (by show 1 ≤ 1; decide)⟩]
  congr 1
  have hc : Go.Lib.countB (bs l) (⟨#[c]⟩ : ByteArray) = l.count c := Go.Lib.count_one c l
  have h1 := Go.Lib.splitB_data (⟨#[c]⟩ : ByteArray) 0 (l.count c) (bs l)
  rw [hc]
  have h2 : (Go.Lib.splitB (⟨#[c]⟩ : ByteArray) 0 (l.count c) (bs l)).map (·.data.toList) = spc c l := h1.trans (splitK_spc c _ l rfl)
  rw [← h2, List.map_map]
  symm
  exact (List.map_congr_left (g := id) (fun x _ => (bs_of x).symm)).trans (List.map_id _)
/-- The first part of a text before a byte. -/
theorem cut1_f (c : UInt8) (u m : List UInt8) (hn : c ∉ u) (h : (u ++ c :: m).length ≤ 1048576) : strings_Cut.f (bs (u ++ c :: m)) (⟨#[c]⟩ : ByteArray) = some (bs u, bs m, true) := by
  unfold strings_Cut.f
  rw [if_pos (by rw [bs_size]; omega), bs_list]
  have hix : Go.Lib.index (u ++ c :: m) [c] = (u.length : Int) := by rw [Go.Lib.index_one, idx_yes c m u hn]
  have e : Go.Lib.cut (u ++ c :: m) [c] = (u, m, true) := by
    unfold Go.Lib.cut
    rw [hix, if_pos (by omega), Int.toNat_natCast, List.take_left' rfl]
    congr 2
    show (u ++ c :: m).drop (u.length + 1) = m
    rw [← List.drop_drop, List.drop_left' rfl]; rfl
  rw [show (⟨#[c]⟩ : ByteArray).data.toList = [c] from rfl, e]
  rfl
def eqL : List UInt8 → List UInt8 → Bool
  | [], [] => true
  | a :: l, b :: m => decide (a = b) && eqL l m
  | _, _ => false
def eqLL : List (List UInt8) → List (List UInt8) → Bool
  | [], [] => true
  | a :: l, b :: m => eqL a b && eqLL l m
  | _, _ => false
theorem eqL_eq : ∀ {a b : List UInt8}, eqL a b = true → a = b
  | [], [], _ => rfl
  | a :: l, b :: m, h => by
    simp only [eqL, Bool.and_eq_true, decide_eq_true_eq] at h
    rw [h.1, eqL_eq h.2]
  | [], _ :: _, h => by simp [eqL] at h
  | _ :: _, [], h => by simp [eqL] at h
theorem eqLL_eq : ∀ {a b : List (List UInt8)}, eqLL a b = true → a = b
  | [], [], _ => rfl
  | a :: l, b :: m, h => by
    simp only [eqLL, Bool.and_eq_true] at h
    rw [eqL_eq h.1, eqLL_eq h.2]
  | [], _ :: _, h => by simp [eqLL] at h
  | _ :: _, [], h => by simp [eqLL] at h

theorem rdC_at (l : List ByteArray) (i : Nat) (h : i < l.length) : rdOf ByteArray.empty l (i : Int) = l[i] := by
  unfold rdOf
  rw [Int.toNat_natCast, List.getD_eq_getElem?_getD, List.getElem?_eq_getElem h]; rfl
theorem rdT_at (l : List S42) (i : Nat) (h : i < l.length) : rd_T42 l (i : Int) = l[i] := by
  unfold rd_T42
  rw [Int.toNat_natCast, List.getD_eq_getElem?_getD, List.getElem?_eq_getElem h]; rfl
/-- The rows of the table; the lists of months. -/
def rows : List S42 := catalog_table.f.getD []
def mons : List ByteArray := catalog_months.f.getD []
theorem rows_f : catalog_table.f = some rows := rfl
theorem mons_f : catalog_months.f = some mons := rfl
theorem rows_len : rows.length = 40 := rfl
theorem mons_len : mons.length = 20 := rfl
abbrev nm (r : S42) : List UInt8 := r.f0.data.toList
abbrev lp (r : S42) : List UInt8 := r.f3.data.toList
def mon (r : S42) : List UInt8 := (mons.getD ((r.f4 - 65) % 256).toNat ByteArray.empty).data.toList
def wsOf (r : S42) : List (List UInt8) := Go.Lib.fields (mon r)
/-- One line of a month; all of them. -/
def line1 (a b : List UInt8) : List UInt8 := (([109, 111, 110, 116, 104, 32] ++ a) ++ [32]) ++ Go.Lib.replaceAll b [47] [32] ++ [10]
def lines : List (List UInt8) → List UInt8
  | a :: b :: r => line1 a b ++ lines r
  | _ => []
def headL (r : S42) : List UInt8 := (((((((([99, 97, 108, 101, 110, 100, 97, 114, 32] ++ nm r) ++ [10, 101, 112, 111, 99, 104, 32]) ++ Go.Lib.itoa r.f1) ++ [10, 99, 121, 99, 108, 101, 32]) ++ Go.Lib.itoa r.f2) ++ [10, 108, 101, 97, 112, 32]) ++ lp r) ++ [10])
def rowL (r : S42) : List UInt8 := headL r ++ lines (wsOf r)
/-- What the table's rows keep to. -/
def okRow (r : S42) : Bool := decide (0 ≤ (r.f4 - 65) % 256) && decide ((r.f4 - 65) % 256 < 20) && decide ((nm r).length ≤ 100) && decide ((lp r).length ≤ 200) && decide (-100000000 ≤ r.f1) && decide (r.f1 ≤ 100000000) && decide (-100000000 ≤ r.f2) && decide (r.f2 ≤ 100000000) && (mon r).all (fun b => decide (b.toNat < 128)) && decide ((mon r).length ≤ 1000) && (wsOf r).all (fun w => decide (w.length ≤ 100) && decide ((Go.Lib.replaceAll w [47] [32]).length ≤ 100)) && decide ((wsOf r).length ≤ 100) && !(nm r).contains 10 && decide ((wsOf r).length % 2 = 0)
theorem rows_ok : rows.all okRow = true := by decide +kernel
theorem texts_are : eqLL (spc 124 ephemerisref1_Texts.cat.data.toList) (rows.map rowL) = true := by kernel_rfl
theorem cat_len : ephemerisref1_Texts.cat.data.toList.length ≤ 1048576 := by
  have h := spc_len 124 ephemerisref1_Texts.cat.data.toList
  have h2 : (((rows.map rowL).map (fun w => w.length + 1)).sum) ≤ 1048576 := by decide +kernel
  rw [eqLL_eq texts_are] at h
  omega
theorem Texts_f : ephemerisref1_Texts.f = some ((rows.map rowL).map bs) := by
  unfold ephemerisref1_Texts.f
  rw [split1_f 124 _ cat_len, eqLL_eq texts_are]
theorem lit_month : (⟨#[109, 111, 110, 116, 104, 32]⟩ : ByteArray) = bs [109, 111, 110, 116, 104, 32] := rfl
theorem lit_sp : (⟨#[32]⟩ : ByteArray) = bs [32] := rfl
theorem lit_nl : (⟨#[10]⟩ : ByteArray) = bs [10] := rfl
theorem lit_sl : (⟨#[47]⟩ : ByteArray) = bs [47] := rfl
theorem rep_f (w : List UInt8) (h : w.length ≤ 1000) : strings_ReplaceAll.f (bs w) (bs [47]) (bs [32]) = some (bs (Go.Lib.replaceAll w [47] [32])) := by
  unfold strings_ReplaceAll.f
  rw [if_pos ⟨⟨by rw [bs_size]; omega, by rw [bs_size]; decide⟩, by rw [bs_size]; decide⟩]
  rfl
theorem ws_f (s t : List UInt8) (h : s.length + t.length ≤ 1000000) : strings_Builder_WriteString.f (bs s) (bs t) = some ((t.length : Int), none, bs (s ++ t)) := by
  unfold strings_Builder_WriteString.f
  rw [if_pos (by rw [bs_size, bs_size]; omega), bs_size, bs_app]
def okW (W : List (List UInt8)) : Prop := ∀ w ∈ W, w.length ≤ 100 ∧ (Go.Lib.replaceAll w [47] [32]).length ≤ 100
theorem line1_len (a b : List UInt8) (ha : a.length ≤ 100) (hb : (Go.Lib.replaceAll b [47] [32]).length ≤ 100) : (line1 a b).length ≤ 300 := by
  unfold line1
  simp only [List.length_append, List.length_cons, List.length_nil]; omega
theorem l1_f (W : List (List UInt8)) (hW : okW W) (hn : W.length ≤ 100) : ∀ (d i : Nat) (s : List UInt8) (K : Nat), W.length ≤ i + d → i ≤ W.length + 1 → s.length ≤ 1000 + i * 400 → d < K →
    catalog_Text.l1 K (W.map bs) (i : Int) (bs s) = some (bs (s ++ lines (W.drop i)), 0) := by
  intro d
  induction d using Nat.strongRecOn with
  | _ d ih =>
  intro i s K hd hi hs hK
  obtain ⟨k, rfl⟩ : ∃ k, K = k + 1 := ⟨K - 1, by omega⟩
  have e1 : wrap64 ((i : Int) + 1) = ((i + 1 : Nat) : Int) := w64s (by omega)
  have e2 : wrap64 ((i : Int) + 2) = ((i + 2 : Nat) : Int) := by rw [w64_id (by omega) (by omega)]; omega
  rw [catalog_Text.l1, e1, e2, List.length_map]
  by_cases h : i + 1 < W.length
  · have h0 : i < W.length := by omega
    have g0 := hW W[i] (List.getElem_mem h0)
    have g1 := hW W[i + 1] (List.getElem_mem h)
    have hdr : W.drop i = W[i] :: W[i + 1] :: W.drop (i + 2) := by rw [List.drop_eq_getElem_cons h0, List.drop_eq_getElem_cons h]
    rw [if_pos (by omega), if_pos (by omega), if_pos (by omega), rdC_at _ i (by rw [List.length_map]; omega), rdC_at _ (i + 1) (by rw [List.length_map]; omega), List.getElem_map, List.getElem_map, lit_month, lit_sp, lit_nl, lit_sl, bs_app, bs_app,
      if_pos (by rw [bs_size]; omega), if_pos (by rw [bs_size, List.length_append]; simp only [List.length_cons, List.length_nil]; omega), if_pos (by omega), rep_f _ (by omega), Option.bind_some,
      if_pos (by rw [bs_size, bs_size]; simp only [List.length_append, List.length_cons, List.length_nil]; omega), bs_app, if_pos (by rw [bs_size]; simp only [List.length_append, List.length_cons, List.length_nil]; omega), bs_app]
    have hl := line1_len W[i] W[i + 1] g0.1 g1.2
    rw [show ((([109, 111, 110, 116, 104, 32] ++ W[i] ++ [32]) ++ Go.Lib.replaceAll W[i + 1] [47] [32]) ++ [10] : List UInt8) = line1 W[i] W[i + 1] from rfl, ws_f _ _ (by omega), Option.bind_some]
    show catalog_Text.l1 k (W.map bs) ((i + 2 : Nat) : Int) (bs (s ++ line1 W[i] W[i + 1])) = _
    rw [ih (d - 1) (by omega) (i + 2) _ k (by omega) (by omega) (by rw [List.length_append]; omega) (by omega), hdr, lines, List.append_assoc]
  · rw [if_neg (by omega)]
    have hl : lines (W.drop i) = [] := by
      rcases hx : W.drop i with _ | ⟨a, _ | ⟨b, r⟩⟩
      · rfl
      · rfl
      · have := congrArg List.length hx
        rw [List.length_drop, List.length_cons, List.length_cons] at this; omega
    rw [hl, List.append_nil]; rfl
theorem okRow_is {r : S42} (h : okRow r = true) : ((0 ≤ (r.f4 - 65) % 256 ∧ (r.f4 - 65) % 256 < 20) ∧ (nm r).length ≤ 100 ∧ (lp r).length ≤ 200) ∧ ((-100000000 ≤ r.f1 ∧ r.f1 ≤ 100000000) ∧ (-100000000 ≤ r.f2 ∧ r.f2 ≤ 100000000)) ∧ ((mon r).all (fun b => decide (b.toNat < 128)) = true ∧ (mon r).length ≤ 1000) ∧ okW (wsOf r) ∧ (wsOf r).length ≤ 100 ∧ (10 : UInt8) ∉ nm r := by
  unfold okRow at h
  simp only [Bool.and_eq_true, decide_eq_true_eq, List.all_eq_true, Bool.not_eq_true', List.contains_eq_mem] at h
  obtain ⟨⟨⟨⟨⟨⟨⟨⟨⟨⟨⟨⟨⟨h0, h1⟩, h2⟩, h3⟩, h4⟩, h5⟩, h6⟩, h7⟩, h8⟩, h9⟩, h10⟩, h11⟩, h12⟩, _⟩ := h
  refine ⟨⟨⟨h0, h1⟩, h2, h3⟩, ⟨⟨h4, h5⟩, h6, h7⟩, ⟨?_, h9⟩, h10, h11, ?_⟩
  · rw [List.all_eq_true]; intro b hb; exact decide_eq_true (h8 b hb)
  · simpa using h12
theorem ok_at (j : Nat) (h : j < rows.length) : okRow rows[j] = true := List.all_eq_true.1 rows_ok _ (List.getElem_mem h)
theorem fields_f (r : S42) (h : okRow r = true) : strings_Fields.f (rdOf ByteArray.empty mons ((r.f4 - 65) % 256)) = some ((wsOf r).map bs) := by
  obtain ⟨_, _, ⟨h8, h9⟩, _⟩ := okRow_is h
  unfold strings_Fields.f
  rw [if_pos ⟨by show (mon r).length < _; omega, h8⟩]
  rfl
theorem itoaR_f {n : Int} (h : -100000000 ≤ n ∧ n ≤ 100000000) : strconv_Itoa.f n = some (bs (Go.Lib.itoa n)) ∧ (Go.Lib.itoa n).length ≤ 21 := by
  constructor
  · unfold strconv_Itoa.f; rw [if_pos ⟨by omega, by omega⟩]; rfl
  · exact Go.Lib.itoa_length_le n (by omega) (by omega)
theorem toList_nm (r : S42) : r.f0.toList = nm r := toList_data _
/-- The first row of a name. -/
def fnd (a : ByteArray) (l : List S42) : Option S42 := l.find? (fun r => decide (r.f0.toList = a.toList))
theorem fnd_cons (a : ByteArray) (r : S42) (l : List S42) : fnd a (r :: l) = if r.f0.toList = a.toList then some r else fnd a l := by
  unfold fnd
  rw [List.find?_cons]
  by_cases h : r.f0.toList = a.toList
  · rw [if_pos h, decide_eq_true h]
  · rw [if_neg h, decide_eq_false h]
theorem lit_cal : (⟨#[99, 97, 108, 101, 110, 100, 97, 114, 32]⟩ : ByteArray) = bs [99, 97, 108, 101, 110, 100, 97, 114, 32] := rfl
theorem lit_epo : (⟨#[10, 101, 112, 111, 99, 104, 32]⟩ : ByteArray) = bs [10, 101, 112, 111, 99, 104, 32] := rfl
theorem lit_cyc : (⟨#[10, 99, 121, 99, 108, 101, 32]⟩ : ByteArray) = bs [10, 99, 121, 99, 108, 101, 32] := rfl
theorem lit_lea : (⟨#[10, 108, 101, 97, 112, 32]⟩ : ByteArray) = bs [10, 108, 101, 97, 112, 32] := rfl
theorem headL_len (r : S42) (h : okRow r = true) : (headL r).length ≤ 1000 := by
  obtain ⟨⟨_, h2, h3⟩, ⟨h4, h5⟩, _⟩ := okRow_is h
  have i1 := (itoaR_f h4).2
  have i2 := (itoaR_f h5).2
  unfold headL
  simp only [List.length_append, List.length_cons, List.length_nil]
  omega
/-- Where the row is found. -/
theorem hit_f (r : S42) (hok : okRow r = true) (a : ByteArray) (ha : r.f0.toList = a.toList) (j : Nat) (hj : j < rows.length) (hr : rows[j] = r) (k : Nat) (hk : 200 ≤ k) :
    catalog_Text.l0 (k + 1) a rows ((rows.length : Nat) : Int) (j : Int) = some (bs (rowL r), 0) := by
  obtain ⟨⟨h1, h2, h3⟩, ⟨h4, h5⟩, _, h7, h8, _⟩ := okRow_is hok
  have hl := headL_len r hok
  have i1 := itoaR_f h4
  have i2 := itoaR_f h5
  obtain rfl : r.f0 = a := ba_ext (by rw [← toList_data, ← toList_data]; exact ha)
  have e0 : r.f0 = bs (nm r) := bs_of _
  have e3 : r.f3 = bs (lp r) := bs_of _
  rw [catalog_Text.l0, if_pos (by omega), if_pos (by omega), if_pos (by omega), rdT_at rows j hj, hr, if_pos rfl]
  rw [show runtime_PanicNilError_RuntimeError.f (⟨#[]⟩ : ByteArray) = some (bs []) from rfl, Option.bind_some, e0, e3, lit_cal, lit_epo, lit_cyc, lit_lea, lit_nl]
  rw [bs_app, if_pos (by rw [bs_size]; omega), if_pos (by rw [bs_size, List.length_append]; simp only [List.length_cons, List.length_nil]; omega), i1.1, Option.bind_some, bs_app, bs_app,
    if_pos (by rw [bs_size, bs_size]; simp only [List.length_append, List.length_cons, List.length_nil]; omega), if_pos (by rw [bs_size]; simp only [List.length_append, List.length_cons, List.length_nil]; omega), i2.1, Option.bind_some, bs_app, bs_app,
    if_pos (by rw [bs_size, bs_size]; simp only [List.length_append, List.length_cons, List.length_nil]; omega), if_pos (by rw [bs_size]; simp only [List.length_append, List.length_cons, List.length_nil]; omega), bs_app,
    if_pos (by rw [bs_size, bs_size]; simp only [List.length_append, List.length_cons, List.length_nil]; omega), bs_app, if_pos (by rw [bs_size]; simp only [List.length_append, List.length_cons, List.length_nil]; omega), bs_app]
  rw [show ((((((((([99, 97, 108, 101, 110, 100, 97, 114, 32] ++ nm r) ++ [10, 101, 112, 111, 99, 104, 32]) ++ Go.Lib.itoa r.f1) ++ [10, 99, 121, 99, 108, 101, 32]) ++ Go.Lib.itoa r.f2) ++ [10, 108, 101, 97, 112, 32]) ++ lp r) ++ [10])) = headL r from rfl, ws_f [] (headL r) (by simp only [List.length_nil]; omega), Option.bind_some, mons_f, Option.bind_some, if_pos h1.1, if_pos (by rw [mons_len]; exact h1.2), fields_f r hok, Option.bind_some]
  have := l1_f (wsOf r) h7 h8 (wsOf r).length 0 (headL r) k (by omega) (by omega) (by omega) (by omega)
  rw [List.drop_zero] at this
  exact this
theorem text_f (a : ByteArray) : ∀ (d j K : Nat), rows.length = j + d → d + 300 ≤ K → catalog_Text.l0 K a rows ((rows.length : Nat) : Int) (j : Int) = some (match fnd a (rows.drop j) with | some r => (bs (rowL r), 0) | none => (bs [], 5)) := by
  intro d
  induction d with
  | zero =>
    intro j K hd hK
    obtain ⟨k, rfl⟩ : ∃ k, K = k + 1 := ⟨K - 1, by omega⟩
    rw [catalog_Text.l0, if_neg (by omega), List.drop_of_length_le (by omega)]; rfl
  | succ d ih =>
    intro j K hd hK
    obtain ⟨k, rfl⟩ : ∃ k, K = k + 1 := ⟨K - 1, by omega⟩
    have hj : j < rows.length := by omega
    rw [List.drop_eq_getElem_cons hj, fnd_cons]
    by_cases h : rows[j].f0.toList = a.toList
    · rw [if_pos h, hit_f rows[j] (ok_at j hj) a h j hj rfl k (by omega)]
    · have e1 : wrap64 ((j : Int) + 1) = ((j + 1 : Nat) : Int) := w64s (by rw [rows_len] at hj; omega)
      rw [if_neg h, catalog_Text.l0, if_pos (by omega), if_pos (by omega), if_pos (by omega), rdT_at rows j hj, if_neg h, e1]
      exact ih (j + 1) k (by omega) (by omega)
/-- The names. -/
def NN : List ByteArray := rows.map (·.f0)
def TT : List ByteArray := (rows.map rowL).map bs
theorem TT_len : TT.length = rows.length := by unfold TT; rw [List.length_map, List.length_map]
theorem TT_at (j : Nat) (h : j < rows.length) : rdOf ByteArray.empty TT (j : Int) = bs (rowL rows[j]) := by
  rw [rdC_at TT j (by rw [TT_len]; exact h)]
  unfold TT
  rw [List.getElem_map, List.getElem_map]
theorem rowL_len (r : S42) (h : r ∈ rows) : (rowL r).length ≤ 100000 := by
  have h2 : (rows.all fun r => decide ((rowL r).length ≤ 100000)) = true := by decide +kernel
  exact of_decide_eq_true (List.all_eq_true.1 h2 r h)
theorem rowL_cut (r : S42) : ∃ m, rowL r = ([99, 97, 108, 101, 110, 100, 97, 114, 32] ++ nm r) ++ 10 :: m := by
  refine ⟨[101, 112, 111, 99, 104, 32] ++ (Go.Lib.itoa r.f1 ++ ([10, 99, 121, 99, 108, 101, 32] ++ (Go.Lib.itoa r.f2 ++ ([10, 108, 101, 97, 112, 32] ++ (lp r ++ ([10] ++ lines (wsOf r))))))), ?_⟩
  unfold rowL headL
  simp only [List.append_assoc, List.cons_append, List.nil_append]
theorem drop9 (l : List UInt8) : (([99, 97, 108, 101, 110, 100, 97, 114, 32] : List UInt8) ++ l).drop 9 = l := rfl
theorem rnames_f : ∀ (d j K : Nat) (X : List ByteArray), rows.length = j + d → d < K → X.length ≤ 100 + j → ephemerisref1_Names.l0 K X TT ((rows.length : Nat) : Int) (j : Int) = some (X ++ (rows.drop j).map (·.f0)) := by
  intro d
  induction d with
  | zero =>
    intro j K X hd hK hX
    obtain ⟨k, rfl⟩ : ∃ k, K = k + 1 := ⟨K - 1, by omega⟩
    rw [ephemerisref1_Names.l0, if_neg (by omega), List.drop_of_length_le (by omega), List.map_nil, List.append_nil]
  | succ d ih =>
    intro j K X hd hK hX
    obtain ⟨k, rfl⟩ : ∃ k, K = k + 1 := ⟨K - 1, by omega⟩
    have hj : j < rows.length := by omega
    have h40 := rows_len
    have e1 : wrap64 ((j : Int) + 1) = ((j + 1 : Nat) : Int) := w64s (by omega)
    obtain ⟨_, _, _, _, _, hn⟩ := okRow_is (ok_at j hj)
    obtain ⟨m, hm⟩ := rowL_cut rows[j]
    have hlen := rowL_len rows[j] (List.getElem_mem hj)
    have hcut : strings_Cut.f (bs (rowL rows[j])) (⟨#[10]⟩ : ByteArray) = some (bs ([99, 97, 108, 101, 110, 100, 97, 114, 32] ++ nm rows[j]), bs m, true) := by
      rw [hm] at hlen ⊢
      refine cut1_f 10 _ m ?_ (by omega)
      intro h
      rcases List.mem_append.1 h with h | h
      · exact absurd h (by decide)
      · exact hn h
    rw [ephemerisref1_Names.l0, if_pos (by omega), if_pos (by omega), if_pos (by rw [TT_len]; omega), TT_at j hj, hcut, Option.bind_some]
    show (if (9 : Int) ≤ ((bs ([99, 97, 108, 101, 110, 100, 97, 114, 32] ++ nm rows[j])).size : Int) then (if X.length < 8796093022208 then (ephemerisref1_Names.l0 k (X ++ [(bs ([99, 97, 108, 101, 110, 100, 97, 114, 32] ++ nm rows[j])).extract 9 (bs ([99, 97, 108, 101, 110, 100, 97, 114, 32] ++ nm rows[j])).size]) TT ((rows.length : Nat) : Int) (wrap64 ((j : Int) + 1))) else none) else none) = _
    rw [if_pos (by rw [bs_size, List.length_append]; simp only [List.length_cons, List.length_nil]; omega), if_pos (by omega), bs_from, e1, ih (j + 1) k _ (by omega) (by omega) (by rw [List.length_append, List.length_singleton]; omega), List.drop_eq_getElem_cons hj, List.map_cons, List.append_assoc, drop9, ← bs_of]; rfl
theorem rtext_f (a : ByteArray) : ∀ (d j K : Nat), rows.length = j + d → d < K → ephemerisref1_Text.l0 K a NN ((rows.length : Nat) : Int) (j : Int) = some (match fnd a (rows.drop j) with | some r => bs (rowL r) | none => bs []) := by
  have hN : NN.length = rows.length := by unfold NN; rw [List.length_map]
  intro d
  induction d with
  | zero =>
    intro j K hd hK
    obtain ⟨k, rfl⟩ : ∃ k, K = k + 1 := ⟨K - 1, by omega⟩
    rw [ephemerisref1_Text.l0, if_neg (by omega), List.drop_of_length_le (by omega)]; rfl
  | succ d ih =>
    intro j K hd hK
    obtain ⟨k, rfl⟩ : ∃ k, K = k + 1 := ⟨K - 1, by omega⟩
    have hj : j < rows.length := by omega
    have h40 := rows_len
    have e1 : wrap64 ((j : Int) + 1) = ((j + 1 : Nat) : Int) := w64s (by omega)
    have hx : rdOf ByteArray.empty NN (j : Int) = rows[j].f0 := by
      rw [rdC_at NN j (by omega)]; unfold NN; rw [List.getElem_map]
    rw [List.drop_eq_getElem_cons hj, fnd_cons, ephemerisref1_Text.l0, if_pos (by omega), if_pos (by omega), if_pos (by omega), hx]
    by_cases h : rows[j].f0.toList = a.toList
    · rw [if_pos h, if_pos h, Texts_f, Option.bind_some]
      show (if (j : Int) < ((TT.length : Nat) : Int) then some (rdOf ByteArray.empty TT (j : Int)) else none) = _
      rw [if_pos (by rw [TT_len]; omega), TT_at j hj]
    · rw [if_neg h, if_neg h, e1]
      exact ih (j + 1) k (by omega) (by omega)
theorem refNames_f (K : Nat) (hK : 50 ≤ K) : ephemerisref1_Names.f K = some NN := by
  have h40 := rows_len
  unfold ephemerisref1_Names.f
  rw [Texts_f, Option.bind_some]
  have := rnames_f rows.length 0 K [] (by omega) (by omega) (by simp)
  rw [List.drop_zero, List.nil_append] at this
  show ephemerisref1_Names.l0 K [] TT ((TT.length : Nat) : Int) 0 = _
  rw [TT_len]
  exact this
theorem catText_f (K : Nat) (hK : 400 ≤ K) (a : ByteArray) : catalog_Text.f K a = some (match fnd a rows with | some r => (bs (rowL r), 0) | none => (bs [], 5)) := by
  have h40 := rows_len
  unfold catalog_Text.f
  rw [rows_f, Option.bind_some]
  have := text_f a rows.length 0 K (by omega) (by omega)
  rw [List.drop_zero] at this
  exact this
theorem refText_f (K : Nat) (hK : 400 ≤ K) (a : ByteArray) : ephemerisref1_Text.f K a = some (match fnd a rows with | some r => bs (rowL r) | none => bs []) := by
  have h40 := rows_len
  unfold ephemerisref1_Text.f
  rw [refNames_f K (by omega), Option.bind_some]
  have := rtext_f a rows.length 0 K (by omega) (by omega)
  rw [List.drop_zero] at this
  rw [show NN.length = rows.length from by unfold NN; rw [List.length_map]]
  exact this

theorem catErr_f (K : Nat) (hK : 400 ≤ K) (a : ByteArray) : (∃ s, catalog_Text.f K a = some (s, 0)) ∧ (∃ s, ephemerisref1_Text.f K a = some s ∧ s.toList ≠ []) ∨ (∃ s, catalog_Text.f K a = some (s, 5)) ∧ ∃ s, ephemerisref1_Text.f K a = some s ∧ s.toList = [] := by
  rw [catText_f K hK a, refText_f K hK a]
  rcases fnd a rows with _ | r
  · exact .inr ⟨⟨_, rfl⟩, _, rfl, by rw [bs_toList]⟩
  · refine .inl ⟨⟨_, rfl⟩, _, rfl, ?_⟩
    obtain ⟨m, hm⟩ := rowL_cut r
    rw [bs_toList, hm]
    simp
theorem reform_loop (nm_ : ByteArray) (l : List S27) (hl : l.length ≤ 10) : ∀ (d j K : Nat), l.length = j + d → 500 + 3 * d ≤ K →
    ∃ e, reform_Check.l0 K l ((l.length : Nat) : Int) (j : Int) nm_ l = some e ∧ ephemerisref1_ReformError.l0 K l ((l.length : Nat) : Int) (j : Int) nm_ l = some e := by
  intro d
  induction d with
  | zero =>
    intro j K hd hK
    obtain ⟨k, rfl⟩ : ∃ k, K = k + 1 := ⟨K - 1, by omega⟩
    exact ⟨0, by rw [reform_Check.l0, if_neg (by omega)], by rw [ephemerisref1_ReformError.l0, if_neg (by omega)]⟩
  | succ d ih =>
    intro j K hd hK
    obtain ⟨k, rfl⟩ : ∃ k, K = k + 1 + 1 := ⟨K - 2, by omega⟩
    have e1 : wrap64 ((j : Int) + 1) = ((j + 1 : Nat) : Int) := w64s (by omega)
    obtain ⟨e, ih1, ih2⟩ := ih (j + 1) k (by omega) (by omega)
    have tail : ∀ (b : Bool), ∃ e, reform_Check.j2 (k + 1) l ((l.length : Nat) : Int) (j : Int) b nm_ l (rd_T27 l j).f0 (rd_T27 l j).f1 = some e ∧ ephemerisref1_ReformError.j1 (k + 1) l ((l.length : Nat) : Int) (j : Int) b nm_ l (rd_T27 l j).f0 (rd_T27 l j).f1 = some e := by
      intro b
      cases b with
      | true => exact ⟨9, by rw [reform_Check.j2, if_pos rfl], by rw [ephemerisref1_ReformError.j1, if_pos rfl]⟩
      | false =>
        rcases catErr_f k (by omega) (rd_T27 l j).f1 with ⟨⟨s, h1⟩, t, h2, h3⟩ | ⟨⟨s, h1⟩, t, h2, h3⟩
        · refine ⟨e, ?_, ?_⟩
          · rw [reform_Check.j2, if_neg (by decide), h1, Option.bind_some, if_pos rfl, e1]; exact ih1
          · rw [ephemerisref1_ReformError.j1, if_neg (by decide), h2, Option.bind_some, if_neg h3, e1]; exact ih2
        · refine ⟨5, ?_, ?_⟩
          · rw [reform_Check.j2, if_neg (by decide), h1, Option.bind_some, if_neg (show ¬ ((5 : Int) = 0) by decide)]
          · rw [ephemerisref1_ReformError.j1, if_neg (by decide), h2, Option.bind_some, if_pos h3]
    by_cases hday : -4000000 ≤ (rd_T27 l j).f0 ∧ (rd_T27 l j).f0 ≤ 4000000
    · have hA : line_Check.f (rd_T27 l j).f0 = some 0 := by rw [line_Check_f, if_pos hday]
      have hB : ephemerisref1_Day.f (rd_T27 l j).f0 = some true := by rw [ephemerisref1_Day_f, decide_eq_true hday]
      by_cases hj : (j : Int) > 0
      · have e2 : wrap64 ((j : Int) - 1) = ((j - 1 : Nat) : Int) := w64p (by omega) (by omega)
        have A : reform_Check.l0 (k + 1 + 1) l ((l.length : Nat) : Int) (j : Int) nm_ l = reform_Check.j2 (k + 1) l ((l.length : Nat) : Int) (j : Int) (decide ((rd_T27 l j).f0 ≤ (rd_T27 l ((j - 1 : Nat) : Int)).f0)) nm_ l (rd_T27 l j).f0 (rd_T27 l j).f1 := by
          rw [reform_Check.l0, if_pos (by omega), if_pos (by omega), if_pos (by omega), hA, Option.bind_some, if_pos rfl, if_pos hj, e2, if_pos (by omega), if_pos (by omega)]
        have B : ephemerisref1_ReformError.l0 (k + 1 + 1) l ((l.length : Nat) : Int) (j : Int) nm_ l = ephemerisref1_ReformError.j1 (k + 1) l ((l.length : Nat) : Int) (j : Int) (decide ((rd_T27 l j).f0 ≤ (rd_T27 l ((j - 1 : Nat) : Int)).f0)) nm_ l (rd_T27 l j).f0 (rd_T27 l j).f1 := by
          rw [ephemerisref1_ReformError.l0, if_pos (by omega), if_pos (by omega), if_pos (by omega), hB, Option.bind_some, if_pos rfl, if_pos hj, e2, if_pos (by omega), if_pos (by omega)]
        rw [A, B]
        exact tail _
      · have A : reform_Check.l0 (k + 1 + 1) l ((l.length : Nat) : Int) (j : Int) nm_ l = reform_Check.j2 (k + 1) l ((l.length : Nat) : Int) (j : Int) false nm_ l (rd_T27 l j).f0 (rd_T27 l j).f1 := by
          rw [reform_Check.l0, if_pos (by omega), if_pos (by omega), if_pos (by omega), hA, Option.bind_some, if_pos rfl, if_neg hj]
        have B : ephemerisref1_ReformError.l0 (k + 1 + 1) l ((l.length : Nat) : Int) (j : Int) nm_ l = ephemerisref1_ReformError.j1 (k + 1) l ((l.length : Nat) : Int) (j : Int) false nm_ l (rd_T27 l j).f0 (rd_T27 l j).f1 := by
          rw [ephemerisref1_ReformError.l0, if_pos (by omega), if_pos (by omega), if_pos (by omega), hB, Option.bind_some, if_pos rfl, if_neg hj]
        rw [A, B]
        exact tail false
    · refine ⟨3, ?_, ?_⟩
      · rw [reform_Check.l0, if_pos (by omega), if_pos (by omega), if_pos (by omega), line_Check_f, if_neg hday, Option.bind_some, if_neg (by decide)]
      · rw [ephemerisref1_ReformError.l0, if_pos (by omega), if_pos (by omega), if_pos (by omega), ephemerisref1_Day_f, decide_eq_false hday, Option.bind_some, if_neg (by decide)]
theorem reform_eq (K : Nat) (hK : 1000 ≤ K) (nm_ : ByteArray) (l : List S27) : ∃ e, reform_Check.f K nm_ l = some e ∧ ephemerisref1_ReformError.f K nm_ l = some e := by
  obtain ⟨k, rfl⟩ : ∃ k, K = k + 1 := ⟨K - 1, by omega⟩
  cases hn : isName nm_ with
  | false =>
    refine ⟨5, ?_, ?_⟩
    · unfold reform_Check.f; rw [rule_Name_f, hn, Option.bind_some, if_neg (by decide)]
    · unfold ephemerisref1_ReformError.f; rw [ephemerisref1_Name_f nm_ _ (by omega), hn, Option.bind_some, if_neg (by decide)]
  | true =>
    by_cases h1 : (l.length : Int) < 1
    · refine ⟨2, ?_, ?_⟩
      · unfold reform_Check.f; rw [rule_Name_f, hn, Option.bind_some, if_pos rfl, if_pos h1, reform_Check.j0, if_pos rfl]
      · unfold ephemerisref1_ReformError.f; rw [ephemerisref1_Name_f nm_ _ (by omega), hn, Option.bind_some, if_pos rfl, ephemerisref1_In_f, decide_eq_false (by omega), Option.bind_some, if_neg (by decide)]
    · by_cases h2 : (l.length : Int) > 10
      · refine ⟨2, ?_, ?_⟩
        · unfold reform_Check.f; rw [rule_Name_f, hn, Option.bind_some, if_pos rfl, if_neg h1, reform_Check.j0, if_pos (decide_eq_true h2)]
        · unfold ephemerisref1_ReformError.f; rw [ephemerisref1_Name_f nm_ _ (by omega), hn, Option.bind_some, if_pos rfl, ephemerisref1_In_f, decide_eq_false (by omega), Option.bind_some, if_neg (by decide)]
      · have hp : 0 < (l.length : Int) := by omega
        have hC : ∀ R : Option Int, (if (rd_T27 l 0).f0 = -4000000 then reform_Check.l0 k l ((l.length : Nat) : Int) 0 nm_ l else some 8) = R → reform_Check.f (k + 1) nm_ l = R := by
          intro R h
          unfold reform_Check.f; rw [rule_Name_f, hn, Option.bind_some, if_pos rfl, if_neg h1, reform_Check.j0, if_neg (by rw [decide_eq_true_eq]; exact h2), if_pos hp]; exact h
        have hE : ∀ R : Option Int, (if (rd_T27 l 0).f0 = -4000000 then ephemerisref1_ReformError.l0 (k + 1) l ((l.length : Nat) : Int) 0 nm_ l else some 8) = R → ephemerisref1_ReformError.f (k + 1) nm_ l = R := by
          intro R h
          unfold ephemerisref1_ReformError.f; rw [ephemerisref1_Name_f nm_ _ (by omega), hn, Option.bind_some, if_pos rfl, ephemerisref1_In_f, decide_eq_true (by omega), Option.bind_some, if_pos rfl, if_pos hp]; exact h
        by_cases h3 : (rd_T27 l 0).f0 = -4000000
        · obtain ⟨e2, a2, b2⟩ := reform_loop nm_ l (by omega) l.length 0 k (by omega) (by omega)
          have b3 := (ephemerisref1_ReformError.mono_l k).1 l ((l.length : Nat) : Int) ((0 : Nat) : Int) nm_ l _ b2
          exact ⟨e2, hC _ (by rw [if_pos h3]; exact a2), hE _ (by rw [if_pos h3]; exact b3)⟩
        · exact ⟨8, hC _ (by rw [if_neg h3]), hE _ (by rw [if_neg h3])⟩
theorem fnd_some (a : ByteArray) (i : Nat) (hi : i < rows.length) (h : rows[i].f0 = a) : (fnd a rows).isSome = true := by
  unfold fnd
  rw [List.find?_isSome]
  exact ⟨rows[i], List.getElem_mem hi, decide_eq_true (by rw [h])⟩
theorem fnd_none (a : ByteArray) (h : (rows.all fun r => decide (nm r ≠ a.data.toList)) = true) : (fnd a rows).isSome = false := by
  unfold fnd
  rw [Option.isSome_eq_false_iff, Option.isNone_iff_eq_none, List.find?_eq_none]
  intro r hr hd
  have h1 := of_decide_eq_true hd
  rw [toList_data, toList_data] at h1
  exact of_decide_eq_true (List.all_eq_true.1 h r hr) h1
theorem cat2_f (K : Nat) (hK : 400 ≤ K) (a : ByteArray) : ∃ s, catalog_Text.f K a = some (s, if (fnd a rows).isSome = true then 0 else 5) := by
  rw [catText_f K hK a]
  rcases fnd a rows with _ | r
  · exact ⟨_, rfl⟩
  · exact ⟨_, rfl⟩
theorem two_f (K : Nat) (hK : 1000 ≤ K) (nm_ : ByteArray) (hn : isName nm_ = true) (a b : ByteArray) (d : Int) (hd : -4000000 < d ∧ d ≤ 4000000) (L : List S27) (hL : L = [(⟨-4000000, a⟩ : S27), (⟨d, b⟩ : S27)]) : reform_Check.f K nm_ L = some (if (fnd a rows).isSome = true then (if (fnd b rows).isSome = true then 0 else 5) else 5) := by
  obtain ⟨k, rfl⟩ : ∃ k, K = k + 1 + 1 + 1 + 1 + 1 + 1 := ⟨K - 6, by omega⟩
  obtain ⟨s1, h1⟩ := cat2_f (k + 1 + 1 + 1) (by omega) a
  obtain ⟨s2, h2⟩ := cat2_f (k + 1) (by omega) b
  have hlen : ((L.length : Nat) : Int) = 2 := by rw [hL]; rfl
  have r0 : (rd_T27 L 0).f0 = -4000000 := by rw [hL]; rfl
  have r1 : (rd_T27 L 0).f1 = a := by rw [hL]; rfl
  have r2 : (rd_T27 L 1).f0 = d := by rw [hL]; rfl
  have r3 : (rd_T27 L 1).f1 = b := by rw [hL]; rfl
  clear hL
  have w1 : wrap64 ((0 : Int) + 1) = 1 := by rw [w64_id (by decide) (by decide)]; rfl
  have w2 : wrap64 ((1 : Int) + 1) = 2 := by rw [w64_id (by decide) (by decide)]; rfl
  have w3 : wrap64 ((1 : Int) - 1) = 0 := by rw [w64_id (by decide) (by decide)]; rfl
  have lc0 : line_Check.f (-4000000) = some 0 := by rw [line_Check_f]; rfl
  have lc1 : line_Check.f d = some 0 := by rw [line_Check_f, if_pos ⟨by omega, hd.2⟩]
  unfold reform_Check.f
  rw [rule_Name_f, Option.bind_some, hn, if_pos rfl, hlen, if_neg (by decide), reform_Check.j0, hlen, if_neg (by decide), if_pos (by decide), if_pos r0]
  rw [reform_Check.l0, hlen, if_pos (by decide), if_pos (by decide), if_pos (by decide), r0, lc0, Option.bind_some, if_pos rfl, if_neg (by decide), reform_Check.j2, if_neg (by decide), r1, h1, Option.bind_some]
  by_cases ha : (fnd a rows).isSome = true
  · rw [if_pos ha, if_pos ha]
    show (if (0 : Int) = 0 then reform_Check.l0 (k + 1 + 1 + 1) L 2 (wrap64 ((0 : Int) + 1)) nm_ L else some 5) = _
    rw [if_pos rfl, w1, reform_Check.l0, hlen, if_pos (by decide), if_pos (by decide), if_pos (by decide), r2, lc1, Option.bind_some, if_pos rfl, if_pos (by decide), w3, if_pos (by decide), if_pos (by decide), r0, decide_eq_false (by omega), r3, reform_Check.j2, if_neg (by decide), h2, Option.bind_some]
    by_cases hb : (fnd b rows).isSome = true
    · rw [if_pos hb]
      show (if (0 : Int) = 0 then reform_Check.l0 (k + 1) L 2 (wrap64 ((1 : Int) + 1)) nm_ L else some 5) = _
      rw [if_pos rfl, w2, reform_Check.l0, if_neg (by decide)]
    · rw [if_neg hb]
      show (if (5 : Int) = 0 then _ else some 5) = _
      rw [if_neg (by decide)]
  · rw [if_neg ha, if_neg ha]
    show (if (5 : Int) = 0 then _ else some 5) = _
    rw [if_neg (by decide)]

theorem ReformChecks : ephemerislaw1_ReformChecks.Pure := by
  intro n l hn hl
  obtain ⟨k, hk⟩ : ∃ k : Nat, 2000 ≤ k := ⟨_, Nat.le_refl _⟩
  refine ⟨k + 1, ?_⟩
  have nC : isName (⟨#[99, 104, 97, 110, 103, 101]⟩ : ByteArray) = true := by decide +kernel
  have f1 : (fnd (⟨#[106, 117, 108, 105, 97, 110]⟩ : ByteArray) rows).isSome = true := fnd_some _ 1 (by rw [rows_len]; decide) rfl
  have f0 : (fnd (⟨#[103, 114, 101, 103, 111, 114, 105, 97, 110]⟩ : ByteArray) rows).isSome = true := fnd_some _ 0 (by rw [rows_len]; decide) rfl
  have f2 : (fnd (⟨#[110, 111, 119, 104, 101, 114, 101]⟩ : ByteArray) rows).isSome = false := fnd_none _ (by decide +kernel)
  have hA := two_f (k + 1) (by omega) (⟨#[99, 104, 97, 110, 103, 101]⟩ : ByteArray) nC (⟨#[106, 117, 108, 105, 97, 110]⟩ : ByteArray) (⟨#[103, 114, 101, 103, 111, 114, 105, 97, 110]⟩ : ByteArray) 577736 (by decide) _ rfl
  have hB := two_f (k + 1) (by omega) (⟨#[99, 104, 97, 110, 103, 101]⟩ : ByteArray) nC (⟨#[106, 117, 108, 105, 97, 110]⟩ : ByteArray) (⟨#[110, 111, 119, 104, 101, 114, 101]⟩ : ByteArray) 577736 (by decide) _ rfl
  rw [f1, f0, if_pos rfl, if_pos rfl] at hA
  rw [f1, f2, if_pos rfl, if_neg (by decide)] at hB
  obtain ⟨e, h1, h2⟩ := reform_eq k (by omega) n l
  unfold ephemerislaw1_ReformChecks.f
  rw [show ephemerislaw1_change.f = some ((⟨#[99, 104, 97, 110, 103, 101]⟩ : ByteArray), [(⟨-4000000, (⟨#[106, 117, 108, 105, 97, 110]⟩ : ByteArray)⟩ : S27), (⟨577736, (⟨#[103, 114, 101, 103, 111, 114, 105, 97, 110]⟩ : ByteArray)⟩ : S27)]) from rfl, Option.bind_some, if_pos (by decide), Option.bind_some]
  show ((reform_Check.f (k + 1) (⟨#[99, 104, 97, 110, 103, 101]⟩ : ByteArray) [(⟨-4000000, (⟨#[106, 117, 108, 105, 97, 110]⟩ : ByteArray)⟩ : S27), (⟨577736, (⟨#[103, 114, 101, 103, 111, 114, 105, 97, 110]⟩ : ByteArray)⟩ : S27)]).bind fun t208 => if t208 = 0 then ((reform_Check.f (k + 1) (⟨#[99, 104, 97, 110, 103, 101]⟩ : ByteArray) [(⟨-4000000, (⟨#[106, 117, 108, 105, 97, 110]⟩ : ByteArray)⟩ : S27), (⟨577736, (⟨#[110, 111, 119, 104, 101, 114, 101]⟩ : ByteArray)⟩ : S27)]).bind fun t209 => (ephemerislaw1_ReformChecks.j0 (k + 1) (t209 != 5) n l)) else (ephemerislaw1_ReformChecks.j0 (k + 1) true n l)) = some true
  rw [hA, Option.bind_some, if_pos rfl, hB, Option.bind_some, ephemerislaw1_ReformChecks.j0, if_neg (by decide), h1, Option.bind_some, h2, Option.bind_some, beq_self_eq_true]
end Go.Proofs.YtbcbghbmjgcbmaaDoor.Pure
