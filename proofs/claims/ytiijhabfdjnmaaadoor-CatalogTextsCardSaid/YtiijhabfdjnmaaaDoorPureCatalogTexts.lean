/- The law CatalogTexts over numbers and lists: what the law's functions tell, and that the law holds. -/
import Derived.Test.YtiijhabfdjnmaaaDoorPCatalogTextsx3
import Derived.Test.YtiijhabfdjnmaaaDoorM
import Derived.Test.YtiijhabfdjnmaaaDoorO
import Derived.Test.YtiijhabfdjnmaaaDoorE
import Derived.Test.YtiijhabfdjnmaaaDoorA
import Derived.Test.YtiijhabfdjnmaaaDoorT
import Derived.Test.YtiijhabfdjnmaaaDoorI
import Derived.Lib.IndexBytes
import Derived.Lib.SplitLaws
import Derived.Lib.ItoaLen
namespace Go.Proofs.YtiijhabfdjnmaaaDoor.Pure
open Go.RowKit Go.Proofs.YtiijhabfdjnmaaaDoor.PCatalogTexts Go.Proofs.YtiijhabfdjnmaaaDoorW.PrintWords Go.Proofs.YtiijhabfdjnmaaaDoorW.PrintLast Go.Proofs.YtiijhabfdjnmaaaDoor.M Go.Proofs.YtiijhabfdjnmaaaDoor.O Go.Proofs.YtiijhabfdjnmaaaDoor.E Go.Proofs.YtiijhabfdjnmaaaDoor.A Go.Proofs.YtiijhabfdjnmaaaDoor.T Go.Proofs.YtiijhabfdjnmaaaDoor.I
set_option linter.unusedVariables false
set_option linter.unusedSimpArgs false
/-- The law over numbers and lists. -/
def ephemerislaw1_CatalogTexts.Pure : Prop := ∀ (a0 : ByteArray), a0.size ≤ 140737488351232 → ∃ k, ephemerislaw1_CatalogTexts.f k a0 = some true

/-- The parts of a text between the places of a byte. -/
def spc (c : UInt8) : List UInt8 → List (List UInt8)
  | [] => [[]]
  | b :: r => if b = c then [] :: spc c r else match spc c r with | [] => [[b]] | w :: ws => (b :: w) :: ws
theorem spc_ne (c : UInt8) : ∀ l, spc c l ≠ []
  | [] => by simp [spc]
  | b :: r => by
    unfold spc
    split
    · simp
    · split <;> simp
theorem spc_word (c : UInt8) : ∀ u : List UInt8, c ∉ u → spc c u = [u]
  | [], _ => rfl
  | b :: u, h => by
    have hc : b ≠ c := fun e => h (by rw [e]; exact List.mem_cons_self)
    rw [spc, if_neg hc, spc_word c u (fun g => h (List.mem_cons_of_mem _ g))]
theorem spc_cons (c : UInt8) (m : List UInt8) : ∀ u : List UInt8, c ∉ u → spc c (u ++ c :: m) = u :: spc c m
  | [], _ => by rw [List.nil_append, spc, if_pos rfl]
  | b :: u, h => by
    have hc : b ≠ c := fun e => h (by rw [e]; exact List.mem_cons_self)
    rw [List.cons_append, spc, if_neg hc, spc_cons c m u (fun g => h (List.mem_cons_of_mem _ g))]
theorem spc_len (c : UInt8) : ∀ l, l.length + 1 = ((spc c l).map (fun w => w.length + 1)).sum
  | [] => rfl
  | b :: r => by
    have ih := spc_len c r
    have hne := spc_ne c r
    unfold spc
    split
    · rw [List.map_cons, List.sum_cons, ← ih, List.length_cons]; simp; omega
    · split
      · rename_i he; exact absurd he hne
      · rename_i x xs he
        rw [he, List.map_cons, List.sum_cons] at ih
        rw [List.map_cons, List.sum_cons, List.length_cons, List.length_cons]; omega
theorem splitK_spc (c : UInt8) : ∀ (k : Nat) (l : List UInt8), l.count c = k → Go.Lib.splitK [c] 0 k l = spc c l
  | 0, l, h => by
    have hn : c ∉ l := List.count_eq_zero.1 h
    rw [spc_word c l hn]; rfl
  | k + 1, l, h => by
    obtain ⟨u, r, e, hu, hr⟩ := parted (· == c) l
    have hn : c ∉ u := fun g => by have := hu _ g; simp at this
    rcases hr with rfl | ⟨d, m, rfl, hc⟩
    · rw [List.append_nil] at e; rw [e, List.count_eq_zero.2 hn] at h; cases h
    · rw [beq_iff_eq] at hc; subst hc
      subst e
      have hc2 : m.count d = k := by
        rw [List.count_append, List.count_eq_zero.2 hn, List.count_cons_self] at h; omega
      have hix : Go.Lib.index (u ++ d :: m) [d] = (u.length : Int) := by rw [Go.Lib.index_one, idx_yes d m u hn]
      have hb : ((u.length : Int) == -1) = false := beq_eq_false_iff_ne.2 (by omega)
      rw [Go.Lib.splitK, hix, hb, if_neg (by decide), spc_cons d m u hn, ← splitK_spc d k m hc2]
      congr 1
      · rw [Int.toNat_natCast, Nat.add_zero, List.take_left']; rfl
      · congr 1
        rw [Int.toNat_natCast]
        show (u ++ d :: m).drop (u.length + 1) = m
        rw [← List.drop_drop, List.drop_left']
        · rfl
        · rfl
theorem split1_f (c : UInt8) (s : ByteArray) (h : s.data.toList.length ≤ 1048576) : strings_Split.f s (⟨#[c]⟩ : ByteArray) = some ((spc c s.data.toList).map bs) := by
  rw [bs_of s] at h ⊢
  rw [bs_list] at h ⊢
  generalize s.data.toList = l at h ⊢
  unfold strings_Split.f
  rw [if_pos ⟨by rw [bs_size]; omega, (by show 1 ≤ 1; decide)⟩]
  congr 1
  have hc : Go.Lib.countB (bs l) (⟨#[c]⟩ : ByteArray) = l.count c := Go.Lib.count_one c l
  have h1 := Go.Lib.splitB_data (⟨#[c]⟩ : ByteArray) 0 (l.count c) (bs l)
  rw [hc]
  have h2 : (Go.Lib.splitB (⟨#[c]⟩ : ByteArray) 0 (l.count c) (bs l)).map (·.data.toList) = spc c l := h1.trans (splitK_spc c _ l rfl)
  rw [← h2, List.map_map]
  symm
  exact (List.map_congr_left (g := id) (fun x _ => (bs_of x).symm)).trans (List.map_id _)
/-- The first part of a text before a byte. -/
theorem cut1_f (c : UInt8) (u m : List UInt8) (hn : c ∉ u) (h : (u ++ c :: m).length ≤ 1048576) : strings_Cut.f (bs (u ++ c :: m)) (⟨#[c]⟩ : ByteArray) = some (bs u, bs m, true) := by
  unfold strings_Cut.f
  rw [if_pos (by rw [bs_size]; omega), bs_list]
  have hix : Go.Lib.index (u ++ c :: m) [c] = (u.length : Int) := by rw [Go.Lib.index_one, idx_yes c m u hn]
  have e : Go.Lib.cut (u ++ c :: m) [c] = (u, m, true) := by
    unfold Go.Lib.cut
    rw [hix, if_pos (by omega), Int.toNat_natCast, List.take_left' rfl]
    congr 2
    show (u ++ c :: m).drop (u.length + 1) = m
    rw [← List.drop_drop, List.drop_left' rfl]; rfl
  rw [show (⟨#[c]⟩ : ByteArray).data.toList = [c] from rfl, e]
  rfl
def eqL : List UInt8 → List UInt8 → Bool
  | [], [] => true
  | a :: l, b :: m => decide (a = b) && eqL l m
  | _, _ => false
def eqLL : List (List UInt8) → List (List UInt8) → Bool
  | [], [] => true
  | a :: l, b :: m => eqL a b && eqLL l m
  | _, _ => false
theorem eqL_eq : ∀ {a b : List UInt8}, eqL a b = true → a = b
  | [], [], _ => rfl
  | a :: l, b :: m, h => by
    simp only [eqL, Bool.and_eq_true, decide_eq_true_eq] at h
    rw [h.1, eqL_eq h.2]
  | [], _ :: _, h => by simp [eqL] at h
  | _ :: _, [], h => by simp [eqL] at h
theorem eqLL_eq : ∀ {a b : List (List UInt8)}, eqLL a b = true → a = b
  | [], [], _ => rfl
  | a :: l, b :: m, h => by
    simp only [eqLL, Bool.and_eq_true] at h
    rw [eqL_eq h.1, eqLL_eq h.2]
  | [], _ :: _, h => by simp [eqLL] at h
  | _ :: _, [], h => by simp [eqLL] at h

theorem rdC_at (l : List ByteArray) (i : Nat) (h : i < l.length) : rdOf ByteArray.empty l (i : Int) = l[i] := by
  unfold rdOf
  rw [Int.toNat_natCast, List.getD_eq_getElem?_getD, List.getElem?_eq_getElem h]; rfl
theorem rdT_at (l : List S133) (i : Nat) (h : i < l.length) : rd_T133 l (i : Int) = l[i] := by
  unfold rd_T133
  rw [Int.toNat_natCast, List.getD_eq_getElem?_getD, List.getElem?_eq_getElem h]; rfl
/-- The rows of the table; the lists of months. -/
def rows : List S133 := catalog_table.f.getD []
def mons : List ByteArray := catalog_months.f.getD []
theorem rows_f : catalog_table.f = some rows := rfl
theorem mons_f : catalog_months.f = some mons := rfl
theorem rows_len : rows.length = 40 := rfl
theorem mons_len : mons.length = 20 := rfl
abbrev nm (r : S133) : List UInt8 := r.f0.data.toList
abbrev lp (r : S133) : List UInt8 := r.f3.data.toList
def mon (r : S133) : List UInt8 := (mons.getD ((r.f4 - 65) % 256).toNat ByteArray.empty).data.toList
def wsOf (r : S133) : List (List UInt8) := Go.Lib.fields (mon r)
/-- One line of a month; all of them. -/
def line1 (a b : List UInt8) : List UInt8 := (([109, 111, 110, 116, 104, 32] ++ a) ++ [32]) ++ Go.Lib.replaceAll b [47] [32] ++ [10]
def lines : List (List UInt8) → List UInt8
  | a :: b :: r => line1 a b ++ lines r
  | _ => []
def headL (r : S133) : List UInt8 := (((((((([99, 97, 108, 101, 110, 100, 97, 114, 32] ++ nm r) ++ [10, 101, 112, 111, 99, 104, 32]) ++ Go.Lib.itoa r.f1) ++ [10, 99, 121, 99, 108, 101, 32]) ++ Go.Lib.itoa r.f2) ++ [10, 108, 101, 97, 112, 32]) ++ lp r) ++ [10])
def rowL (r : S133) : List UInt8 := headL r ++ lines (wsOf r)
/-- What the table's rows keep to. -/
def okRow (r : S133) : Bool := decide (0 ≤ (r.f4 - 65) % 256) && decide ((r.f4 - 65) % 256 < 20) && decide ((nm r).length ≤ 100) && decide ((lp r).length ≤ 200) && decide (-100000000 ≤ r.f1) && decide (r.f1 ≤ 100000000) && decide (-100000000 ≤ r.f2) && decide (r.f2 ≤ 100000000) && (mon r).all (fun b => decide (b.toNat < 128)) && decide ((mon r).length ≤ 1000) && (wsOf r).all (fun w => decide (w.length ≤ 100) && decide ((Go.Lib.replaceAll w [47] [32]).length ≤ 100)) && decide ((wsOf r).length ≤ 100) && !(nm r).contains 10 && decide ((wsOf r).length % 2 = 0)
theorem rows_ok : rows.all okRow = true := by decide +kernel
theorem texts_are : eqLL (spc 124 ephemerisref1_Texts.cat.data.toList) (rows.map rowL) = true := by kernel_rfl
theorem cat_len : ephemerisref1_Texts.cat.data.toList.length ≤ 1048576 := by
  have h := spc_len 124 ephemerisref1_Texts.cat.data.toList
  have h2 : (((rows.map rowL).map (fun w => w.length + 1)).sum) ≤ 1048576 := by decide +kernel
  rw [eqLL_eq texts_are] at h
  omega
theorem Texts_f : ephemerisref1_Texts.f = some ((rows.map rowL).map bs) := by
  unfold ephemerisref1_Texts.f
  rw [split1_f 124 _ cat_len, eqLL_eq texts_are]
theorem lit_month : (⟨#[109, 111, 110, 116, 104, 32]⟩ : ByteArray) = bs [109, 111, 110, 116, 104, 32] := rfl
theorem lit_sp : (⟨#[32]⟩ : ByteArray) = bs [32] := rfl
theorem lit_nl : (⟨#[10]⟩ : ByteArray) = bs [10] := rfl
theorem lit_sl : (⟨#[47]⟩ : ByteArray) = bs [47] := rfl
theorem rep_f (w : List UInt8) (h : w.length ≤ 1000) : strings_ReplaceAll.f (bs w) (bs [47]) (bs [32]) = some (bs (Go.Lib.replaceAll w [47] [32])) := by
  unfold strings_ReplaceAll.f
  rw [if_pos ⟨⟨by rw [bs_size]; omega, by rw [bs_size]; decide⟩, by rw [bs_size]; decide⟩]
  rfl
theorem ws_f (s t : List UInt8) (h : s.length + t.length ≤ 1000000) : strings_Builder_WriteString.f (bs s) (bs t) = some ((t.length : Int), none, bs (s ++ t)) := by
  unfold strings_Builder_WriteString.f
  rw [if_pos (by rw [bs_size, bs_size]; omega), bs_size, bs_app]
def okW (W : List (List UInt8)) : Prop := ∀ w ∈ W, w.length ≤ 100 ∧ (Go.Lib.replaceAll w [47] [32]).length ≤ 100
theorem line1_len (a b : List UInt8) (ha : a.length ≤ 100) (hb : (Go.Lib.replaceAll b [47] [32]).length ≤ 100) : (line1 a b).length ≤ 300 := by
  unfold line1
  simp only [List.length_append, List.length_cons, List.length_nil]; omega
theorem l1_f (W : List (List UInt8)) (hW : okW W) (hn : W.length ≤ 100) : ∀ (d i : Nat) (s : List UInt8) (K : Nat), W.length ≤ i + d → i ≤ W.length + 1 → s.length ≤ 1000 + i * 400 → d < K →
    catalog_Text.l1 K (W.map bs) (i : Int) (bs s) = some (bs (s ++ lines (W.drop i)), 0) := by
  intro d
  induction d using Nat.strongRecOn with
  | _ d ih =>
  intro i s K hd hi hs hK
  obtain ⟨k, rfl⟩ : ∃ k, K = k + 1 := ⟨K - 1, by omega⟩
  have e1 : wrap64 ((i : Int) + 1) = ((i + 1 : Nat) : Int) := w64s (by omega)
  have e2 : wrap64 ((i : Int) + 2) = ((i + 2 : Nat) : Int) := by rw [w64_id (by omega) (by omega)]; omega
  rw [catalog_Text.l1, e1, e2, List.length_map]
  by_cases h : i + 1 < W.length
  · have h0 : i < W.length := by omega
    have g0 := hW W[i] (List.getElem_mem h0)
    have g1 := hW W[i + 1] (List.getElem_mem h)
    have hdr : W.drop i = W[i] :: W[i + 1] :: W.drop (i + 2) := by rw [List.drop_eq_getElem_cons h0, List.drop_eq_getElem_cons h]
    rw [if_pos (by omega), if_pos (by omega), if_pos (by omega), rdC_at _ i (by rw [List.length_map]; omega), rdC_at _ (i + 1) (by rw [List.length_map]; omega), List.getElem_map, List.getElem_map, lit_month, lit_sp, lit_nl, lit_sl, bs_app, bs_app,
      if_pos (by rw [bs_size]; omega), if_pos (by rw [bs_size, List.length_append]; simp only [List.length_cons, List.length_nil]; omega), if_pos (by omega), rep_f _ (by omega), Option.bind_some,
      if_pos (by rw [bs_size, bs_size]; simp only [List.length_append, List.length_cons, List.length_nil]; omega), bs_app, if_pos (by rw [bs_size]; simp only [List.length_append, List.length_cons, List.length_nil]; omega), bs_app]
    have hl := line1_len W[i] W[i + 1] g0.1 g1.2
    rw [show ((([109, 111, 110, 116, 104, 32] ++ W[i] ++ [32]) ++ Go.Lib.replaceAll W[i + 1] [47] [32]) ++ [10] : List UInt8) = line1 W[i] W[i + 1] from rfl, ws_f _ _ (by omega), Option.bind_some]
    show catalog_Text.l1 k (W.map bs) ((i + 2 : Nat) : Int) (bs (s ++ line1 W[i] W[i + 1])) = _
    rw [ih (d - 1) (by omega) (i + 2) _ k (by omega) (by omega) (by rw [List.length_append]; omega) (by omega), hdr, lines, List.append_assoc]
  · rw [if_neg (by omega)]
    have hl : lines (W.drop i) = [] := by
      rcases hx : W.drop i with _ | ⟨a, _ | ⟨b, r⟩⟩
      · rfl
      · rfl
      · have := congrArg List.length hx
        rw [List.length_drop, List.length_cons, List.length_cons] at this; omega
    rw [hl, List.append_nil]; rfl
theorem okRow_is {r : S133} (h : okRow r = true) : ((0 ≤ (r.f4 - 65) % 256 ∧ (r.f4 - 65) % 256 < 20) ∧ (nm r).length ≤ 100 ∧ (lp r).length ≤ 200) ∧ ((-100000000 ≤ r.f1 ∧ r.f1 ≤ 100000000) ∧ (-100000000 ≤ r.f2 ∧ r.f2 ≤ 100000000)) ∧ ((mon r).all (fun b => decide (b.toNat < 128)) = true ∧ (mon r).length ≤ 1000) ∧ okW (wsOf r) ∧ (wsOf r).length ≤ 100 ∧ (10 : UInt8) ∉ nm r := by
  unfold okRow at h
  simp only [Bool.and_eq_true, decide_eq_true_eq, List.all_eq_true, Bool.not_eq_true', List.contains_eq_mem] at h
  obtain ⟨⟨⟨⟨⟨⟨⟨⟨⟨⟨⟨⟨⟨h0, h1⟩, h2⟩, h3⟩, h4⟩, h5⟩, h6⟩, h7⟩, h8⟩, h9⟩, h10⟩, h11⟩, h12⟩, _⟩ := h
  refine ⟨⟨⟨h0, h1⟩, h2, h3⟩, ⟨⟨h4, h5⟩, h6, h7⟩, ⟨?_, h9⟩, h10, h11, ?_⟩
  · rw [List.all_eq_true]; intro b hb; exact decide_eq_true (h8 b hb)
  · simpa using h12
theorem ok_at (j : Nat) (h : j < rows.length) : okRow rows[j] = true := List.all_eq_true.1 rows_ok _ (List.getElem_mem h)
theorem fields_f (r : S133) (h : okRow r = true) : strings_Fields.f (rdOf ByteArray.empty mons ((r.f4 - 65) % 256)) = some ((wsOf r).map bs) := by
  obtain ⟨_, _, ⟨h8, h9⟩, _⟩ := okRow_is h
  unfold strings_Fields.f
  rw [if_pos ⟨by show (mon r).length < _; omega, h8⟩]
  rfl
theorem itoaR_f {n : Int} (h : -100000000 ≤ n ∧ n ≤ 100000000) : strconv_Itoa.f n = some (bs (Go.Lib.itoa n)) ∧ (Go.Lib.itoa n).length ≤ 21 := by
  constructor
  · unfold strconv_Itoa.f; rw [if_pos ⟨by omega, by omega⟩]; rfl
  · exact Go.Lib.itoa_length_le n (by omega) (by omega)
theorem toList_nm (r : S133) : r.f0.toList = nm r := toList_data _
/-- The first row of a name. -/
def fnd (a : ByteArray) (l : List S133) : Option S133 := l.find? (fun r => decide (r.f0.toList = a.toList))
theorem fnd_cons (a : ByteArray) (r : S133) (l : List S133) : fnd a (r :: l) = if r.f0.toList = a.toList then some r else fnd a l := by
  unfold fnd
  rw [List.find?_cons]
  by_cases h : r.f0.toList = a.toList
  · rw [if_pos h, decide_eq_true h]
  · rw [if_neg h, decide_eq_false h]
theorem lit_cal : (⟨#[99, 97, 108, 101, 110, 100, 97, 114, 32]⟩ : ByteArray) = bs [99, 97, 108, 101, 110, 100, 97, 114, 32] := rfl
theorem lit_epo : (⟨#[10, 101, 112, 111, 99, 104, 32]⟩ : ByteArray) = bs [10, 101, 112, 111, 99, 104, 32] := rfl
theorem lit_cyc : (⟨#[10, 99, 121, 99, 108, 101, 32]⟩ : ByteArray) = bs [10, 99, 121, 99, 108, 101, 32] := rfl
theorem lit_lea : (⟨#[10, 108, 101, 97, 112, 32]⟩ : ByteArray) = bs [10, 108, 101, 97, 112, 32] := rfl
theorem headL_len (r : S133) (h : okRow r = true) : (headL r).length ≤ 1000 := by
  obtain ⟨⟨_, h2, h3⟩, ⟨h4, h5⟩, _⟩ := okRow_is h
  have i1 := (itoaR_f h4).2
  have i2 := (itoaR_f h5).2
  unfold headL
  simp only [List.length_append, List.length_cons, List.length_nil]
  omega
/-- Where the row is found. -/
theorem hit_f (r : S133) (hok : okRow r = true) (a : ByteArray) (ha : r.f0.toList = a.toList) (j : Nat) (hj : j < rows.length) (hr : rows[j] = r) (k : Nat) (hk : 200 ≤ k) :
    catalog_Text.l0 (k + 1) a rows ((rows.length : Nat) : Int) (j : Int) = some (bs (rowL r), 0) := by
  obtain ⟨⟨h1, h2, h3⟩, ⟨h4, h5⟩, _, h7, h8, _⟩ := okRow_is hok
  have hl := headL_len r hok
  have i1 := itoaR_f h4
  have i2 := itoaR_f h5
  obtain rfl : r.f0 = a := ba_ext (by rw [← toList_data, ← toList_data]; exact ha)
  have e0 : r.f0 = bs (nm r) := bs_of _
  have e3 : r.f3 = bs (lp r) := bs_of _
  rw [catalog_Text.l0, if_pos (by omega), if_pos (by omega), if_pos (by omega), rdT_at rows j hj, hr, if_pos rfl]
  rw [show runtime_PanicNilError_RuntimeError.f (⟨#[]⟩ : ByteArray) = some (bs []) from rfl, Option.bind_some, e0, e3, lit_cal, lit_epo, lit_cyc, lit_lea, lit_nl]
  rw [bs_app, if_pos (by rw [bs_size]; omega), if_pos (by rw [bs_size, List.length_append]; simp only [List.length_cons, List.length_nil]; omega), i1.1, Option.bind_some, bs_app, bs_app,
    if_pos (by rw [bs_size, bs_size]; simp only [List.length_append, List.length_cons, List.length_nil]; omega), if_pos (by rw [bs_size]; simp only [List.length_append, List.length_cons, List.length_nil]; omega), i2.1, Option.bind_some, bs_app, bs_app,
    if_pos (by rw [bs_size, bs_size]; simp only [List.length_append, List.length_cons, List.length_nil]; omega), if_pos (by rw [bs_size]; simp only [List.length_append, List.length_cons, List.length_nil]; omega), bs_app,
    if_pos (by rw [bs_size, bs_size]; simp only [List.length_append, List.length_cons, List.length_nil]; omega), bs_app, if_pos (by rw [bs_size]; simp only [List.length_append, List.length_cons, List.length_nil]; omega), bs_app]
  rw [show ((((((((([99, 97, 108, 101, 110, 100, 97, 114, 32] ++ nm r) ++ [10, 101, 112, 111, 99, 104, 32]) ++ Go.Lib.itoa r.f1) ++ [10, 99, 121, 99, 108, 101, 32]) ++ Go.Lib.itoa r.f2) ++ [10, 108, 101, 97, 112, 32]) ++ lp r) ++ [10])) = headL r from rfl, ws_f [] (headL r) (by simp only [List.length_nil]; omega), Option.bind_some, mons_f, Option.bind_some, if_pos h1.1, if_pos (by rw [mons_len]; exact h1.2), fields_f r hok, Option.bind_some]
  have := l1_f (wsOf r) h7 h8 (wsOf r).length 0 (headL r) k (by omega) (by omega) (by omega) (by omega)
  rw [List.drop_zero] at this
  exact this
theorem text_f (a : ByteArray) : ∀ (d j K : Nat), rows.length = j + d → d + 300 ≤ K → catalog_Text.l0 K a rows ((rows.length : Nat) : Int) (j : Int) = some (match fnd a (rows.drop j) with | some r => (bs (rowL r), 0) | none => (bs [], 5)) := by
  intro d
  induction d with
  | zero =>
    intro j K hd hK
    obtain ⟨k, rfl⟩ : ∃ k, K = k + 1 := ⟨K - 1, by omega⟩
    rw [catalog_Text.l0, if_neg (by omega), List.drop_of_length_le (by omega)]; rfl
  | succ d ih =>
    intro j K hd hK
    obtain ⟨k, rfl⟩ : ∃ k, K = k + 1 := ⟨K - 1, by omega⟩
    have hj : j < rows.length := by omega
    rw [List.drop_eq_getElem_cons hj, fnd_cons]
    by_cases h : rows[j].f0.toList = a.toList
    · rw [if_pos h, hit_f rows[j] (ok_at j hj) a h j hj rfl k (by omega)]
    · have e1 : wrap64 ((j : Int) + 1) = ((j + 1 : Nat) : Int) := w64s (by rw [rows_len] at hj; omega)
      rw [if_neg h, catalog_Text.l0, if_pos (by omega), if_pos (by omega), if_pos (by omega), rdT_at rows j hj, if_neg h, e1]
      exact ih (j + 1) k (by omega) (by omega)
/-- The names. -/
def NN : List ByteArray := rows.map (·.f0)
theorem names_f : ∀ (d j K : Nat) (X : List ByteArray), rows.length = j + d → d < K → X.length ≤ 100 + j → catalog_Names.l0 K X rows ((rows.length : Nat) : Int) (j : Int) = some (X ++ (rows.drop j).map (·.f0)) := by
  intro d
  induction d with
  | zero =>
    intro j K X hd hK hX
    obtain ⟨k, rfl⟩ : ∃ k, K = k + 1 := ⟨K - 1, by omega⟩
    rw [catalog_Names.l0, if_neg (by omega), List.drop_of_length_le (by omega), List.map_nil, List.append_nil]
  | succ d ih =>
    intro j K X hd hK hX
    obtain ⟨k, rfl⟩ : ∃ k, K = k + 1 := ⟨K - 1, by omega⟩
    have hj : j < rows.length := by omega
    have h40 := rows_len
    have e1 : wrap64 ((j : Int) + 1) = ((j + 1 : Nat) : Int) := w64s (by omega)
    rw [catalog_Names.l0, if_pos (by omega), if_pos (by omega), if_pos (by omega), if_pos (by omega), rdT_at rows j hj, e1, ih (j + 1) k _ (by omega) (by omega) (by rw [List.length_append, List.length_singleton]; omega), List.drop_eq_getElem_cons hj, List.map_cons, List.append_assoc]; rfl
def TT : List ByteArray := (rows.map rowL).map bs
theorem TT_len : TT.length = rows.length := by unfold TT; rw [List.length_map, List.length_map]
theorem TT_at (j : Nat) (h : j < rows.length) : rdOf ByteArray.empty TT (j : Int) = bs (rowL rows[j]) := by
  rw [rdC_at TT j (by rw [TT_len]; exact h)]
  unfold TT
  rw [List.getElem_map, List.getElem_map]
theorem rowL_len (r : S133) (h : r ∈ rows) : (rowL r).length ≤ 100000 := by
  have h2 : (rows.all fun r => decide ((rowL r).length ≤ 100000)) = true := by decide +kernel
  exact of_decide_eq_true (List.all_eq_true.1 h2 r h)
theorem rowL_cut (r : S133) : ∃ m, rowL r = ([99, 97, 108, 101, 110, 100, 97, 114, 32] ++ nm r) ++ 10 :: m := by
  refine ⟨[101, 112, 111, 99, 104, 32] ++ (Go.Lib.itoa r.f1 ++ ([10, 99, 121, 99, 108, 101, 32] ++ (Go.Lib.itoa r.f2 ++ ([10, 108, 101, 97, 112, 32] ++ (lp r ++ ([10] ++ lines (wsOf r))))))), ?_⟩
  unfold rowL headL
  simp only [List.append_assoc, List.cons_append, List.nil_append]
theorem drop9 (l : List UInt8) : (([99, 97, 108, 101, 110, 100, 97, 114, 32] : List UInt8) ++ l).drop 9 = l := rfl
theorem rnames_f : ∀ (d j K : Nat) (X : List ByteArray), rows.length = j + d → d < K → X.length ≤ 100 + j → ephemerisref1_Names.l0 K X TT ((rows.length : Nat) : Int) (j : Int) = some (X ++ (rows.drop j).map (·.f0)) := by
  intro d
  induction d with
  | zero =>
    intro j K X hd hK hX
    obtain ⟨k, rfl⟩ : ∃ k, K = k + 1 := ⟨K - 1, by omega⟩
    rw [ephemerisref1_Names.l0, if_neg (by omega), List.drop_of_length_le (by omega), List.map_nil, List.append_nil]
  | succ d ih =>
    intro j K X hd hK hX
    obtain ⟨k, rfl⟩ : ∃ k, K = k + 1 := ⟨K - 1, by omega⟩
    have hj : j < rows.length := by omega
    have h40 := rows_len
    have e1 : wrap64 ((j : Int) + 1) = ((j + 1 : Nat) : Int) := w64s (by omega)
    obtain ⟨_, _, _, _, _, hn⟩ := okRow_is (ok_at j hj)
    obtain ⟨m, hm⟩ := rowL_cut rows[j]
    have hlen := rowL_len rows[j] (List.getElem_mem hj)
    have hcut : strings_Cut.f (bs (rowL rows[j])) (⟨#[10]⟩ : ByteArray) = some (bs ([99, 97, 108, 101, 110, 100, 97, 114, 32] ++ nm rows[j]), bs m, true) := by
      rw [hm] at hlen ⊢
      refine cut1_f 10 _ m ?_ (by omega)
      intro h
      rcases List.mem_append.1 h with h | h
      · exact absurd h (by decide)
      · exact hn h
    rw [ephemerisref1_Names.l0, if_pos (by omega), if_pos (by omega), if_pos (by rw [TT_len]; omega), TT_at j hj, hcut, Option.bind_some]
    show (if (9 : Int) ≤ ((bs ([99, 97, 108, 101, 110, 100, 97, 114, 32] ++ nm rows[j])).size : Int) then (if X.length < 8796093022208 then (ephemerisref1_Names.l0 k (X ++ [(bs ([99, 97, 108, 101, 110, 100, 97, 114, 32] ++ nm rows[j])).extract 9 (bs ([99, 97, 108, 101, 110, 100, 97, 114, 32] ++ nm rows[j])).size]) TT ((rows.length : Nat) : Int) (wrap64 ((j : Int) + 1))) else none) else none) = _
    rw [if_pos (by rw [bs_size, List.length_append]; simp only [List.length_cons, List.length_nil]; omega), if_pos (by omega), bs_from, e1, ih (j + 1) k _ (by omega) (by omega) (by rw [List.length_append, List.length_singleton]; omega), List.drop_eq_getElem_cons hj, List.map_cons, List.append_assoc, drop9, ← bs_of]; rfl
theorem rtext_f (a : ByteArray) : ∀ (d j K : Nat), rows.length = j + d → d < K → ephemerisref1_Text.l0 K a NN ((rows.length : Nat) : Int) (j : Int) = some (match fnd a (rows.drop j) with | some r => bs (rowL r) | none => bs []) := by
  have hN : NN.length = rows.length := by unfold NN; rw [List.length_map]
  intro d
  induction d with
  | zero =>
    intro j K hd hK
    obtain ⟨k, rfl⟩ : ∃ k, K = k + 1 := ⟨K - 1, by omega⟩
    rw [ephemerisref1_Text.l0, if_neg (by omega), List.drop_of_length_le (by omega)]; rfl
  | succ d ih =>
    intro j K hd hK
    obtain ⟨k, rfl⟩ : ∃ k, K = k + 1 := ⟨K - 1, by omega⟩
    have hj : j < rows.length := by omega
    have h40 := rows_len
    have e1 : wrap64 ((j : Int) + 1) = ((j + 1 : Nat) : Int) := w64s (by omega)
    have hx : rdOf ByteArray.empty NN (j : Int) = rows[j].f0 := by
      rw [rdC_at NN j (by omega)]; unfold NN; rw [List.getElem_map]
    rw [List.drop_eq_getElem_cons hj, fnd_cons, ephemerisref1_Text.l0, if_pos (by omega), if_pos (by omega), if_pos (by omega), hx]
    by_cases h : rows[j].f0.toList = a.toList
    · rw [if_pos h, if_pos h, Texts_f, Option.bind_some]
      show (if (j : Int) < ((TT.length : Nat) : Int) then some (rdOf ByteArray.empty TT (j : Int)) else none) = _
      rw [if_pos (by rw [TT_len]; omega), TT_at j hj]
    · rw [if_neg h, if_neg h, e1]
      exact ih (j + 1) k (by omega) (by omega)
theorem same_f (L : List ByteArray) (hL : L.length ≤ 1000) : ∀ (d j K : Nat), L.length = j + d → d < K → ephemerisref1_SameTexts.l0 K L L ((L.length : Nat) : Int) (j : Int) = some true := by
  intro d
  induction d with
  | zero =>
    intro j K hd hK
    obtain ⟨k, rfl⟩ : ∃ k, K = k + 1 := ⟨K - 1, by omega⟩
    rw [ephemerisref1_SameTexts.l0, if_neg (by omega)]
  | succ d ih =>
    intro j K hd hK
    obtain ⟨k, rfl⟩ : ∃ k, K = k + 1 := ⟨K - 1, by omega⟩
    have e1 : wrap64 ((j : Int) + 1) = ((j + 1 : Nat) : Int) := w64s (by omega)
    rw [ephemerisref1_SameTexts.l0, if_pos (by omega), if_pos (by omega), if_pos (by omega), if_pos (by omega), if_pos rfl, e1]
    exact ih (j + 1) k (by omega) (by omega)
theorem catNames_f (K : Nat) (hK : 50 ≤ K) : catalog_Names.f K = some NN := by
  have h40 := rows_len
  unfold catalog_Names.f
  rw [rows_f, Option.bind_some]
  have := names_f rows.length 0 K [] (by omega) (by omega) (by simp)
  rw [List.drop_zero, List.nil_append] at this
  exact this
theorem refNames_f (K : Nat) (hK : 50 ≤ K) : ephemerisref1_Names.f K = some NN := by
  have h40 := rows_len
  unfold ephemerisref1_Names.f
  rw [Texts_f, Option.bind_some]
  have := rnames_f rows.length 0 K [] (by omega) (by omega) (by simp)
  rw [List.drop_zero, List.nil_append] at this
  show ephemerisref1_Names.l0 K [] TT ((TT.length : Nat) : Int) 0 = _
  rw [TT_len]
  exact this
theorem catText_f (K : Nat) (hK : 400 ≤ K) (a : ByteArray) : catalog_Text.f K a = some (match fnd a rows with | some r => (bs (rowL r), 0) | none => (bs [], 5)) := by
  have h40 := rows_len
  unfold catalog_Text.f
  rw [rows_f, Option.bind_some]
  have := text_f a rows.length 0 K (by omega) (by omega)
  rw [List.drop_zero] at this
  exact this
theorem refText_f (K : Nat) (hK : 400 ≤ K) (a : ByteArray) : ephemerisref1_Text.f K a = some (match fnd a rows with | some r => bs (rowL r) | none => bs []) := by
  have h40 := rows_len
  unfold ephemerisref1_Text.f
  rw [refNames_f K (by omega), Option.bind_some]
  have := rtext_f a rows.length 0 K (by omega) (by omega)
  rw [List.drop_zero] at this
  rw [show NN.length = rows.length from by unfold NN; rw [List.length_map]]
  exact this

theorem CatalogTexts : ephemerislaw1_CatalogTexts.Pure := by
  intro a ha
  obtain ⟨k, hk⟩ : ∃ k : Nat, 1000 ≤ k := ⟨_, Nat.le_refl _⟩
  refine ⟨k + 1, ?_⟩
  have hN : NN.length = 40 := rfl
  unfold ephemerislaw1_CatalogTexts.f
  rw [catNames_f (k + 1) (by omega), Option.bind_some, if_pos (by rw [hN]; rfl), if_pos (by rw [hN]; decide)]
  have hg : ((rdOf ByteArray.empty NN 0).toList != ([103, 114, 101, 103, 111, 114, 105, 97, 110] : List UInt8)) = false := by
    rw [toList_data]; decide +kernel
  rw [hg, ephemerislaw1_CatalogTexts.j0, if_neg (by decide), catText_f k (by omega), Option.bind_some, refText_f k (by omega), Option.bind_some, refNames_f k (by omega), Option.bind_some]
  have hs : ephemerisref1_SameTexts.f k NN NN = some true := by
    unfold ephemerisref1_SameTexts.f
    rw [if_pos rfl]
    exact same_f NN (by rw [hN]; decide) NN.length 0 k (by omega) (by rw [hN]; omega)
  rw [hs, Option.bind_some, if_pos rfl]
  rcases fnd a rows with _ | r
  · show (if (bs []).toList = (bs []).toList then (if (((5 : Int) == 0) == ((bs []).toList != ([] : List UInt8))) = true then (if (5 : Int) = 0 then (some true) else (some ((5 : Int) == 5))) else (some false)) else (some false)) = _
    rw [if_pos rfl, bs_toList]; rfl
  · show (if (bs (rowL r)).toList = (bs (rowL r)).toList then (if (((0 : Int) == 0) == ((bs (rowL r)).toList != ([] : List UInt8))) = true then (if (0 : Int) = 0 then (some true) else (some ((0 : Int) == 5))) else (some false)) else (some false)) = _
    obtain ⟨m, hm⟩ := rowL_cut r
    rw [if_pos rfl, bs_toList, hm]; rfl
end Go.Proofs.YtiijhabfdjnmaaaDoor.Pure
