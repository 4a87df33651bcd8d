/- The law SpanChecks over numbers and lists: what the law's functions tell, and that the law holds. -/
import Derived.Test.YtcmanidhilkhnaaDoorPSpanChecksx7
import Derived.Test.YtcmanidhilkhnaaDoorM
import Derived.Test.YtcmanidhilkhnaaDoorO
import Derived.Test.YtcmanidhilkhnaaDoorU
import Derived.Test.YtcmanidhilkhnaaDoorT
import Derived.Test.YtcmanidhilkhnaaDoorA
import Derived.Test.YtcmanidhilkhnaaDoorI
import Derived.Lib.ItoaLen
import Derived.Lib.IndexBytes
import Derived.Lib.SplitLaws
import Derived.Lib.Join
namespace Go.Proofs.YtcmanidhilkhnaaDoor.Pure
open Go.RowKit Go.Proofs.YtcmanidhilkhnaaDoor.PSpanChecks Go.Proofs.YtcmanidhilkhnaaDoorW.PrintWords Go.Proofs.YtcmanidhilkhnaaDoorW.PrintLast Go.Proofs.YtcmanidhilkhnaaDoor.M Go.Proofs.YtcmanidhilkhnaaDoor.O Go.Proofs.YtcmanidhilkhnaaDoor.U Go.Proofs.YtcmanidhilkhnaaDoor.T Go.Proofs.YtcmanidhilkhnaaDoor.A Go.Proofs.YtcmanidhilkhnaaDoor.I
set_option linter.unusedVariables false
set_option linter.unusedSimpArgs false
/-- The law over numbers and lists. -/
def ephemerislaw1_SpanChecks.Pure : Prop := ∀ (a0_0 : Int) (a0_1 : Int) (a0_2 : Int) (a0_3 : Int) (a1 : ByteArray), (Lit.int .i64 a0_0).wf = true → (Lit.int .i64 a0_1).wf = true → (Lit.int .i64 a0_2).wf = true → (Lit.int .i64 a0_3).wf = true → a1.size ≤ 140737488351232 → ∃ k, ephemerislaw1_SpanChecks.f k a0_0 a0_1 a0_2 a0_3 a1 = some true

theorem ephemerisref1_In_f (x lo hi : Int) : ephemerisref1_In.f x lo hi = some (decide (lo ≤ x ∧ x ≤ hi)) := by
  unfold ephemerisref1_In.f
  by_cases h : x ≥ lo
  · rw [if_pos h]; congr 1; simp; omega
  · rw [if_neg h]; congr 1; simp; omega

theorem size_list (s : ByteArray) : s.size = s.data.toList.length := rfl
theorem bytes_ext {a b : ByteArray} (h : a.data.toList = b.data.toList) : a = b := by
  obtain ⟨⟨x⟩⟩ := a; obtain ⟨⟨y⟩⟩ := b
  simp only at h
  rw [h]
theorem app_list (a b : ByteArray) : (a ++ b).data.toList = a.data.toList ++ b.data.toList := by rw [ByteArray.data_append, Array.toList_append]
theorem trim_f (s : ByteArray) : strings_TrimPrefix.f s (⟨#[45]⟩ : ByteArray) = some ⟨(trim1 s.data.toList).toArray⟩ := by
  obtain ⟨⟨l⟩⟩ := s
  have h1 : (⟨#[45]⟩ : ByteArray).size = 1 := rfl
  unfold strings_TrimPrefix.f stringslite_TrimPrefix.f stringslite_HasPrefix.f
  rw [h1]
  cases l with
  | nil => rfl
  | cons c r =>
    have hz : (⟨⟨c :: r⟩⟩ : ByteArray).size = r.length + 1 := rfl
    rw [if_pos (by omega), if_pos (by omega), if_pos (by omega), Option.bind_some]
    have e1 : ((⟨⟨c :: r⟩⟩ : ByteArray).extract 0 (((1 : Nat) : Int)).toNat).toList = [c] := by
      rw [toList_data, ByteArray.data_extract]
      simp
    have e2 : (⟨#[45]⟩ : ByteArray).toList = [45] := by rw [toList_data]
    rw [e1, e2]
    by_cases hc : c = 45
    · subst hc
      rw [if_pos (by rfl), if_pos (by omega), if_pos (by omega), Option.bind_some]
      congr 1
      apply bytes_ext
      rw [ByteArray.data_extract, hz]
      simp [trim1]
    · have h2 : ¬ ([c] == ([45] : List UInt8)) = true := by
        rw [beq_iff_eq]; intro e; exact hc (List.cons.inj e).1
      rw [if_neg h2, Option.bind_some]
      congr 1
      apply bytes_ext
      show c :: r = (trim1 (c :: r)).toArray.toList
      simp [trim1, hc]
theorem digits_loop (s : ByteArray) (hs : s.size ≤ 281474976710656) : ∀ (m i k : Nat), i + m = s.size → m + 1 ≤ k → ephemerisref1_digits.l0 k s (s.size : Int) (i : Int) = some ((s.data.toList.drop i).all isDig)
  | 0, i, k + 1, hi, _ => by
    unfold ephemerisref1_digits.l0
    rw [if_neg (by omega), List.drop_of_length_le (by rw [← size_list]; omega)]
    rfl
  | m + 1, i, k + 1, hi, hk => by
    have hl : i < s.data.toList.length := by rw [← size_list]; omega
    unfold ephemerisref1_digits.l0
    rw [if_pos (by omega), if_pos (by omega), if_pos (by omega), bt_get s i hl, List.drop_eq_getElem_cons hl, List.all_cons]
    have hc := isDig_iff (s.data.toList[i])
    by_cases c1 : ((s.data.toList[i]).toNat : Int) < 48
    · have : isDig (s.data.toList[i]) = false := by
        cases h : isDig (s.data.toList[i])
        · rfl
        · have := hc.1 h; omega
      rw [if_pos c1, this]; rfl
    rw [if_neg c1]
    by_cases c2 : ((s.data.toList[i]).toNat : Int) > 57
    · have : isDig (s.data.toList[i]) = false := by
        cases h : isDig (s.data.toList[i])
        · rfl
        · have := hc.1 h; omega
      rw [if_pos c2, this]; rfl
    rw [if_neg c2, hc.2 (by omega), Bool.true_and, w64_id (n := (i : Int) + 1) (by omega) (by omega)]
    exact digits_loop s hs m (i + 1) k (by omega) (by omega)
theorem digits_f (s : ByteArray) (hs : s.size ≤ 281474976710656) (k : Nat) (hk : 281474976710660 ≤ k) : ephemerisref1_digits.f k s = some (dOK s.data.toList) := by
  obtain ⟨k, rfl⟩ : ∃ m, k = m + 1 := ⟨k - 1, by omega⟩
  have hJ := digits_loop s hs s.size 0 k (by omega) (by omega)
  rw [List.drop_zero] at hJ
  have hj : ∀ x, ephemerisref1_digits.j0 (k + 1) s x = some (!x && s.data.toList.all isDig) := by
    intro x
    simp only [ephemerisref1_digits.j0]
    cases x
    · rw [if_neg (by decide)]; exact hJ
    · rfl
  unfold ephemerisref1_digits.f
  simp only [hj]
  unfold dOK
  cases hl : s.data.toList with
  | nil =>
    rw [toList_data, hl, if_pos rfl]; rfl
  | cons c r =>
    have hz : s.size = r.length + 1 := by rw [size_list, hl]; rfl
    have h0 : bt s 0 = (c.toNat : Int) := by
      have := bt_get s 0 (by rw [hl]; simp)
      simp only [hl, List.getElem_cons_zero] at this
      exact this
    rw [toList_data, hl, if_neg (by simp)]
    by_cases c1 : (s.size : Int) > 1
    · rw [if_pos c1, if_pos (by omega), h0]
      congr 1
      have e1 : decide ((c :: r).length ≤ 1) = false := decide_eq_false (by rw [List.length_cons]; omega)
      have e2 : (!((c.toNat : Int) == 48)) = decide ((c :: r).head? ≠ some 48) := by
        by_cases e : c = 48
        · subst e; rfl
        · have e3 : ¬ ((c.toNat : Int) = 48) := fun h => e (UInt8.toNat_inj.1 (by rw [show (48 : UInt8).toNat = 48 from rfl]; omega))
          rw [beq_eq_false_iff_ne.2 e3, decide_eq_true (by simpa using e)]; rfl
      rw [e1, e2]; rfl
    · rw [if_neg c1]
      congr 1
      have e1 : decide ((c :: r).length ≤ 1) = true := decide_eq_true (by rw [List.length_cons]; omega)
      rw [e1]; rfl
theorem plain_loop (s t : ByteArray) (ht : t.size ≤ 17) (hd : t.data.toList.all isDig = true) : ∀ (m i k acc : Nat), i + m = t.size → m + 1 ≤ k → acc < 10 ^ i → ephemerisref1_Plain.l0 k s t (acc : Int) (t.size : Int) (i : Int) = if t.toList = s.toList then (some ((dVal acc (t.data.toList.drop i) : Int), true)) else (some (wrap64 (-(dVal acc (t.data.toList.drop i) : Int)), true))
  | 0, i, k + 1, acc, hi, _, _ => by
    unfold ephemerisref1_Plain.l0
    rw [if_neg (by omega), List.drop_of_length_le (by rw [← size_list]; omega), dVal_nil]
  | m + 1, i, k + 1, acc, hi, hk, ha => by
    have hl : i < t.data.toList.length := by rw [← size_list]; omega
    have hc := (isDig_iff (t.data.toList[i])).1 (List.all_eq_true.1 hd _ (List.getElem_mem hl))
    have hp : 10 ^ i ≤ 10 ^ 16 := Nat.pow_le_pow_right (by decide) (by omega)
    have e16 : (10 : Nat) ^ 16 = 10000000000000000 := by decide
    unfold ephemerisref1_Plain.l0
    rw [if_pos (by omega), if_pos (by omega), if_pos (by omega), bt_get t i hl, List.drop_eq_getElem_cons hl, dVal_cons, w64_id (n := 10 * (acc : Int)) (by omega) (by omega), w64_id (n := (i : Int) + 1) (by omega) (by omega), w64_id (n := 10 * (acc : Int) + (((t.data.toList[i]).toNat : Int) - 48) % 256) (by omega) (by omega)]
    have e : 10 * (acc : Int) + (((t.data.toList[i]).toNat : Int) - 48) % 256 = ((acc * 10 + ((t.data.toList[i]).toNat - 48) : Nat) : Int) := by omega
    rw [e]
    exact plain_loop s t ht hd m (i + 1) k _ (by omega) (by omega) (by rw [Nat.pow_succ]; omega)
theorem plain_f (s : ByteArray) (hs : s.size ≤ 281474976710656) (k : Nat) (hk : 281474976710670 ≤ k) : ephemerisref1_Plain.f k s = some (if pOK s.data.toList = true then (pVal s.data.toList, true) else (0, false)) := by
  obtain ⟨k, rfl⟩ : ∃ m, k = m + 1 := ⟨k - 1, by omega⟩
  have hz : (trim1 s.data.toList).length ≤ s.data.toList.length := by
    cases s.data.toList with
    | nil => exact Nat.le_refl _
    | cons c r =>
      show (if c = 45 then r else c :: r).length ≤ (c :: r).length
      split <;> simp
  have hts : (⟨(trim1 s.data.toList).toArray⟩ : ByteArray).size = (trim1 s.data.toList).length := by rw [size_list]
  have hj : ∀ x, ephemerisref1_Plain.j0 (k + 1) s ⟨(trim1 s.data.toList).toArray⟩ x = if x = true then (some (0, false)) else (ephemerisref1_Plain.l0 k s ⟨(trim1 s.data.toList).toArray⟩ 0 ((⟨(trim1 s.data.toList).toArray⟩ : ByteArray).size : Int) 0) := by
    intro x; simp only [ephemerisref1_Plain.j0]
  unfold ephemerisref1_Plain.f
  rw [trim_f, Option.bind_some, digits_f _ (by rw [hts]; rw [size_list] at hs; omega) _ (by omega), Option.bind_some]
  simp only [hj]
  rw [hts, toList_data]
  by_cases c1 : dOK (trim1 s.data.toList) = true
  · rw [if_pos c1]
    by_cases c2 : (trim1 s.data.toList).length ≤ 17
    · rw [if_neg (by omega)]
      by_cases c3 : s.data.toList = [45, 48]
      · have hn : ¬ pOK s.data.toList = true := fun h => ((pOK_iff _).1 h).2.2 c3
        rw [if_neg hn, if_pos (by rw [c3]; rfl)]
      · have hy : pOK s.data.toList = true := (pOK_iff _).2 ⟨c1, c2, c3⟩
        have hb : ¬ (s.data.toList == ([45, 48] : List UInt8)) = true := by rw [beq_iff_eq]; exact c3
        have hd := ((dOK_iff _).1 c1).2.2
        have hL := plain_loop s ⟨(trim1 s.data.toList).toArray⟩ (by rw [hts]; exact c2) hd (trim1 s.data.toList).length 0 k 0 (by rw [hts]; omega) (by omega) (by decide)
        rw [hts, List.drop_zero, show (⟨(trim1 s.data.toList).toArray⟩ : ByteArray).data.toList = trim1 s.data.toList from rfl] at hL
        have hlt := dVal_lt (trim1 s.data.toList) 0 hd
        have hp : 10 ^ (trim1 s.data.toList).length ≤ 10 ^ 17 := Nat.pow_le_pow_right (by decide) c2
        have e17 : (10 : Nat) ^ 17 = 100000000000000000 := by decide
        rw [if_neg hb, if_pos hy]
        refine Eq.trans hL ?_
        rw [toList_data, toList_data, show (⟨(trim1 s.data.toList).toArray⟩ : ByteArray).data.toList = trim1 s.data.toList from rfl]
        unfold pVal
        by_cases c4 : s.data.toList.head? = some 45
        · have hne : ¬ (trim1 s.data.toList = s.data.toList) := by
            cases hl : s.data.toList with
            | nil => rw [hl] at c4; simp at c4
            | cons c r =>
              rw [hl] at c4
              simp only [List.head?_cons, Option.some.injEq] at c4
              subst c4
              intro e
              have := congrArg List.length e
              simp [trim1] at this
          rw [if_neg hne, if_pos c4, w64_id (by omega) (by omega)]
        · rw [if_pos (trim1_other c4), if_neg c4]
    · have hn : ¬ pOK s.data.toList = true := fun h => c2 ((pOK_iff _).1 h).2.1
      rw [if_neg hn, if_pos (by omega), if_pos trivial]
  · have hn : ¬ pOK s.data.toList = true := fun h => c1 ((pOK_iff _).1 h).1
    rw [if_neg hn, if_neg c1, if_pos trivial]
/-- A fraction's text spells it. -/
theorem atoi_f (s : ByteArray) (hs : s.size ≤ 281474976710656) : strconv_Atoi.f s = some (strconv_Atoi.g s.data.toList) := by
  unfold strconv_Atoi.f; rw [if_pos hs]

def spl : List UInt8 → List (List UInt8)
  | [] => [[]]
  | c :: r => if c = 32 then [] :: spl r else match spl r with | [] => [[c]] | w :: ws => (c :: w) :: ws
def jn : List (List UInt8) → List UInt8
  | [] => []
  | [w] => w
  | w :: x :: ws => w ++ 32 :: jn (x :: ws)
theorem spl_ne : ∀ l, spl l ≠ []
  | [] => by simp [spl]
  | c :: r => by
    unfold spl
    split
    · simp
    · split <;> simp
theorem spl_word : ∀ u : List UInt8, (32 : UInt8) ∉ u → spl u = [u]
  | [], _ => rfl
  | c :: u, h => by
    have hc : c ≠ 32 := fun e => h (by rw [e]; exact List.mem_cons_self)
    rw [spl, if_neg hc, spl_word u (fun g => h (List.mem_cons_of_mem _ g))]
theorem spl_cons (m : List UInt8) : ∀ u : List UInt8, (32 : UInt8) ∉ u → spl (u ++ 32 :: m) = u :: spl m
  | [], _ => by rw [List.nil_append, spl, if_pos rfl]
  | c :: u, h => by
    have hc : c ≠ 32 := fun e => h (by rw [e]; exact List.mem_cons_self)
    rw [List.cons_append, spl, if_neg hc, spl_cons m u (fun g => h (List.mem_cons_of_mem _ g))]
theorem spl_no : ∀ (l : List UInt8), ∀ w ∈ spl l, (32 : UInt8) ∉ w
  | [], w, hw => by rw [List.mem_singleton.1 hw]; simp
  | c :: r, w, hw => by
    have ih := spl_no r
    unfold spl at hw
    split at hw
    · rcases List.mem_cons.1 hw with h | h
      · rw [h]; simp
      · exact ih w h
    · rename_i hc
      split at hw
      · rw [List.mem_singleton.1 hw]; simp; exact fun e => hc e.symm
      · rename_i x xs he
        rw [he] at ih
        rcases List.mem_cons.1 hw with h | h
        · rw [h]; simp only [List.mem_cons, not_or]; exact ⟨fun e => hc e.symm, ih x List.mem_cons_self⟩
        · exact ih w (List.mem_cons_of_mem _ h)
theorem jn_cons (w : List UInt8) (ws : List (List UInt8)) (h : ws ≠ []) : jn (w :: ws) = w ++ 32 :: jn ws := by
  cases ws with
  | nil => exact absurd rfl h
  | cons x xs => rfl
theorem jn_spl : ∀ l, jn (spl l) = l
  | [] => rfl
  | c :: r => by
    have ih := jn_spl r
    have hne := spl_ne r
    unfold spl
    split
    · rename_i hc
      rw [jn_cons _ _ hne, ih, hc]; rfl
    · split
      · rename_i he; exact absurd he hne
      · rename_i x xs he
        rw [he] at ih
        cases xs with
        | nil => show c :: x = c :: r; rw [show x = r from ih]
        | cons y ys => rw [jn_cons _ _ (by simp)] at ih ⊢; rw [← ih]; rfl
theorem spl_jn : ∀ ws : List (List UInt8), ws ≠ [] → (∀ w ∈ ws, (32 : UInt8) ∉ w) → spl (jn ws) = ws
  | [], h, _ => absurd rfl h
  | [w], _, h => spl_word w (h w List.mem_cons_self)
  | w :: x :: ws, _, h => by
    rw [jn_cons _ _ (by simp), spl_cons _ w (h w List.mem_cons_self), spl_jn (x :: ws) (by simp) (fun v hv => h v (List.mem_cons_of_mem _ hv))]
theorem join_jn : ∀ ws : List (List UInt8), Go.Lib.join ws [32] = jn ws
  | [] => rfl
  | [w] => by simp [Go.Lib.join, List.intercalate, jn]
  | w :: x :: ws => by
    have ih := join_jn (x :: ws)
    rw [jn_cons _ _ (by simp), ← ih]
    simp [Go.Lib.join, List.intercalate]
theorem splitK_spl : ∀ (k : Nat) (l : List UInt8), l.count 32 = k → Go.Lib.splitK [32] 0 k l = spl l
  | 0, l, h => by
    have hn : (32 : UInt8) ∉ l := List.count_eq_zero.1 h
    rw [spl_word l hn]; rfl
  | k + 1, l, h => by
    obtain ⟨u, r, e, hu, hr⟩ := parted (· == 32) l
    have hn : (32 : UInt8) ∉ u := fun g => by have := hu _ g; simp at this
    rcases hr with rfl | ⟨c, m, rfl, hc⟩
    · rw [List.append_nil] at e; rw [e, List.count_eq_zero.2 hn] at h; cases h
    · rw [beq_iff_eq] at hc; subst hc
      subst e
      have hc2 : m.count 32 = k := by
        rw [List.count_append, List.count_eq_zero.2 hn, List.count_cons_self] at h; omega
      have hix : Go.Lib.index (u ++ 32 :: m) [32] = (u.length : Int) := by rw [Go.Lib.index_one, idx_yes 32 m u hn]
      have hb : ((u.length : Int) == -1) = false := beq_eq_false_iff_ne.2 (by omega)
      rw [Go.Lib.splitK, hix, hb, if_neg (by decide), spl_cons m u hn, ← splitK_spl k m hc2]
      congr 1
      · rw [Int.toNat_natCast, Nat.add_zero, List.take_left']; rfl
      · congr 1
        rw [Int.toNat_natCast]
        show (u ++ 32 :: m).drop (u.length + 1) = m
        rw [← List.drop_drop, List.drop_left']
        · rfl
        · rfl
theorem split_f (l : List UInt8) (h : l.length ≤ 1048576) : strings_Split.f (bs l) (⟨#[32]⟩ : ByteArray) = some ((spl l).map bs) := by
  unfold strings_Split.f
  rw [if_pos ⟨by rw [bs_size]; omega, by decide⟩]
  congr 1
  have hc : Go.Lib.countB (bs l) (⟨#[32]⟩ : ByteArray) = l.count 32 := Go.Lib.count_one 32 l
  have h1 := Go.Lib.splitB_data (⟨#[32]⟩ : ByteArray) 0 (l.count 32) (bs l)
  rw [hc]
  have h2 : (Go.Lib.splitB (⟨#[32]⟩ : ByteArray) 0 (l.count 32) (bs l)).map (·.data.toList) = spl l := h1.trans (splitK_spl _ l rfl)
  rw [← h2, List.map_map]
  symm
  have : (bs ∘ fun x : ByteArray => x.data.toList) = id := by funext x; exact (bs_of x).symm
  rw [this, List.map_id]
/-- The units. -/
def un : Nat → List UInt8
  | 0 => [121]
  | 1 => [109]
  | 2 => [100]
  | _ => [109, 115]
def wd (n : Int) (k : Nat) : List (List UInt8) := if n = 0 then [] else [Go.Lib.itoa n ++ un k]
def wds (a b c d : Int) : List (List UInt8) := wd a 0 ++ (wd b 1 ++ (wd c 2 ++ wd d 3))
def txt (a b c d : Int) : List UInt8 := if wds a b c d = [] then [48, 100] else jn (wds a b c d)
def okS (a b c d : Int) : Prop := (-10000 ≤ a ∧ a ≤ 10000) ∧ (-10000 ≤ b ∧ b ≤ 10000) ∧ (-8000000 ≤ c ∧ c ≤ 8000000) ∧ (-345600000000000 ≤ d ∧ d ≤ 345600000000000)
instance (a b c d : Int) : Decidable (okS a b c d) := by unfold okS; infer_instance
theorem In_f (a b c : Int) : ephemerisref1_In.f a b c = some (decide (b ≤ a ∧ a ≤ c)) := by
  unfold ephemerisref1_In.f
  by_cases h : b ≤ a
  · rw [if_pos h]; congr 1
    by_cases h2 : a ≤ c
    · rw [decide_eq_true h2, decide_eq_true ⟨h, h2⟩]
    · rw [decide_eq_false h2, decide_eq_false (fun g => h2 g.2)]
  · rw [if_neg h, decide_eq_false (fun g => h g.1)]
theorem within_f (a : Int) (m : Nat) (hm : m ≤ 345600000000000) : span_within.f a (m : Int) = some (decide (-(m : Int) ≤ a ∧ a ≤ m)) := by
  have w : Aside0 (wrap64 (-(m : Int)) = -(m : Int)) := ⟨w64_id (by omega) (by omega)⟩
  unfold span_within.f
  rw [w.out]
  by_cases h : -(m : Int) ≤ a
  · rw [if_pos h]; congr 1
    by_cases h2 : a ≤ m
    · rw [decide_eq_true h2, decide_eq_true ⟨h, h2⟩]
    · rw [decide_eq_false h2, decide_eq_false (fun g => h2 g.2)]
  · rw [if_neg h, decide_eq_false (fun g => h g.1)]
theorem check_f (a b c d : Int) : span_Check.f a b c d = some (if okS a b c d then 0 else 3) := by
  unfold span_Check.f
  have h1 : span_within.f a 10000 = some (decide (-10000 ≤ a ∧ a ≤ 10000)) := within_f a 10000 (by decide)
  have h2 : span_within.f b 10000 = some (decide (-10000 ≤ b ∧ b ≤ 10000)) := within_f b 10000 (by decide)
  have h3 : span_within.f c 8000000 = some (decide (-8000000 ≤ c ∧ c ≤ 8000000)) := within_f c 8000000 (by decide)
  have h4 : span_within.f d 345600000000000 = some (decide (-345600000000000 ≤ d ∧ d ≤ 345600000000000)) := within_f d 345600000000000 (by decide)
  rw [h1, h2, h3, h4]
  simp only [Option.bind_some, decide_eq_true_eq]
  by_cases q1 : -10000 ≤ a ∧ a ≤ 10000
  · by_cases q2 : -10000 ≤ b ∧ b ≤ 10000
    · by_cases q3 : -8000000 ≤ c ∧ c ≤ 8000000
      · by_cases q4 : -345600000000000 ≤ d ∧ d ≤ 345600000000000
        · rw [if_pos q1, if_pos q2, if_pos q3, if_pos q4, if_pos (show okS a b c d from ⟨q1, q2, q3, q4⟩)]
        · rw [if_pos q1, if_pos q2, if_pos q3, if_neg q4, if_neg (fun g : okS a b c d => q4 g.2.2.2)]
      · rw [if_pos q1, if_pos q2, if_neg q3, if_neg (fun g : okS a b c d => q3 g.2.2.1)]
    · rw [if_pos q1, if_neg q2, if_neg (fun g : okS a b c d => q2 g.2.1)]
  · rw [if_neg q1, if_neg (fun g : okS a b c d => q1 g.1)]
theorem lok_f (a b c d : Int) : ephemerisref1_LengthOK.f a b c d = some (decide (okS a b c d)) := by
  unfold ephemerisref1_LengthOK.f
  rw [In_f, In_f, In_f, In_f]
  simp only [Option.bind_some, decide_eq_true_eq]
  by_cases q1 : -10000 ≤ a ∧ a ≤ 10000
  · by_cases q2 : -10000 ≤ b ∧ b ≤ 10000
    · by_cases q3 : -8000000 ≤ c ∧ c ≤ 8000000
      · rw [if_pos q1, if_pos q2, if_pos q3]
        congr 1
        by_cases q4 : -345600000000000 ≤ d ∧ d ≤ 345600000000000
        · rw [decide_eq_true q4, decide_eq_true (show okS a b c d from ⟨q1, q2, q3, q4⟩)]
        · rw [decide_eq_false q4, decide_eq_false (fun g : okS a b c d => q4 g.2.2.2)]
      · rw [if_pos q1, if_pos q2, if_neg q3, decide_eq_false (fun g : okS a b c d => q3 g.2.2.1)]
    · rw [if_pos q1, if_neg q2, decide_eq_false (fun g : okS a b c d => q2 g.2.1)]
  · rw [if_neg q1, decide_eq_false (fun g : okS a b c d => q1 g.1)]
theorem itoa_f (n : Int) (h : -345600000000000 ≤ n ∧ n ≤ 345600000000000) : strconv_Itoa.f n = some (bs (Go.Lib.itoa n)) ∧ (Go.Lib.itoa n).length ≤ 21 :=
  ⟨by unfold strconv_Itoa.f; rw [if_pos ⟨by omega, by omega⟩]; rfl, Go.Lib.itoa_length_le n (by omega) (by omega)⟩
theorem st0 (k : Nat) (X : List (List UInt8)) (hX : X.length ≤ 10) (a b c d : Int) (h : okS a b c d) : span_Text.l0 (k + 1) (X.map bs) a b c d 0 = span_Text.l0 k ((X ++ wd a 0).map bs) a b c d 1 := by
  conv => lhs; unfold span_Text.l0
  rw [if_pos (by decide), if_pos rfl]
  unfold wd
  by_cases q : a = 0
  · rw [if_pos q, if_pos q, List.append_nil]; rfl
  · obtain ⟨i1, i2⟩ := itoa_f a (by unfold okS at h; omega)
    rw [if_neg q, if_neg q, i1, Option.bind_some, if_pos (by rw [bs_size]; omega), if_pos (by rw [List.length_map]; omega), List.map_append]
    show span_Text.l0 k (X.map bs ++ [bs (Go.Lib.itoa a) ++ bs [121]]) a b c d 1 = _
    rw [bs_app]; rfl
theorem st1 (k : Nat) (X : List (List UInt8)) (hX : X.length ≤ 10) (a b c d : Int) (h : okS a b c d) : span_Text.l0 (k + 1) (X.map bs) a b c d 1 = span_Text.l0 k ((X ++ wd b 1).map bs) a b c d 2 := by
  conv => lhs; unfold span_Text.l0
  rw [if_pos (by decide), if_neg (by decide), if_pos rfl]
  unfold wd
  by_cases q : b = 0
  · rw [if_pos q, if_pos q, List.append_nil]; rfl
  · obtain ⟨i1, i2⟩ := itoa_f b (by unfold okS at h; omega)
    rw [if_neg q, if_neg q, i1, Option.bind_some, if_pos (by rw [bs_size]; omega), if_pos (by rw [List.length_map]; omega), List.map_append]
    show span_Text.l0 k (X.map bs ++ [bs (Go.Lib.itoa b) ++ bs [109]]) a b c d 2 = _
    rw [bs_app]; rfl
theorem st2 (k : Nat) (X : List (List UInt8)) (hX : X.length ≤ 10) (a b c d : Int) (h : okS a b c d) : span_Text.l0 (k + 1) (X.map bs) a b c d 2 = span_Text.l0 k ((X ++ wd c 2).map bs) a b c d 3 := by
  conv => lhs; unfold span_Text.l0
  rw [if_pos (by decide), if_neg (by decide), if_neg (by decide), if_pos rfl]
  unfold wd
  by_cases q : c = 0
  · rw [if_pos q, if_pos q, List.append_nil]; rfl
  · obtain ⟨i1, i2⟩ := itoa_f c (by unfold okS at h; omega)
    rw [if_neg q, if_neg q, i1, Option.bind_some, if_pos (by rw [bs_size]; omega), if_pos (by rw [List.length_map]; omega), List.map_append]
    show span_Text.l0 k (X.map bs ++ [bs (Go.Lib.itoa c) ++ bs [100]]) a b c d 3 = _
    rw [bs_app]; rfl
theorem st3 (k : Nat) (X : List (List UInt8)) (hX : X.length ≤ 10) (a b c d : Int) (h : okS a b c d) : span_Text.l0 (k + 1) (X.map bs) a b c d 3 = span_Text.l0 k ((X ++ wd d 3).map bs) a b c d 4 := by
  conv => lhs; unfold span_Text.l0
  rw [if_pos (by decide), if_neg (by decide), if_neg (by decide), if_neg (by decide), if_pos rfl]
  unfold wd
  by_cases q : d = 0
  · rw [if_pos q, if_pos q, List.append_nil]; rfl
  · obtain ⟨i1, i2⟩ := itoa_f d (by unfold okS at h; omega)
    rw [if_neg q, if_neg q, i1, Option.bind_some, if_pos (by rw [bs_size]; omega), if_pos (by rw [List.length_map]; omega), List.map_append]
    show span_Text.l0 k (X.map bs ++ [bs (Go.Lib.itoa d) ++ bs [109, 115]]) a b c d 4 = _
    rw [bs_app]; rfl
theorem wd_len (n : Int) (k : Nat) : (wd n k).length ≤ 1 := by unfold wd; split <;> simp
theorem wd_size (n : Int) (h : -345600000000000 ≤ n ∧ n ≤ 345600000000000) (k : Nat) : ∀ w ∈ wd n k, w.length ≤ 25 := by
  intro w hw
  unfold wd at hw
  split at hw
  · cases hw
  · have := (itoa_f n h).2
    have hu : (un k).length ≤ 2 := by unfold un; split <;> decide
    rw [List.mem_singleton.1 hw, List.length_append]; omega
theorem jn_len (m : Nat) : ∀ ws : List (List UInt8), (∀ w ∈ ws, w.length ≤ m) → (jn ws).length ≤ ws.length * (m + 1)
  | [], _ => Nat.zero_le _
  | [w], h => by have := h w List.mem_cons_self; simp only [jn, List.length_cons, List.length_nil]; omega
  | w :: x :: ws, h => by
    have h1 := h w List.mem_cons_self
    have ih := jn_len m (x :: ws) (fun v hv => h v (List.mem_cons_of_mem _ hv))
    rw [jn_cons _ _ (by simp), List.length_append, List.length_cons, List.length_cons (a := w), Nat.succ_mul]
    omega
theorem wds_facts (a b c d : Int) (h : okS a b c d) : (wds a b c d).length ≤ 4 ∧ ∀ w ∈ wds a b c d, w.length ≤ 25 := by
  unfold okS at h
  unfold wds
  have l0 := wd_len a 0; have l1 := wd_len b 1; have l2 := wd_len c 2; have l3 := wd_len d 3
  refine ⟨by rw [List.length_append, List.length_append, List.length_append]; omega, ?_⟩
  intro w hw
  rcases List.mem_append.1 hw with h1 | hw
  · exact wd_size a (by omega) 0 w h1
  rcases List.mem_append.1 hw with h1 | hw
  · exact wd_size b (by omega) 1 w h1
  rcases List.mem_append.1 hw with h1 | hw
  · exact wd_size c (by omega) 2 w h1
  · exact wd_size d (by omega) 3 w hw
theorem text_f (a b c d : Int) (k : Nat) (hk : 10 ≤ k) : span_Text.f k a b c d = some (if okS a b c d then (bs (txt a b c d), (0 : Int)) else (bs [], 3)) := by
  unfold span_Text.f
  rw [check_f, Option.bind_some]
  by_cases h : okS a b c d
  · obtain ⟨k, rfl⟩ : ∃ q, k = q + 5 := ⟨k - 5, by omega⟩
    obtain ⟨f1, f2⟩ := wds_facts a b c d h
    have l0 := wd_len a 0; have l1 := wd_len b 1; have l2 := wd_len c 2
    rw [if_pos h, if_pos rfl, if_pos h]
    have e0 := st0 (k + 4) [] (by simp) a b c d h
    have e1 := st1 (k + 3) ([] ++ wd a 0) (by rw [List.nil_append]; omega) a b c d h
    have e2 := st2 (k + 2) ([] ++ wd a 0 ++ wd b 1) (by rw [List.nil_append, List.length_append]; omega) a b c d h
    have e3 := st3 (k + 1) ([] ++ wd a 0 ++ wd b 1 ++ wd c 2) (by rw [List.nil_append, List.length_append, List.length_append]; omega) a b c d h
    refine (e0.trans (e1.trans (e2.trans e3))).trans ?_
    have e : ([] ++ wd a 0 ++ wd b 1 ++ wd c 2 ++ wd d 3 : List (List UInt8)) = wds a b c d := by unfold wds; simp [List.append_assoc]
    rw [e]
    conv => lhs; unfold span_Text.l0
    rw [if_neg (by decide), List.length_map]
    unfold txt
    by_cases q : wds a b c d = []
    · rw [if_pos (by rw [q]; rfl), if_pos q]; rfl
    · have hl : 0 < (wds a b c d).length := List.length_pos_iff.2 q
      rw [if_neg (by omega), if_neg q]
      have hm : ((wds a b c d).map bs).map (·.data.toList) = wds a b c d := by
        rw [List.map_map]
        have : ((fun x : ByteArray => x.data.toList) ∘ bs) = id := by funext x; rfl
        rw [this, List.map_id]
      have hj := jn_len 25 _ f2
      have hJ : strings_Join.f ((wds a b c d).map bs) (⟨#[32]⟩ : ByteArray) = some (bs (jn (wds a b c d))) := by
        unfold strings_Join.f
        rw [hm]
        show (if ((wds a b c d).map bs).length ≤ 1000 ∧ (Go.Lib.join (wds a b c d) [32]).length ≤ 140737488355328 then some (bs (Go.Lib.join (wds a b c d) [32])) else none) = _
        rw [join_jn, if_pos ⟨by rw [List.length_map]; omega, by omega⟩]
      rw [hJ, Option.bind_some]
  · rw [if_neg h, if_neg (by decide), if_neg h]; rfl
theorem trimsuf_f (a b : List UInt8) (h : a.length + b.length ≤ 10000000) : strings_TrimSuffix.f (bs (a ++ b)) (bs b) = some (bs a) := by
  have hs : (bs (a ++ b)).size = a.length + b.length := by rw [bs_size, List.length_append]
  have w : Aside0 (wrap64 (((a.length + b.length : Nat) : Int) - (b.length : Int)) = (a.length : Int)) := ⟨by rw [w64_id (by omega) (by omega)]; omega⟩
  have hH : stringslite_HasSuffix.f (bs (a ++ b)) (bs b) = some true := by
    unfold stringslite_HasSuffix.f
    rw [hs, bs_size, if_pos (by omega), w.out, if_pos (by omega), if_pos (by omega), Int.toNat_natCast, bs_extract, bs_toList, bs_toList, show a.length + b.length = (a ++ b).length from (List.length_append).symm, List.take_length, List.drop_left']
    · rw [beq_self_eq_true]
    · rfl
  unfold strings_TrimSuffix.f stringslite_TrimSuffix.f
  rw [hH, Option.bind_some, if_pos rfl, hs, bs_size, w.out, if_pos (by omega), if_pos (by omega), Int.toNat_natCast, bs_extract, List.drop_zero, List.take_left' rfl, Option.bind_some]
/-- A text behind which a blank stands, word by word. -/
def sp (ws : List (List UInt8)) : List UInt8 := (ws.map (· ++ [32])).flatten
theorem sp_jn : ∀ ws : List (List UInt8), ws ≠ [] → sp ws = jn ws ++ [32]
  | [], h => absurd rfl h
  | [w], _ => by simp [sp, jn]
  | w :: x :: ws, _ => by
    have ih := sp_jn (x :: ws) (by simp)
    rw [jn_cons _ _ (by simp), List.append_assoc, List.cons_append, ← ih]
    simp [sp]
theorem sp_app (a b : List (List UInt8)) : sp (a ++ b) = sp a ++ sp b := by simp [sp]
theorem sp_wd_len (n : Int) (h : -345600000000000 ≤ n ∧ n ≤ 345600000000000) (k : Nat) : (sp (wd n k)).length ≤ 26 := by
  have := wd_size n h k
  unfold wd at this ⊢
  split
  · simp [sp]
  · rename_i q
    rw [if_neg q] at this
    have := this _ (List.mem_singleton.2 rfl)
    simp only [sp, List.map_cons, List.map_nil, List.flatten_cons, List.flatten_nil, List.append_nil, List.length_append, List.length_cons, List.length_nil] at this ⊢
    omega
theorem sp_wd (n : Int) (k : Nat) (h : n ≠ 0) : sp (wd n k) = Go.Lib.itoa n ++ (un k ++ [32]) := by
  unfold wd; rw [if_neg h]; simp [sp]
theorem sp_wd0 (k : Nat) : sp (wd 0 k) = [] := by unfold wd; rw [if_pos rfl]; rfl
theorem lj1 (k : Nat) (s : List UInt8) (hs : s.length ≤ 100) (a b c d : Int) (h : okS a b c d) : ephemerisref1_LengthText.j1 (k + 1) (bs s) a b c d = ephemerisref1_LengthText.j2 k (bs (s ++ sp (wd c 2))) a b c d := by
  rw [ephemerisref1_LengthText.j1]
  by_cases q : c = 0
  · rw [if_pos q, q, sp_wd0, List.append_nil]
  · obtain ⟨i1, i2⟩ := itoa_f c (by unfold okS at h; omega)
    rw [if_neg q, i1, Option.bind_some, if_pos (by rw [bs_size]; omega), sp_wd _ _ q]
    have e : bs (Go.Lib.itoa c) ++ (⟨#[100, 32]⟩ : ByteArray) = bs (Go.Lib.itoa c ++ (un 2 ++ [32])) := bs_app _ [100, 32]
    rw [e, if_pos (by rw [bs_size, bs_size, List.length_append]; simp only [un, List.length_append, List.length_cons, List.length_nil]; omega), bs_app]
theorem lj0 (k : Nat) (s : List UInt8) (hs : s.length ≤ 100) (a b c d : Int) (h : okS a b c d) : ephemerisref1_LengthText.j0 (k + 1) (bs s) a b c d = ephemerisref1_LengthText.j1 k (bs (s ++ sp (wd b 1))) a b c d := by
  rw [ephemerisref1_LengthText.j0]
  by_cases q : b = 0
  · rw [if_pos q, q, sp_wd0, List.append_nil]
  · obtain ⟨i1, i2⟩ := itoa_f b (by unfold okS at h; omega)
    rw [if_neg q, i1, Option.bind_some, if_pos (by rw [bs_size]; omega), sp_wd _ _ q]
    have e : bs (Go.Lib.itoa b) ++ (⟨#[109, 32]⟩ : ByteArray) = bs (Go.Lib.itoa b ++ (un 1 ++ [32])) := bs_app _ [109, 32]
    rw [e, if_pos (by rw [bs_size, bs_size, List.length_append]; simp only [un, List.length_append, List.length_cons, List.length_nil]; omega), bs_app]
theorem lj2 (k : Nat) (s : List UInt8) (hs : s.length ≤ 100) (a b c d : Int) (h : okS a b c d) (W : List (List UInt8)) (hW : s ++ sp (wd d 3) = sp W) : ephemerisref1_LengthText.j2 (k + 1) (bs s) a b c d = some (bs (if W = [] then [48, 100] else jn W)) := by
  have fin : ∀ S : List UInt8, S = sp W → S.length ≤ 1000 → (if (bs S).toList = ([] : List UInt8) then (some (⟨#[48, 100]⟩ : ByteArray)) else ((strings_TrimSuffix.f (bs S) (⟨#[32]⟩ : ByteArray)).bind fun t => (some t))) = some (bs (if W = [] then [48, 100] else jn W)) := by
    intro S hS hl
    rw [bs_toList]
    by_cases q : W = []
    · rw [if_pos q, if_pos (by rw [hS, q]; rfl)]; rfl
    · have e := sp_jn W q
      rw [if_neg q, if_neg (by rw [hS, e]; simp), hS, e]
      have : strings_TrimSuffix.f (bs (jn W ++ [32])) (⟨#[32]⟩ : ByteArray) = some (bs (jn W)) := trimsuf_f (jn W) [32] (by rw [hS, e, List.length_append] at hl; simp only [List.length_cons, List.length_nil] at hl ⊢; omega)
      rw [this, Option.bind_some]
  rw [ephemerisref1_LengthText.j2]
  by_cases q : d = 0
  · rw [q, sp_wd0, List.append_nil] at hW
    rw [if_pos q]
    exact fin s hW (by omega)
  · obtain ⟨i1, i2⟩ := itoa_f d (by unfold okS at h; omega)
    rw [sp_wd _ _ q] at hW
    have e : bs (Go.Lib.itoa d) ++ (⟨#[109, 115, 32]⟩ : ByteArray) = bs (Go.Lib.itoa d ++ (un 3 ++ [32])) := bs_app _ [109, 115, 32]
    have hl : (Go.Lib.itoa d ++ (un 3 ++ [32])).length ≤ 30 := by rw [List.length_append]; simp only [un, List.length_append, List.length_cons, List.length_nil]; omega
    rw [if_neg q, i1, Option.bind_some, if_pos (by rw [bs_size]; omega), e, if_pos (by rw [bs_size, bs_size]; omega), bs_app]
    exact fin _ hW (by rw [List.length_append]; omega)
theorem ltext_f (a b c d : Int) (h : okS a b c d) (k : Nat) (hk : 10 ≤ k) : ephemerisref1_LengthText.f k a b c d = some (bs (txt a b c d)) := by
  obtain ⟨k, rfl⟩ : ∃ q, k = q + 3 := ⟨k - 3, by omega⟩
  have h' := h
  unfold okS at h'
  have l0 := sp_wd_len a (by omega) 0; have l1 := sp_wd_len b (by omega) 1; have l2 := sp_wd_len c (by omega) 2
  have go : ∀ s : List UInt8, s = sp (wd a 0) → ephemerisref1_LengthText.j0 (k + 3) (bs s) a b c d = some (bs (txt a b c d)) := by
    rintro s rfl
    rw [lj0 (k + 2) _ (by omega) a b c d h, lj1 (k + 1) _ (by rw [List.length_append]; omega) a b c d h]
    exact lj2 k _ (by rw [List.length_append, List.length_append]; omega) a b c d h (wds a b c d) (by unfold wds; rw [sp_app, sp_app, sp_app, List.append_assoc, List.append_assoc])
  unfold ephemerisref1_LengthText.f
  by_cases q : a = 0
  · rw [if_pos q]
    exact go [] (by rw [q, sp_wd0])
  · obtain ⟨i1, i2⟩ := itoa_f a (by omega)
    have e : bs (Go.Lib.itoa a) ++ (⟨#[121, 32]⟩ : ByteArray) = bs (Go.Lib.itoa a ++ (un 0 ++ [32])) := bs_app _ [121, 32]
    rw [if_neg q, i1, Option.bind_some, if_pos (by rw [bs_size]; omega), e, if_pos (by rw [bs_size, List.length_append]; simp only [un, List.length_append, List.length_cons, List.length_nil]; omega)]
    have e2 : (⟨#[]⟩ : ByteArray) ++ bs (Go.Lib.itoa a ++ (un 0 ++ [32])) = bs (Go.Lib.itoa a ++ (un 0 ++ [32])) := bs_app [] _
    rw [e2]
    exact go _ (sp_wd a 0 q).symm
def cs : List UInt8 := [45, 48, 49, 50, 51, 52, 53, 54, 55, 56, 57]
theorem cs_iff : ∀ c : UInt8, cs.contains c = (decide (c = 45) || isDig c) := by
  have h : ∀ n : Fin 256, cs.contains (UInt8.ofNat n.1) = (decide (UInt8.ofNat n.1 = 45) || isDig (UInt8.ofNat n.1)) := by decide +kernel
  intro c
  have := h ⟨c.toNat, c.toNat_lt⟩
  simpa only [UInt8.ofNat_toNat] using this
theorem cs_itoa (n : Int) : ∀ c ∈ Go.Lib.itoa n, cs.contains c = true := by
  intro c hc
  rw [cs_iff]
  rcases itoa_bytes n c hc with h | h
  · simp [h]
  · simp [h]
theorem dropW (u : List UInt8) (hu : u = [] ∨ ∃ x r, u = x :: r ∧ cs.contains x = false) : ∀ p : List UInt8, (∀ c ∈ p, cs.contains c = true) → (p ++ u).dropWhile (cs.contains ·) = u
  | [], _ => by
    rcases hu with rfl | ⟨x, r, rfl, hx⟩
    · rfl
    · rw [List.nil_append, List.dropWhile_cons, hx]; rfl
  | c :: p, h => by
    rw [List.cons_append, List.dropWhile_cons, h c List.mem_cons_self]
    exact dropW u hu p (fun x hx => h x (List.mem_cons_of_mem _ hx))
theorem un_head (j : Nat) : ∃ x r, un j = x :: r ∧ cs.contains x = false := by
  unfold un; split <;> exact ⟨_, _, rfl, by decide⟩
theorem parts_of (w : List UInt8) : ∃ p, w = p ++ w.dropWhile (cs.contains ·) := ⟨w.takeWhile (cs.contains ·), List.takeWhile_append_dropWhile.symm⟩
/-- The unit's number. -/
def kx (u : List UInt8) : Int := if [109, 115] = u then 3 else if [100] = u then 2 else if [109] = u then 1 else if [121] = u then 0 else -1
def U4 : List ByteArray := [(⟨#[121]⟩ : ByteArray), (⟨#[109]⟩ : ByteArray), (⟨#[100]⟩ : ByteArray), (⟨#[109, 115]⟩ : ByteArray)]
theorem lr_unit (at_ : Int) (w u : List UInt8) (ws : List ByteArray) (len i : Int) (a b c d : Int) (k : Nat) :
    ephemerisref1_LengthRead.l1 (k + 5) at_ (bs w) (bs u) (-1) ws len i U4 4 0 a b c d = ephemerisref1_LengthRead.l1 (k + 1) at_ (bs w) (bs u) (kx u) ws len i U4 4 4 a b c d := by
  have step : ∀ (K : Nat) (x9 : Int) (j : Nat) (V : List UInt8), j < 4 → rdOf ByteArray.empty U4 (j : Int) = bs V → ephemerisref1_LengthRead.l1 (K + 1) at_ (bs w) (bs u) x9 ws len i U4 4 (j : Int) a b c d = ephemerisref1_LengthRead.l1 K at_ (bs w) (bs u) (if V = u then (j : Int) else x9) ws len i U4 4 ((j + 1 : Nat) : Int) a b c d := by
    intro K x9 j V hj hV
    conv => lhs; unfold ephemerisref1_LengthRead.l1
    rw [if_pos (by omega), if_pos (by omega), if_pos (by have : U4.length = 4 := rfl; omega), hV, bs_toList, bs_toList, w64s (by omega)]
    by_cases q : V = u
    · rw [if_pos q, if_pos q]
    · rw [if_neg q, if_neg q]
  have e0 := step (k + 4) (-1) 0 [121] (by decide) rfl
  have e1 := step (k + 3) (if [121] = u then ((0 : Nat) : Int) else -1) 1 [109] (by decide) rfl
  have e2 := step (k + 2) (if [109] = u then ((1 : Nat) : Int) else if [121] = u then ((0 : Nat) : Int) else -1) 2 [100] (by decide) rfl
  have e3 := step (k + 1) (if [100] = u then ((2 : Nat) : Int) else if [109] = u then ((1 : Nat) : Int) else if [121] = u then ((0 : Nat) : Int) else -1) 3 [109, 115] (by decide) rfl
  exact e0.trans (e1.trans (e2.trans e3))
theorem kx_un (j : Nat) (h : j < 4) : kx (un j) = j := by
  rcases (show j = 0 ∨ j = 1 ∨ j = 2 ∨ j = 3 by omega) with rfl | rfl | rfl | rfl <;> decide
theorem kx_back (u : List UInt8) (h : kx u ≠ -1) : ∃ j : Nat, j < 4 ∧ kx u = j ∧ u = un j := by
  unfold kx at h ⊢
  by_cases q3 : [109, 115] = u
  · exact ⟨3, by decide, by rw [if_pos q3]; rfl, q3.symm⟩
  · rw [if_neg q3] at h ⊢
    by_cases q2 : [100] = u
    · exact ⟨2, by decide, by rw [if_pos q2]; rfl, q2.symm⟩
    · rw [if_neg q2] at h ⊢
      by_cases q1 : [109] = u
      · exact ⟨1, by decide, by rw [if_pos q1]; rfl, q1.symm⟩
      · rw [if_neg q1] at h ⊢
        by_cases q0 : [121] = u
        · exact ⟨0, by decide, by rw [if_pos q0]; rfl, q0.symm⟩
        · rw [if_neg q0] at h; exact absurd rfl h
/-- One of four numbers changed. -/
def up (j : Nat) (n : Int) (v : Int × Int × Int × Int) : Int × Int × Int × Int :=
  match j with | 0 => (n, v.2.1, v.2.2.1, v.2.2.2) | 1 => (v.1, n, v.2.2.1, v.2.2.2) | 2 => (v.1, v.2.1, n, v.2.2.2) | _ => (v.1, v.2.1, v.2.2.1, n)
def L0 (k : Nat) (at_ : Int) (ws : List (List UInt8)) (i : Nat) (v : Int × Int × Int × Int) := ephemerisref1_LengthRead.l0 k at_ (ws.map bs) (ws.length : Int) (i : Int) v.1 v.2.1 v.2.2.1 v.2.2.2
theorem rdB_at (l : List (List UInt8)) (i : Nat) (h : i < l.length) : rdOf ByteArray.empty (l.map bs) (i : Int) = bs l[i] := by
  unfold rdOf
  rw [Int.toNat_natCast, List.getD_eq_getElem?_getD, List.getElem?_map, List.getElem?_eq_getElem h]; rfl
theorem trimL_f (w : List UInt8) : strings_TrimLeft.f (bs w) (⟨#[45, 48, 49, 50, 51, 52, 53, 54, 55, 56, 57]⟩ : ByteArray) = some (bs (w.dropWhile (cs.contains ·))) := by
  unfold strings_TrimLeft.f
  rw [if_pos ⟨by decide, by decide⟩]
  rfl
/-- One word of the reference's reader. -/
theorem lr_step (ws : List (List UInt8)) (hn : ws.length ≤ 2000000) (i : Nat) (hi : i < ws.length) (p u : List UInt8) (hw : ws[i] = p ++ u) (hu : (p ++ u).dropWhile (cs.contains ·) = u) (hl : (p ++ u).length ≤ 2000000) (at_ : Int) (hat : -1 ≤ at_) (v : Int × Int × Int × Int) (k : Nat) (hk : 281474976710670 ≤ k) :
    L0 (k + 6) at_ ws i v = if kx u ≤ at_ then some (0, 0, 0, 0, false) else if pOK p = true then (if pVal p = 0 then some (0, 0, 0, 0, false) else L0 k (kx u) ws (i + 1) (up (kx u).toNat (pVal p) v)) else some (0, 0, 0, 0, false) := by
  have hp := plain_f (bs p) (by rw [bs_size]; rw [List.length_append] at hl; omega) k hk
  rw [bs_list] at hp
  unfold L0
  conv => lhs; unfold ephemerisref1_LengthRead.l0
  rw [if_pos (by omega), if_pos (by omega), if_pos (by rw [List.length_map]; omega), rdB_at ws i hi, hw, trimL_f, hu, Option.bind_some, Option.bind_some]
  show ephemerisref1_LengthRead.l1 (k + 5) at_ (bs (p ++ u)) (bs u) (-1) (ws.map bs) (ws.length : Int) (i : Int) U4 4 0 v.1 v.2.1 v.2.2.1 v.2.2.2 = _
  rw [lr_unit]
  conv => lhs; unfold ephemerisref1_LengthRead.l1
  rw [if_neg (by decide), trimsuf_f p u (by rw [← List.length_append]; omega), Option.bind_some, hp, Option.bind_some, w64s (by omega)]
  by_cases q : kx u ≤ at_
  · rw [if_pos q, if_pos q]
  · rw [if_neg q, if_neg q]
    by_cases g : pOK p = true
    · rw [if_pos g, if_pos g]
      simp only [if_true]
      by_cases z : pVal p = 0
      · rw [if_pos z, if_pos z]
      · rw [if_neg z, if_neg z]
        obtain ⟨j, hj, e, _⟩ := kx_back u (by omega)
        rw [e]
        rcases (show j = 0 ∨ j = 1 ∨ j = 2 ∨ j = 3 by omega) with rfl | rfl | rfl | rfl
        · rw [if_pos (show ((0 : Nat) : Int) = 0 from rfl)]; rfl
        · rw [if_neg (by decide), if_pos (show ((1 : Nat) : Int) = 1 from rfl)]; rfl
        · rw [if_neg (by decide), if_neg (by decide), if_pos (show ((2 : Nat) : Int) = 2 from rfl)]; rfl
        · rw [if_neg (by decide), if_neg (by decide), if_neg (by decide), if_pos (show ((3 : Nat) : Int) = 3 from rfl)]; rfl
    · rw [if_neg g, if_neg g]
      simp
theorem lr_end (ws : List (List UInt8)) (at_ : Int) (v : Int × Int × Int × Int) (k : Nat) : L0 (k + 1) at_ ws ws.length v = some (v.1, v.2.1, v.2.2.1, v.2.2.2, decide (okS v.1 v.2.1 v.2.2.1 v.2.2.2)) := by
  unfold L0
  conv => lhs; unfold ephemerisref1_LengthRead.l0
  rw [if_neg (by omega), lok_f, Option.bind_some]
/-- The words so far tell the numbers so far; behind the last unit all is 0. -/
def zer (at_ : Int) (v : Int × Int × Int × Int) : Prop := (at_ < 0 → v.1 = 0) ∧ (at_ < 1 → v.2.1 = 0) ∧ (at_ < 2 → v.2.2.1 = 0) ∧ (at_ < 3 → v.2.2.2 = 0)
theorem up_wds (j : Nat) (hj : j < 4) (n : Int) (hn : n ≠ 0) (at_ : Int) (hat : at_ < j) (v : Int × Int × Int × Int) (h : zer at_ v) :
    wds (up j n v).1 (up j n v).2.1 (up j n v).2.2.1 (up j n v).2.2.2 = wds v.1 v.2.1 v.2.2.1 v.2.2.2 ++ [Go.Lib.itoa n ++ un j] ∧ zer j (up j n v) := by
  obtain ⟨z0, z1, z2, z3⟩ := h
  obtain ⟨a, b, c, d⟩ := v
  simp only at z0 z1 z2 z3
  have w0 : ∀ i, wd 0 i = [] := fun i => by unfold wd; rw [if_pos rfl]
  have wn : ∀ i, wd n i = [Go.Lib.itoa n ++ un i] := fun i => by unfold wd; rw [if_neg hn]
  rcases (show j = 0 ∨ j = 1 ∨ j = 2 ∨ j = 3 by omega) with rfl | rfl | rfl | rfl
  · have ha := z0 (by omega); have hb := z1 (by omega); have hc := z2 (by omega); have hd := z3 (by omega)
    subst ha hb hc hd
    exact ⟨by simp [wds, up, w0, wn], by simp [zer, up]⟩
  · have hb := z1 (by omega); have hc := z2 (by omega); have hd := z3 (by omega)
    subst hb hc hd
    exact ⟨by simp [wds, up, w0, wn], by simp [zer, up]⟩
  · have hc := z2 (by omega); have hd := z3 (by omega)
    subst hc hd
    exact ⟨by simp [wds, up, w0, wn], by simp [zer, up]⟩
  · have hd := z3 (by omega)
    subst hd
    exact ⟨by simp [wds, up, w0, wn], by simp [zer, up]⟩
/-- Whatever the words are: the reference's reader answers, and what it takes for a duration is written by these words. -/
theorem lr_any (ws : List (List UInt8)) (hn : ws.length ≤ 2000000) (hw : ∀ w ∈ ws, w.length ≤ 2000000) : ∀ (m i k : Nat) (at_ : Int) (v : Int × Int × Int × Int), i + m = ws.length → 281474976710680 + 6 * m ≤ k → -1 ≤ at_ → ws.take i = wds v.1 v.2.1 v.2.2.1 v.2.2.2 → zer at_ v →
    ∃ a b c d o, L0 k at_ ws i v = some (a, b, c, d, o) ∧ (o = true → okS a b c d ∧ ws = wds a b c d)
  | 0, i, k, at_, v, hi, hk, _, ht, _ => by
    obtain ⟨k, rfl⟩ : ∃ q, k = q + 1 := ⟨k - 1, by omega⟩
    obtain rfl : i = ws.length := by omega
    refine ⟨_, _, _, _, _, lr_end ws at_ v k, fun h => ?_⟩
    rw [List.take_length] at ht
    exact ⟨of_decide_eq_true h, ht⟩
  | m + 1, i, k, at_, v, hi, hk, hat, ht, hz => by
    obtain ⟨k, rfl⟩ : ∃ q, k = q + 6 := ⟨k - 6, by omega⟩
    have hlt : i < ws.length := by omega
    obtain ⟨p, hp⟩ := parts_of ws[i]
    obtain ⟨u, hu⟩ : ∃ u, ws[i].dropWhile (cs.contains ·) = u := ⟨_, rfl⟩
    rw [hu] at hp
    have hl := hw ws[i] (List.getElem_mem hlt)
    rw [lr_step ws hn i hlt p u hp (by rw [← hp]; exact hu) (by rw [← hp]; exact hl) at_ hat v k (by omega)]
    by_cases q : kx u ≤ at_
    · rw [if_pos q]; exact ⟨0, 0, 0, 0, false, rfl, fun h => by cases h⟩
    · rw [if_neg q]
      by_cases g : pOK p = true
      · rw [if_pos g]
        by_cases z : pVal p = 0
        · rw [if_pos z]; exact ⟨0, 0, 0, 0, false, rfl, fun h => by cases h⟩
        · rw [if_neg z]
          obtain ⟨j, hj, e, hun⟩ := kx_back u (by omega)
          obtain ⟨f1, f2⟩ := up_wds j hj (pVal p) z at_ (by omega) v hz
          rw [e, Int.toNat_natCast]
          refine lr_any ws hn hw m (i + 1) k j (up j (pVal p) v) (by omega) (by omega) (by omega) ?_ f2
          rw [f1, List.take_succ_eq_append_getElem hlt, ht, hp, hun, ← pOK_itoa g]
      · rw [if_neg g]; exact ⟨0, 0, 0, 0, false, rfl, fun h => by cases h⟩
/-- One number of a duration, read by the reference. -/
theorem lr_one (ws : List (List UInt8)) (hn : ws.length ≤ 2000000) (j : Nat) (hj : j < 4) (n : Int) (hnb : -345600000000000 ≤ n ∧ n ≤ 345600000000000) (i : Nat) (rest : List (List UInt8)) (hr : ws.drop i = wd n j ++ rest) (at_ : Int) (hat : -1 ≤ at_) (hlt : at_ < j) (v : Int × Int × Int × Int) (hv : n = 0 → up j n v = v) (k : Nat) (hk : 281474976710680 ≤ k) :
    ∃ i2 at2 k2, ws.drop i2 = rest ∧ -1 ≤ at2 ∧ at2 < ((j + 1 : Nat) : Int) ∧ k ≤ k2 ∧ i2 ≤ ws.length + i ∧ L0 (k + 6) at_ ws i v = L0 k2 at2 ws i2 (up j n v) := by
  by_cases q : n = 0
  · refine ⟨i, at_, k + 6, ?_, hat, by omega, by omega, by omega, by rw [hv q]⟩
    rw [hr]; unfold wd; rw [if_pos q]; rfl
  · have hwd : wd n j = [Go.Lib.itoa n ++ un j] := by unfold wd; rw [if_neg q]
    rw [hwd] at hr
    have hi : i < ws.length := by
      by_cases c : i < ws.length
      · exact c
      · rw [List.drop_of_length_le (by omega)] at hr; cases hr
    rw [List.drop_eq_getElem_cons hi] at hr
    have h1 := (List.cons.inj hr).1
    have h2 := (List.cons.inj hr).2
    have hd := dropW (un j) (.inr (un_head j)) (Go.Lib.itoa n) (cs_itoa n)
    have hl := (itoa_f n hnb).2
    have hu : (un j).length ≤ 2 := by unfold un; split <;> decide
    obtain ⟨p1, p2⟩ := itoa_pOK (n := n) (by omega) (by omega)
    refine ⟨i + 1, j, k, h2, by omega, by omega, Nat.le_refl _, by omega, ?_⟩
    rw [lr_step ws hn i hi (Go.Lib.itoa n) (un j) h1 hd (by rw [List.length_append]; omega) at_ hat v k (by omega), kx_un j hj, if_neg (by omega), if_pos p1, p2, if_neg q, Int.toNat_natCast]
theorem no32 (a b c d : Int) : ∀ w ∈ wds a b c d, (32 : UInt8) ∉ w := by
  have h1 : ∀ n k, ∀ w ∈ wd n k, (32 : UInt8) ∉ w := by
    intro n k w hw
    unfold wd at hw
    split at hw
    · cases hw
    · rw [List.mem_singleton.1 hw]
      intro g
      rcases List.mem_append.1 g with g | g
      · exact itoa_ne (by decide) (by decide) g
      · unfold un at g; revert g; split <;> decide
  intro w hw
  unfold wds at hw
  rcases List.mem_append.1 hw with h | hw
  · exact h1 _ _ w h
  rcases List.mem_append.1 hw with h | hw
  · exact h1 _ _ w h
  rcases List.mem_append.1 hw with h | hw
  · exact h1 _ _ w h
  · exact h1 _ _ w hw
theorem wds_nil {a b c d : Int} (h : wds a b c d = []) : a = 0 ∧ b = 0 ∧ c = 0 ∧ d = 0 := by
  have h1 : ∀ n k, wd n k = [] → n = 0 := by
    intro n k h
    unfold wd at h
    split at h
    · assumption
    · cases h
  unfold wds at h
  obtain ⟨ha, h⟩ := List.append_eq_nil_iff.1 h
  obtain ⟨hb, h⟩ := List.append_eq_nil_iff.1 h
  obtain ⟨hc, hd⟩ := List.append_eq_nil_iff.1 h
  exact ⟨h1 _ _ ha, h1 _ _ hb, h1 _ _ hc, h1 _ _ hd⟩
theorem spl_len : ∀ l : List UInt8, (spl l).length ≤ l.length + 1
  | [] => by simp [spl]
  | c :: r => by
    have ih := spl_len r
    unfold spl
    split
    · simp only [List.length_cons]; omega
    · split
      · simp
      · rename_i x xs he
        rw [he] at ih
        simp only [List.length_cons] at ih ⊢; omega
theorem spl_small : ∀ l : List UInt8, ∀ w ∈ spl l, w.length ≤ l.length
  | [], w, hw => by rw [List.mem_singleton.1 hw]; simp
  | c :: r, w, hw => by
    have ih := spl_small r
    unfold spl at hw
    split at hw
    · rcases List.mem_cons.1 hw with h | h
      · rw [h]; simp
      · have := ih w h; simp only [List.length_cons]; omega
    · split at hw
      · rw [List.mem_singleton.1 hw]; simp
      · rename_i x xs he
        rw [he] at ih
        rcases List.mem_cons.1 hw with h | h
        · have := ih x List.mem_cons_self; rw [h]; simp only [List.length_cons]; omega
        · have := ih w (List.mem_cons_of_mem _ h); simp only [List.length_cons]; omega
theorem zero_d (h : spl [48, 100] = [[48, 100]]) (n : Int) (j : Nat) (hn : n ≠ 0) (hb : -345600000000000 ≤ n ∧ n ≤ 345600000000000) (e : Go.Lib.itoa n ++ un j = [48, 100]) : False := by
  have hd := dropW (un j) (.inr (un_head j)) (Go.Lib.itoa n) (cs_itoa n)
  rw [e] at hd
  have hu : un j = [100] := hd.symm.trans (by decide)
  rw [hu] at e
  have hi : Go.Lib.itoa n = [48] := by
    have : Go.Lib.itoa n ++ [100] = [48] ++ [100] := e
    exact List.append_cancel_right this
  have p := (itoa_pOK (n := n) (by omega) (by omega)).2
  rw [hi] at p
  exact hn (p.symm.trans (by decide))
theorem lread_f (l : List UInt8) (hl : l.length ≤ 1048576) (k : Nat) (hk : 281474977000000 + 6 * 2000000 ≤ k) :
    (∀ a b c d, okS a b c d → txt a b c d = l → ephemerisref1_LengthRead.f k (bs l) = some (a, b, c, d, true)) ∧ (∃ a b c d o, ephemerisref1_LengthRead.f k (bs l) = some (a, b, c, d, o) ∧ (o = true → okS a b c d ∧ txt a b c d = l)) := by
  have hlen := spl_len l
  have hsm := spl_small l
  have hf : l ≠ [48, 100] → ephemerisref1_LengthRead.f k (bs l) = L0 k (-1) (spl l) 0 (0, 0, 0, 0) := by
    intro hne
    unfold ephemerisref1_LengthRead.f L0
    rw [bs_toList, if_neg hne, split_f l hl, Option.bind_some, List.length_map]
    rfl
  have hf0 : l = [48, 100] → ephemerisref1_LengthRead.f k (bs l) = some (0, 0, 0, 0, true) := by
    intro h
    unfold ephemerisref1_LengthRead.f
    rw [bs_toList, if_pos h]
  constructor
  · intro a b c d hok ht
    unfold txt at ht
    by_cases q : wds a b c d = []
    · rw [if_pos q] at ht
      obtain ⟨rfl, rfl, rfl, rfl⟩ := wds_nil q
      exact hf0 ht.symm
    · rw [if_neg q] at ht
      have hs : spl l = wds a b c d := by rw [← ht]; exact spl_jn _ q (no32 a b c d)
      have hok' := hok
      unfold okS at hok'
      have hne : l ≠ [48, 100] := by
        intro e
        have h1 : wds a b c d = [[48, 100]] := by rw [← hs, e]; decide
        have key : ∀ n k, (-345600000000000 ≤ n ∧ n ≤ 345600000000000) → [48, 100] ∈ wd n k → False := by
          intro n k hb hm
          unfold wd at hm
          split at hm
          · cases hm
          · rename_i hz
            exact zero_d (by decide) n k hz hb (List.mem_singleton.1 hm).symm
        have hm : [48, 100] ∈ wds a b c d := by rw [h1]; exact List.mem_singleton.2 rfl
        unfold wds at hm
        rcases List.mem_append.1 hm with h | hm
        · exact key a 0 (by omega) h
        rcases List.mem_append.1 hm with h | hm
        · exact key b 1 (by omega) h
        rcases List.mem_append.1 hm with h | hm
        · exact key c 2 (by omega) h
        · exact key d 3 (by omega) hm
      rw [hf hne, hs]
      have hn4 : (wds a b c d).length ≤ 4 := (wds_facts a b c d hok).1
      generalize hW : wds a b c d = W at hn4
      have h0 : W.drop 0 = wd a 0 ++ (wd b 1 ++ (wd c 2 ++ wd d 3)) := by rw [← hW]; rfl
      obtain ⟨k, rfl⟩ : ∃ q, k = q + 6 := ⟨k - 6, by omega⟩
      obtain ⟨i1, t1, k1, r1, s1, u1, m1, _, e1⟩ := lr_one W (by omega) 0 (by decide) a (by omega) 0 _ h0 (-1) (by omega) (by omega) (0, 0, 0, 0) (fun h => by rw [h]; rfl) k (by omega)
      obtain ⟨k1, rfl⟩ : ∃ q, k1 = q + 6 := ⟨k1 - 6, by omega⟩
      obtain ⟨i2, t2, k2, r2, s2, u2, m2, _, e2⟩ := lr_one W (by omega) 1 (by decide) b (by omega) i1 _ r1 t1 s1 u1 (a, 0, 0, 0) (fun h => by rw [h]; rfl) k1 (by omega)
      obtain ⟨k2, rfl⟩ : ∃ q, k2 = q + 6 := ⟨k2 - 6, by omega⟩
      obtain ⟨i3, t3, k3, r3, s3, u3, m3, _, e3⟩ := lr_one W (by omega) 2 (by decide) c (by omega) i2 _ r2 t2 s2 u2 (a, b, 0, 0) (fun h => by rw [h]; rfl) k2 (by omega)
      obtain ⟨k3, rfl⟩ : ∃ q, k3 = q + 6 := ⟨k3 - 6, by omega⟩
      obtain ⟨i4, t4, k4, r4, s4, u4, m4, _, e4⟩ := lr_one W (by omega) 3 (by decide) d (by omega) i3 [] (by rw [List.append_nil]; exact r3) t3 s3 u3 (a, b, c, 0) (fun h => by rw [h]; rfl) k3 (by omega)
      refine (e1.trans (e2.trans (e3.trans e4))).trans ?_
      show L0 k4 t4 W i4 (a, b, c, d) = _
      obtain ⟨k4, rfl⟩ : ∃ q, k4 = q + 1 := ⟨k4 - 1, by omega⟩
      have hi4 : W.length ≤ i4 := by
        have := congrArg List.length r4
        rw [List.length_drop, List.length_nil] at this; omega
      unfold L0
      conv => lhs; unfold ephemerisref1_LengthRead.l0
      rw [if_neg (by omega), lok_f, Option.bind_some, decide_eq_true hok]
  · by_cases q : l = [48, 100]
    · exact ⟨0, 0, 0, 0, true, hf0 q, fun _ => ⟨by decide, q.symm⟩⟩
    · rw [hf q]
      obtain ⟨a, b, c, d, o, h1, h2⟩ := lr_any (spl l) (by omega) (fun w hw => by have := hsm w hw; omega) (spl l).length 0 k (-1) (0, 0, 0, 0) (by omega) (by omega) (by omega) rfl (by unfold zer; simp)
      refine ⟨a, b, c, d, o, h1, fun ho => ?_⟩
      obtain ⟨g1, g2⟩ := h2 ho
      refine ⟨g1, ?_⟩
      unfold txt
      rw [if_neg (by rw [← g2]; exact spl_ne l), ← g2, jn_spl]
def S0 (l : List UInt8) (k : Nat) (ws : List (List UInt8)) (i : Nat) (v : Int × Int × Int × Int) := span_Read.l0 k (bs l) (ws.map bs) (ws.length : Int) (i : Int) v.1 v.2.1 v.2.2.1 v.2.2.2
def S1 (l w : List UInt8) (k e : Nat) (ws : List (List UInt8)) (i : Nat) (v : Int × Int × Int × Int) := span_Read.l1 k (bs l) (bs w) (e : Int) (ws.map bs) (ws.length : Int) (i : Int) v.1 v.2.1 v.2.2.1 v.2.2.2
def S2 (l w : List UInt8) (k e : Nat) (ws : List (List UInt8)) (i : Nat) (v : Int × Int × Int × Int) := span_Read.j2 k (bs l) (bs w) (e : Int) (ws.map bs) (ws.length : Int) (i : Int) v.1 v.2.1 v.2.2.1 v.2.2.2
def low (c : UInt8) : Prop := 97 ≤ c.toNat ∧ c.toNat ≤ 122
theorem s1_step (l w : List UInt8) (hw : w.length ≤ 2000000) (k e : Nat) (he : e + 1 ≤ w.length) (ws : List (List UInt8)) (i : Nat) (v : Int × Int × Int × Int) :
    (low (w[e]'he) → S1 l w (k + 1) (e + 1) ws i v = S1 l w k e ws i v) ∧ (¬ low (w[e]'he) → S1 l w (k + 1) (e + 1) ws i v = S2 l w k (e + 1) ws i v) := by
  have hb : bt (bs w) (e : Int) = ((w[e]'he).toNat : Int) := bs_bt w e he
  have hw1 : Aside0 (wrap64 (((e + 1 : Nat) : Int) - 1) = (e : Int)) := ⟨by rw [w64p (by omega) (by omega)]; rfl⟩
  unfold S1 S2
  constructor
  · intro h
    unfold low at h
    conv => lhs; unfold span_Read.l1
    rw [hw1.out, if_pos (by omega), if_pos (by omega), if_pos (by rw [bs_size]; omega), hb, if_pos (by omega), if_pos (by omega)]
  · intro h
    unfold low at h
    conv => lhs; unfold span_Read.l1
    rw [hw1.out, if_pos (by omega), if_pos (by omega), if_pos (by rw [bs_size]; omega), hb]
    by_cases q : (97 : Int) ≤ ((w[e]'he).toNat : Int)
    · rw [if_pos q, if_neg (by omega)]
    · rw [if_neg q]
theorem s1_zero (l w : List UInt8) (k : Nat) (ws : List (List UInt8)) (i : Nat) (v : Int × Int × Int × Int) : S1 l w (k + 1) 0 ws i v = S2 l w k 0 ws i v := by
  unfold S1 S2
  conv => lhs; unfold span_Read.l1
  rw [if_neg (by omega)]
theorem s1_any (l w : List UInt8) (hw : w.length ≤ 2000000) (ws : List (List UInt8)) (i : Nat) (v : Int × Int × Int × Int) : ∀ (e k : Nat), e ≤ w.length → ∃ e2 k2, e2 ≤ w.length ∧ k ≤ k2 ∧ S1 l w (k + e + 1) e ws i v = S2 l w k2 e2 ws i v
  | 0, k, _ => ⟨0, k, Nat.zero_le _, Nat.le_refl _, s1_zero l w k ws i v⟩
  | e + 1, k, he => by
    obtain ⟨h1, h2⟩ := s1_step l w hw (k + e + 1) e he ws i v
    by_cases q : low (w[e]'he)
    · obtain ⟨e2, k2, f1, f2, f3⟩ := s1_any l w hw ws i v e k (by omega)
      exact ⟨e2, k2, f1, f2, (h1 q).trans f3⟩
    · exact ⟨e + 1, k + e + 1, he, by omega, h2 q⟩
theorem s1_word (l p u : List UInt8) (hw : (p ++ u).length ≤ 2000000) (hp : ∀ c ∈ p, ¬ low c) (hne : p ≠ []) (hu : ∀ c ∈ u, low c) (ws : List (List UInt8)) (i : Nat) (v : Int × Int × Int × Int) (k : Nat) : ∀ m, m ≤ u.length → S1 l (p ++ u) (k + m + 1) (p.length + m) ws i v = S2 l (p ++ u) k p.length ws i v
  | 0, _ => by
    obtain ⟨q, hq⟩ : ∃ q, p.length = q + 1 := ⟨p.length - 1, by have := List.length_pos_iff.2 hne; omega⟩
    have hlt : q + 1 ≤ (p ++ u).length := by rw [List.length_append]; omega
    have h := (s1_step l (p ++ u) hw k q hlt ws i v).2
    have hc : (p ++ u)[q]'hlt = p[q]'(by omega) := List.getElem_append_left (by omega)
    rw [hc] at h
    rw [Nat.add_zero, Nat.add_zero, hq]
    exact h (hp _ (List.getElem_mem _))
  | m + 1, hm => by
    have hlt : p.length + m + 1 ≤ (p ++ u).length := by rw [List.length_append]; omega
    have h := (s1_step l (p ++ u) hw (k + m + 1) (p.length + m) hlt ws i v).1
    have hc : (p ++ u)[p.length + m]'hlt = u[m]'(by omega) := by rw [List.getElem_append_right (by omega)]; simp only [Nat.add_sub_cancel_left]
    rw [hc] at h
    exact (h (hu _ (List.getElem_mem _))).trans (s1_word l p u hw hp hne hu ws i v k m (by omega))
/-- What a word changes. -/
def upd (u : List UInt8) (n : Int) (v : Int × Int × Int × Int) : Int × Int × Int × Int := if u = [121] then up 0 n v else if u = [109] then up 1 n v else if u = [100] then up 2 n v else if u = [109, 115] then up 3 n v else v
theorem s2_step (l w : List UInt8) (hw : w.length ≤ 2000000) (k e : Nat) (he : e ≤ w.length) (ws : List (List UInt8)) (i : Nat) (hi : i ≤ 2000000) (v : Int × Int × Int × Int) :
    S2 l w (k + 1) e ws i v = if (strconv_Atoi.g (w.take e)).2.isNone = true then S0 l k ws (i + 1) (upd (w.drop e) (strconv_Atoi.g (w.take e)).1 v) else some (0, 0, 0, 0, 4) := by
  have ha : strconv_Atoi.f ((bs w).extract 0 ((e : Int)).toNat) = some (strconv_Atoi.g (w.take e)) := by
    rw [Int.toNat_natCast, bs_extract, List.drop_zero, atoi_f _ (by rw [bs_size, List.length_take]; omega), bs_list]
  have hd : ((bs w).extract ((e : Int)).toNat (bs w).size).toList = w.drop e := by rw [Int.toNat_natCast, bs_from, bs_toList]
  unfold S2 S0
  conv => lhs; unfold span_Read.j2
  rw [if_pos (by omega), if_pos (by rw [bs_size]; omega), ha, Option.bind_some, hd, w64s (by omega)]
  generalize strconv_Atoi.g (w.take e) = g
  by_cases q : g.2.isNone = true
  · rw [if_pos q, if_pos q]
    unfold upd
    by_cases q0 : w.drop e = [121]
    · rw [if_pos q0, if_pos q0]; rfl
    · rw [if_neg q0, if_neg q0]
      by_cases q1 : w.drop e = [109]
      · rw [if_pos q1, if_pos q1]; rfl
      · rw [if_neg q1, if_neg q1]
        by_cases q2 : w.drop e = [100]
        · rw [if_pos q2, if_pos q2]; rfl
        · rw [if_neg q2, if_neg q2]
          by_cases q3 : w.drop e = [109, 115]
          · rw [if_pos q3, if_pos q3]; rfl
          · rw [if_neg q3, if_neg q3]
  · rw [if_neg q, if_neg q]
theorem s0_word (l : List UInt8) (ws : List (List UInt8)) (i : Nat) (hi : i < ws.length) (v : Int × Int × Int × Int) (k : Nat) : S0 l (k + 1) ws i v = S1 l ws[i] k ws[i].length ws i v := by
  unfold S0 S1
  conv => lhs; unfold span_Read.l0
  rw [if_pos (by omega), if_pos (by omega), if_pos (by rw [List.length_map]; omega), rdB_at ws i hi, bs_size]
theorem s0_end (l : List UInt8) (ws : List (List UInt8)) (i : Nat) (hi : ws.length ≤ i) (v : Int × Int × Int × Int) (k : Nat) (hk : 10 ≤ k) : S0 l (k + 1) ws i v = if okS v.1 v.2.1 v.2.2.1 v.2.2.2 ∧ txt v.1 v.2.1 v.2.2.1 v.2.2.2 = l then some (v.1, v.2.1, v.2.2.1, v.2.2.2, 0) else some (0, 0, 0, 0, 4) := by
  unfold S0
  conv => lhs; unfold span_Read.l0
  rw [if_neg (by omega), text_f _ _ _ _ k hk, Option.bind_some]
  by_cases h : okS v.1 v.2.1 v.2.2.1 v.2.2.2
  · rw [if_pos h]
    simp only [if_true, bs_toList]
    by_cases q : txt v.1 v.2.1 v.2.2.1 v.2.2.2 = l
    · rw [if_pos q, if_pos ⟨h, q⟩]
    · rw [if_neg q, if_neg (fun g => q g.2)]
  · have e : ¬ (okS v.1 v.2.1 v.2.2.1 v.2.2.2 ∧ txt v.1 v.2.1 v.2.2.1 v.2.2.2 = l) := fun g => h g.1
    rw [if_neg h, if_neg e]
    rfl
theorem s0_any (l : List UInt8) (ws : List (List UInt8)) (hn : ws.length ≤ 2000000) (hw : ∀ w ∈ ws, w.length ≤ 2000000) (M : Nat) (hM : 2000010 ≤ M) : ∀ (m i k : Nat) (v : Int × Int × Int × Int), i + m = ws.length → 20 + m * M ≤ k →
    ∃ a b c d o, S0 l k ws i v = some (a, b, c, d, o) ∧ ((o = 0 ∧ okS a b c d ∧ txt a b c d = l) ∨ (a = 0 ∧ b = 0 ∧ c = 0 ∧ d = 0 ∧ o = 4))
  | 0, i, k, v, hi, hk => by
    obtain ⟨k, rfl⟩ : ∃ q, k = q + 1 := ⟨k - 1, by omega⟩
    rw [s0_end l ws i (by omega) v k (by omega)]
    by_cases q : okS v.1 v.2.1 v.2.2.1 v.2.2.2 ∧ txt v.1 v.2.1 v.2.2.1 v.2.2.2 = l
    · rw [if_pos q]; exact ⟨_, _, _, _, _, rfl, .inl ⟨rfl, q.1, q.2⟩⟩
    · rw [if_neg q]; exact ⟨_, _, _, _, _, rfl, .inr ⟨rfl, rfl, rfl, rfl, rfl⟩⟩
  | m + 1, i, k, v, hi, hk => by
    have hlt : i < ws.length := by omega
    have hl := hw ws[i] (List.getElem_mem hlt)
    rw [Nat.succ_mul] at hk
    obtain ⟨k3, rfl⟩ : ∃ q, k = q + 1 + ws[i].length + 1 + 1 := ⟨k - ws[i].length - 3, by omega⟩
    rw [s0_word l ws i hlt v]
    obtain ⟨e2, k2, f1, f2, f3⟩ := s1_any l ws[i] hl ws i v ws[i].length (k3 + 1) (Nat.le_refl _)
    rw [f3]
    obtain ⟨k2, rfl⟩ : ∃ q, k2 = q + 1 := ⟨k2 - 1, by omega⟩
    rw [s2_step l ws[i] hl k2 e2 f1 ws i (by omega) v]
    by_cases q : (strconv_Atoi.g (ws[i].take e2)).2.isNone = true
    · rw [if_pos q]
      exact s0_any l ws hn hw M hM m (i + 1) k2 _ (by omega) (by omega)
    · rw [if_neg q]; exact ⟨_, _, _, _, _, rfl, .inr ⟨rfl, rfl, rfl, rfl, rfl⟩⟩
theorem un_low (j : Nat) : (∀ c ∈ un j, low c) ∧ (un j).length ≤ 2 := by
  have h : ∀ l : List UInt8, l = [121] ∨ l = [109] ∨ l = [100] ∨ l = [109, 115] → (∀ c ∈ l, low c) ∧ l.length ≤ 2 := by
    intro l hl
    unfold low
    rcases hl with rfl | rfl | rfl | rfl <;> exact ⟨by decide, by decide⟩
  apply h
  unfold un
  split <;> simp
theorem itoa_low (n : Int) : ∀ c ∈ Go.Lib.itoa n, ¬ low c := by
  intro c hc hl
  unfold low at hl
  rcases itoa_bytes n c hc with h | h
  · rw [h] at hl; exact absurd hl (by decide)
  · have := (isDig_iff c).1 h; omega
theorem upd_un (j : Nat) (hj : j < 4) (n : Int) (v : Int × Int × Int × Int) : upd (un j) n v = up j n v := by
  rcases (show j = 0 ∨ j = 1 ∨ j = 2 ∨ j = 3 by omega) with rfl | rfl | rfl | rfl
  · rfl
  · rfl
  · rfl
  · rfl
theorem s0_num (l : List UInt8) (ws : List (List UInt8)) (hn : ws.length ≤ 2000000) (j : Nat) (hj : j < 4) (n : Int) (hnb : -345600000000000 ≤ n ∧ n ≤ 345600000000000) (i : Nat) (hi : i < ws.length) (hw : ws[i] = Go.Lib.itoa n ++ un j) (v : Int × Int × Int × Int) (k : Nat) : ∃ k2, k ≤ k2 ∧ S0 l (k + 10) ws i v = S0 l k2 ws (i + 1) (up j n v) := by
  obtain ⟨u1, u2⟩ := un_low j
  have hl := (itoa_f n hnb).2
  have hlen : (Go.Lib.itoa n ++ un j).length ≤ 2000000 := by rw [List.length_append]; omega
  obtain ⟨k3, hk3⟩ : ∃ k3, k + 9 = (k3 + 1) + (un j).length + 1 := ⟨k + 7 - (un j).length, by omega⟩
  have hg : strconv_Atoi.g (Go.Lib.itoa n) = (n, none) := by unfold strconv_Atoi.g; rw [atoi_itoa (by omega) (by omega)]
  have h1 := s1_word l (Go.Lib.itoa n) (un j) hlen (itoa_low n) (itoa_nil n) u1 ws i v (k3 + 1) (un j).length (Nat.le_refl _)
  have h2 := s2_step l (Go.Lib.itoa n ++ un j) hlen k3 (Go.Lib.itoa n).length (by rw [List.length_append]; omega) ws i (by omega) v
  rw [List.take_left' rfl, List.drop_left' rfl, hg, upd_un j hj] at h2
  refine ⟨k3, by omega, ?_⟩
  rw [s0_word l ws i hi v (k + 9), hw, hk3, List.length_append, h1, h2]
  rfl
theorem s0_one (l : List UInt8) (ws : List (List UInt8)) (hn : ws.length ≤ 2000000) (j : Nat) (hj : j < 4) (n : Int) (hnb : -345600000000000 ≤ n ∧ n ≤ 345600000000000) (i : Nat) (rest : List (List UInt8)) (hr : ws.drop i = wd n j ++ rest) (v : Int × Int × Int × Int) (hv : n = 0 → up j n v = v) (k : Nat) :
    ∃ i2 k2, ws.drop i2 = rest ∧ k ≤ k2 ∧ S0 l (k + 10) ws i v = S0 l k2 ws i2 (up j n v) := by
  by_cases q : n = 0
  · refine ⟨i, k + 10, ?_, by omega, by rw [hv q]⟩
    rw [hr]; unfold wd; rw [if_pos q]; rfl
  · have hwd : wd n j = [Go.Lib.itoa n ++ un j] := by unfold wd; rw [if_neg q]
    rw [hwd] at hr
    have hi : i < ws.length := by
      by_cases c : i < ws.length
      · exact c
      · rw [List.drop_of_length_le (by omega)] at hr; cases hr
    rw [List.drop_eq_getElem_cons hi] at hr
    obtain ⟨k2, h1, h2⟩ := s0_num l ws hn j hj n hnb i hi (List.cons.inj hr).1 v k
    exact ⟨i + 1, k2, (List.cons.inj hr).2, h1, h2⟩
theorem sread_f (l : List UInt8) (hl : l.length ≤ 1048576) (M : Nat) (hM : 2000010 ≤ M) (k : Nat) (hk : 100 + 2000000 * M ≤ k) :
    (∀ a b c d, okS a b c d → txt a b c d = l → span_Read.f k (bs l) = some (a, b, c, d, 0)) ∧ (∃ a b c d o, span_Read.f k (bs l) = some (a, b, c, d, o) ∧ ((o = 0 ∧ okS a b c d ∧ txt a b c d = l) ∨ (a = 0 ∧ b = 0 ∧ c = 0 ∧ d = 0 ∧ o = 4))) := by
  have hlen := spl_len l
  have hsm := spl_small l
  have hf : span_Read.f k (bs l) = S0 l k (spl l) 0 (0, 0, 0, 0) := by
    unfold span_Read.f S0
    rw [split_f l hl, Option.bind_some, List.length_map]
    rfl
  have hk2 : 100 ≤ k := by have := Nat.zero_le (2000000 * M); omega
  constructor
  · intro a b c d hok ht
    rw [hf]
    have hok' := hok
    unfold okS at hok'
    have hfin : ∀ (W : List (List UInt8)) (i k : Nat), W.length ≤ i → 11 ≤ k → S0 l k W i (a, b, c, d) = some (a, b, c, d, 0) := by
      intro W i k hi hk
      obtain ⟨k, rfl⟩ : ∃ q, k = q + 1 := ⟨k - 1, by omega⟩
      rw [s0_end l W i hi (a, b, c, d) k (by omega)]
      exact if_pos ⟨hok, ht⟩
    by_cases q : wds a b c d = []
    · have ht2 := ht
      unfold txt at ht2
      rw [if_pos q] at ht2
      obtain ⟨rfl, rfl, rfl, rfl⟩ := wds_nil q
      have hs : spl l = [[48, 100]] := by rw [← ht2]; decide
      rw [hs]
      obtain ⟨k, rfl⟩ : ∃ q, k = q + 10 := ⟨k - 10, by omega⟩
      have h0 : Go.Lib.itoa 0 ++ un 2 = [48, 100] := by
        have : Go.Lib.itoa 0 = [48] := by decide +kernel
        rw [this]; rfl
      obtain ⟨k2, h1, h2⟩ := s0_num l [[48, 100]] (by decide) 2 (by decide) 0 (by decide) 0 (by decide) h0.symm (0, 0, 0, 0) k
      rw [h2]
      exact hfin _ 1 k2 (by decide) (by omega)
    · have ht2 := ht
      unfold txt at ht2
      rw [if_neg q] at ht2
      have hs : spl l = wds a b c d := by rw [← ht2]; exact spl_jn _ q (no32 a b c d)
      rw [hs]
      have hn4 : (wds a b c d).length ≤ 4 := (wds_facts a b c d hok).1
      generalize hW : wds a b c d = W at hn4
      have h0 : W.drop 0 = wd a 0 ++ (wd b 1 ++ (wd c 2 ++ wd d 3)) := by rw [← hW]; rfl
      obtain ⟨k, rfl⟩ : ∃ q, k = q + 60 := ⟨k - 60, by omega⟩
      obtain ⟨i1, k1, r1, m1, e1⟩ := s0_one l W (by omega) 0 (by decide) a (by omega) 0 _ h0 (0, 0, 0, 0) (fun h => by rw [h]; rfl) (k + 50)
      obtain ⟨k1, rfl⟩ : ∃ q, k1 = q + 10 := ⟨k1 - 10, by omega⟩
      obtain ⟨i2, k2, r2, m2, e2⟩ := s0_one l W (by omega) 1 (by decide) b (by omega) i1 _ r1 (a, 0, 0, 0) (fun h => by rw [h]; rfl) k1
      obtain ⟨k2, rfl⟩ : ∃ q, k2 = q + 10 := ⟨k2 - 10, by omega⟩
      obtain ⟨i3, k3, r3, m3, e3⟩ := s0_one l W (by omega) 2 (by decide) c (by omega) i2 _ r2 (a, b, 0, 0) (fun h => by rw [h]; rfl) k2
      obtain ⟨k3, rfl⟩ : ∃ q, k3 = q + 10 := ⟨k3 - 10, by omega⟩
      obtain ⟨i4, k4, r4, m4, e4⟩ := s0_one l W (by omega) 3 (by decide) d (by omega) i3 [] (by rw [List.append_nil]; exact r3) (a, b, c, 0) (fun h => by rw [h]; rfl) k3
      refine (e1.trans (e2.trans (e3.trans e4))).trans ?_
      have hi4 : W.length ≤ i4 := by
        have := congrArg List.length r4
        rw [List.length_drop, List.length_nil] at this; omega
      exact hfin W i4 k4 hi4 (by omega)
  · rw [hf]
    have hmul : (spl l).length * M ≤ 2000000 * M := Nat.mul_le_mul_right M (by omega)
    exact s0_any l (spl l) (by omega) (fun w hw => by have := hsm w hw; omega) M hM (spl l).length 0 k (0, 0, 0, 0) (by omega) (by omega)

theorem both (l : List UInt8) (hl : l.length ≤ 1048576) (M : Nat) (hM : 2000010 ≤ M) (k : Nat) (hk : 100 + 2000000 * M ≤ k) (hk2 : 281474977000000 + 6 * 2000000 ≤ k) : ephemerislaw1_SpanChecks.j1 (k + 1) (bs l) = some true := by
  obtain ⟨s1, a, b, c, d, o, s2, s3⟩ := sread_f l hl M hM k hk
  obtain ⟨r1, a', b', c', d', o', r2, r3⟩ := lread_f l hl k hk2
  rw [ephemerislaw1_SpanChecks.j1]
  by_cases h : o = 0 ∧ okS a b c d ∧ txt a b c d = l
  · rw [s2, Option.bind_some, r1 a b c d h.2.1 h.2.2, Option.bind_some]
    simp [h.1]
  · have hz : a = 0 ∧ b = 0 ∧ c = 0 ∧ d = 0 ∧ o = 4 := s3.resolve_left h
    obtain ⟨rfl, rfl, rfl, rfl, rfl⟩ := hz
    have ho : o' = false := by
      cases q : o'
      · rfl
      · exfalso
        obtain ⟨g1, g2⟩ := r3 q
        have := s1 a' b' c' d' g1 g2
        rw [s2] at this
        injection this with this
        simp at this
    rw [s2, Option.bind_some, r2, Option.bind_some, ho]
    rfl
theorem SpanChecks (a b c d : Int) (s : ByteArray) (ha : (Lit.int .i64 a).wf = true) (hb : (Lit.int .i64 b).wf = true) (hc : (Lit.int .i64 c).wf = true) (hd : (Lit.int .i64 d).wf = true) (hs0 : s.size ≤ 140737488351232) (hs : s.size ≤ 1048576) : ∃ k, ephemerislaw1_SpanChecks.f k a b c d s = some true := by
  obtain ⟨M, hM⟩ : ∃ M : Nat, 2000010 ≤ M := ⟨_, Nat.le_refl _⟩
  obtain ⟨k, hk, hk2⟩ : ∃ k : Nat, 100 + 2000000 * M ≤ k ∧ 281474977000000 + 6 * 2000000 ≤ k := ⟨100 + 2000000 * M + (281474977000000 + 6 * 2000000), Nat.le_add_right _ _, Nat.le_add_left _ _⟩
  have hk3 : 10 ≤ k := by have := Nat.zero_le (2000000 * M); omega
  obtain ⟨l, rfl⟩ : ∃ l, s = bs l := ⟨_, bs_of s⟩
  have hB := both l (by rw [bs_size] at hs; exact hs) M hM k hk hk2
  refine ⟨k + 2, ?_⟩
  have e : span_Text.f (k + 2) 0 1 (-2) 0 = some (bs [49, 109, 32, 45, 50, 100], 0) := (text_f 0 1 (-2) 0 (k + 2) (by omega)).trans (by
    rw [if_pos (by decide)]
    rw [show txt 0 1 (-2) 0 = [49, 109, 32, 45, 50, 100] by decide +kernel])
  unfold ephemerislaw1_SpanChecks.f
  rw [e, Option.bind_some, if_pos (by rw [bs_toList])]
  show ephemerislaw1_SpanChecks.j0 (k + 1 + 1) (bs l) false a b c d = some true
  rw [ephemerislaw1_SpanChecks.j0, if_neg (by decide), text_f a b c d (k + 1) (by omega), Option.bind_some, lok_f, Option.bind_some, check_f]
  by_cases h : okS a b c d
  · rw [if_pos (decide_eq_true h), if_pos h, Option.bind_some, if_pos rfl, if_pos h, if_pos rfl, ltext_f a b c d h (k + 1) (by omega), Option.bind_some, if_pos rfl]
    exact hB
  · rw [if_neg (by rw [decide_eq_true_eq]; exact h), if_neg h, Option.bind_some, if_pos rfl, if_neg h, if_pos (by rw [bs_toList]), if_pos rfl]
    exact hB
end Go.Proofs.YtcmanidhilkhnaaDoor.Pure
