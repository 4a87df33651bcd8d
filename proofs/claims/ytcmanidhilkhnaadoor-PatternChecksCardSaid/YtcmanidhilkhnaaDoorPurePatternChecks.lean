/- The law PatternChecks over numbers and lists: what the law's functions tell, and that the law holds. -/
import Derived.Test.YtcmanidhilkhnaaDoorPPatternChecksx5
import Derived.Test.YtcmanidhilkhnaaDoorM
import Derived.Test.YtcmanidhilkhnaaDoorO
import Derived.Test.YtcmanidhilkhnaaDoorE
import Derived.Test.YtcmanidhilkhnaaDoorT
import Derived.Test.YtcmanidhilkhnaaDoorA
namespace Go.Proofs.YtcmanidhilkhnaaDoor.Pure
open Go.RowKit Go.Proofs.YtcmanidhilkhnaaDoor.PPatternChecks Go.Proofs.YtcmanidhilkhnaaDoorW.PrintWords Go.Proofs.YtcmanidhilkhnaaDoorW.PrintLast Go.Proofs.YtcmanidhilkhnaaDoor.M Go.Proofs.YtcmanidhilkhnaaDoor.O Go.Proofs.YtcmanidhilkhnaaDoor.E Go.Proofs.YtcmanidhilkhnaaDoor.T Go.Proofs.YtcmanidhilkhnaaDoor.A
set_option linter.unusedVariables false
set_option linter.unusedSimpArgs false
/-- The law over numbers and lists. -/
def ephemerislaw1_PatternChecks.Pure : Prop := ∀ (a0 : ByteArray), a0.size ≤ 140737488351232 → ∃ k, ephemerislaw1_PatternChecks.f k a0 = some true

/-- The names of the items. -/
def nms : List (List UInt8) := [[121], [109], [100], [121, 52], [109, 50], [100, 50], [110, 97, 109, 101], [119]]
def brace (c : UInt8) : Bool := ([123, 125] : List UInt8).contains c
def fnd (r : List UInt8) : Option (List UInt8) := nms.find? fun n => (n ++ [125]).isPrefixOf r
def fl (t : List UInt8) (L : List (Bool × List UInt8)) : List (Bool × List UInt8) := if t = [] then L else (false, t) :: L
/-- The items of a pattern: the first number tells how many bytes are passed yet, the first list is the text under way. -/
def tok : Nat → List UInt8 → List UInt8 → Option (List (Bool × List UInt8))
  | _, t, [] => some (fl t [])
  | s + 1, t, _ :: r => tok s t r
  | 0, t, c :: r => if c = 125 then none else if c = 123 then (match fnd r with | none => none | some n => (tok (n.length + 1) [] r).map fun L => fl t ((true, n) :: L)) else tok 0 (t ++ [c]) r
theorem tok_skip : ∀ (s : Nat) (t r : List UInt8), tok s t r = tok 0 t (r.drop s)
  | 0, _, _ => by rw [List.drop_zero]
  | s + 1, t, [] => by rw [List.drop_nil]; simp only [tok]
  | s + 1, t, c :: r => by rw [List.drop_succ_cons, ← tok_skip s t r]; simp only [tok]
theorem tok_text : ∀ (u t r : List UInt8), (∀ b ∈ u, brace b = false) → tok 0 t (u ++ r) = tok 0 (t ++ u) r
  | [], t, r, _ => by rw [List.nil_append, List.append_nil]
  | c :: u, t, r, h => by
    have hc := h c List.mem_cons_self
    have h1 : c ≠ 125 := by rintro rfl; cases hc
    have h2 : c ≠ 123 := by rintro rfl; cases hc
    rw [List.cons_append, tok, if_neg h1, if_neg h2, tok_text u (t ++ [c]) r (fun b hb => h b (List.mem_cons_of_mem _ hb)), List.append_assoc]
    rfl
theorem tok_flush (u : List UInt8) (hu : u ≠ []) (r : List UInt8) (hr : r = [] ∨ ∃ c s, r = c :: s ∧ brace c = true) : tok 0 u r = (tok 0 [] r).map ((false, u) :: ·) := by
  rcases hr with rfl | ⟨c, s, rfl, hc⟩
  · simp only [tok, fl, if_neg hu, Option.map_some]; rfl
  · have h1 : c = 123 ∨ c = 125 := by simpa [brace] using hc
    rcases h1 with rfl | rfl
    · rw [tok, tok, if_neg (by decide), if_pos rfl, if_neg (by decide), if_pos rfl]
      cases fnd s with
      | none => rfl
      | some n =>
        show (tok (n.length + 1) [] s).map _ = ((tok (n.length + 1) [] s).map _).map _
        rw [Option.map_map]
        congr 1
        funext L
        simp only [fl, if_neg hu, if_true, Function.comp]
    · rw [tok, tok, if_pos rfl, if_pos rfl]; rfl
theorem pre_f (a b : List UInt8) (ha : a.length ≤ 1000) (hb : b.length ≤ 1000) : strings_HasPrefix.f (bs a) (bs b) = some (b.isPrefixOf a) := by
  unfold strings_HasPrefix.f stringslite_HasPrefix.f
  rw [bs_size, bs_size]
  by_cases h : b.length ≤ a.length
  · rw [if_pos (by omega), if_pos (by omega), if_pos (by omega), Option.bind_some, Int.toNat_natCast, bs_extract, bs_toList, bs_toList, List.drop_zero]
    congr 1
    rw [Bool.eq_iff_iff, beq_iff_eq, List.isPrefixOf_iff_prefix, List.prefix_iff_eq_take]
    exact ⟨fun e => e.symm, fun e => e.symm⟩
  · rw [if_neg (by omega), Option.bind_some]
    congr 1
    symm
    cases hq : b.isPrefixOf a
    · rfl
    · exact absurd (List.IsPrefix.length_le (List.isPrefixOf_iff_prefix.1 hq)) h
theorem u8i (c d : UInt8) : ((c.toNat : Int) = (d.toNat : Int)) ↔ c = d :=
  ⟨fun h => UInt8.toNat_inj.1 (Int.ofNat.inj h), fun h => by rw [h]⟩
def toS (x : Bool × List UInt8) : S100 := ⟨x.1, bs x.2⟩
def toI (x : Bool × List UInt8) : S151 := if x.1 = true then ⟨bs x.2, bs []⟩ else ⟨bs [], bs x.2⟩
theorem nms_len : ∀ n ∈ nms, 1 ≤ n.length ∧ n.length ≤ 4 := by decide
theorem nms_no : ∀ n ∈ nms, (125 : UInt8) ∉ n := by decide
theorem rdS_at (l : List S100) (i : Nat) (h : i < l.length) : rd_T100 l (i : Int) = l[i] := by
  unfold rd_T100
  rw [Int.toNat_natCast, List.getD_eq_getElem?_getD, List.getElem?_eq_getElem h]; rfl
theorem rdI_at (l : List S151) (i : Nat) (h : i < l.length) : rd_T151 l (i : Int) = l[i] := by
  unfold rd_T151
  rw [Int.toNat_natCast, List.getD_eq_getElem?_getD, List.getElem?_eq_getElem h]; rfl
theorem rdB_at (l : List ByteArray) (i : Nat) (h : i < l.length) : rdOf ByteArray.empty l (i : Int) = l[i] := by
  unfold rdOf
  rw [Int.toNat_natCast, List.getD_eq_getElem?_getD, List.getElem?_eq_getElem h]; rfl
/-- The names with their braces. -/
def nmB : List ByteArray := nms.map fun n => bs (123 :: (n ++ [125]))
set_option maxHeartbeats 4000000 in
theorem pc_names (p : List UInt8) (hp : p.length ≤ 60) (out : List S100) (ho : out.length ≤ 1000) (t : List UInt8) (i : Nat) (hi : i ≤ p.length) (r : List UInt8) (hr : p.drop i = 123 :: r) :
    ∀ (m j k : Nat), j + m = 8 → (∀ n, (nms.drop j).find? (fun n => (n ++ [125]).isPrefixOf r) = some n → n ∈ nms ∧ ∃ K, k ≤ K ∧ ephemerisref1_PatternPieces.l1 (k + m + 1) (bs p) out (bs t) (i : Int) false nmB 8 (j : Int) = ephemerisref1_PatternPieces.l0 K (bs p) (out ++ (fl t [(true, n)]).map toS) (bs []) ((i + (n.length + 2) : Nat) : Int)) ∧
      ((nms.drop j).find? (fun n => (n ++ [125]).isPrefixOf r) = none → ephemerisref1_PatternPieces.l1 (k + m + 1) (bs p) out (bs t) (i : Int) false nmB 8 (j : Int) = some ([], 4))
  | 0, j, k, hj => by
    obtain rfl : j = 8 := by omega
    refine ⟨fun n h => (by cases h), fun _ => ?_⟩
    unfold ephemerisref1_PatternPieces.l1
    rw [if_neg (by decide), if_neg (by decide)]
  | m + 1, j, k, hj => by
    have hlt : j < nms.length := by show j < 8; omega
    have hltB : j < nmB.length := by show j < 8; omega
    have ih := pc_names p hp out ho t i hi r hr m (j + 1) k (by omega)
    have hm0 := nms_len nms[j] (List.getElem_mem hlt)
    have hi0 : nms[j] ∈ nms := List.getElem_mem hlt
    have hB0 : nmB[j] = bs (123 :: (nms[j] ++ [125])) := List.getElem_map (fun n => bs (123 :: (n ++ [125])))
    have hd0 : nms.drop j = nms[j] :: nms.drop (j + 1) := List.drop_eq_getElem_cons hlt
    obtain ⟨n, hn⟩ : ∃ n, nms[j] = n := ⟨_, rfl⟩
    have hm : 1 ≤ n.length ∧ n.length ≤ 4 := by rw [hn] at hm0; exact hm0
    have hB : rdOf ByteArray.empty nmB (j : Int) = bs (123 :: (n ++ [125])) := by rw [rdB_at nmB j hltB, hB0, hn]
    have hmem : n ∈ nms := by rw [hn] at hi0; exact hi0
    have hd : nms.drop j = n :: nms.drop (j + 1) := by rw [hd0, hn]
    clear hm0 hB0 hd0 hi0 hn
    have hz : (bs (123 :: (n ++ [125]))).size = n.length + 2 := by rw [bs_size]; simp
    have hq : (123 :: (n ++ [125])).isPrefixOf (123 :: r) = (n ++ [125]).isPrefixOf r := by
      rw [List.isPrefixOf]; simp
    have hrl : (123 :: r).length ≤ 1000 := by have := congrArg List.length hr; rw [List.length_drop] at this; omega
    have hnl : (123 :: (n ++ [125])).length ≤ 1000 := by rw [← bs_size, hz]; omega
    have hL : (j : Int) < (nmB.length : Int) := by have : nmB.length = 8 := rfl; omega
    have hu : ephemerisref1_PatternPieces.l1 (k + (m + 1) + 1) (bs p) out (bs t) (i : Int) false nmB 8 (j : Int) = (if (n ++ [125]).isPrefixOf r = true then ephemerisref1_PatternPieces.l0 (k + m + 1) (bs p) (out ++ (fl t [(true, n)]).map toS) (bs []) ((i + (n.length + 2) : Nat) : Int) else ephemerisref1_PatternPieces.l1 (k + m + 1) (bs p) out (bs t) (i : Int) false nmB 8 ((j + 1 : Nat) : Int)) := by
      conv => lhs; unfold ephemerisref1_PatternPieces.l1
      rw [if_pos (by omega), if_pos (by omega), if_pos hL, if_pos (by omega), if_pos (by rw [bs_size]; omega), hB, Int.toNat_natCast, bs_from, hr, pre_f _ _ hrl hnl, Option.bind_some, hq]
      by_cases hf : (n ++ [125]).isPrefixOf r = true
      · rw [if_pos hf, if_pos hf, hz]
        clear ih hB hL hd hmem hltB hlt
        have hn1 : n.length + 1 ≤ 1000000000000 := by omega
        have hn2 : n.length + 2 ≤ 1000000000000 := by omega
        have hi2 : i ≤ 1000000000000 := by omega
        have w3 : wrap64 (((i + (n.length + 1) : Nat) : Int) + 1) = ((i + (n.length + 1) + 1 : Nat) : Int) := w64s (a := i + (n.length + 1)) (by omega)
        rw [show i + (n.length + 1) + 1 = i + (n.length + 2) from by omega] at w3
        have w1 : wrap64 (((n.length + 2 : Nat) : Int) - 1) = ((n.length + 1 : Nat) : Int) := w64p hn2 (by omega)
        have w2 : wrap64 ((i : Int) + ((n.length + 1 : Nat) : Int)) = ((i + (n.length + 1) : Nat) : Int) := w64a hi2 hn1
        have ex : (bs (123 :: (n ++ [125]))).extract 1 (((n.length + 1 : Nat) : Int)).toNat = bs n := by
          rw [Int.toNat_natCast, bs_extract]
          congr 1
          rw [List.take_succ_cons, List.drop_succ_cons, List.drop_zero, List.take_left']
          rfl
        rw [w1, w2, w3, ex]
        by_cases ht : t = []
        · subst ht
          rw [if_pos (by rw [bs_toList]), if_pos (by omega), if_pos (by omega), if_pos (by omega)]
          simp only [fl, if_true, List.map_cons, List.map_nil, toS]
          rfl
        · rw [if_neg (by rw [bs_toList]; exact ht), if_pos (by omega), Option.bind_some, if_pos (by omega), if_pos (by omega), if_pos (by rw [List.length_append]; simp only [List.length_cons, List.length_nil]; omega)]
          simp only [fl, if_neg ht, List.map_cons, List.map_nil, toS, List.append_assoc, List.cons_append, List.nil_append]
          rfl
      · rw [if_neg hf, if_neg hf, w64s (by omega), show k + (m + 1) = k + m + 1 from rfl]
    rw [hu, hd, List.find?_cons]
    by_cases hf : (n ++ [125]).isPrefixOf r = true
    · rw [if_pos hf, hf]
      refine ⟨fun n' h => ?_, fun h => (by cases h)⟩
      obtain rfl := Option.some.inj h
      exact ⟨hmem, k + m + 1, by omega, rfl⟩
    · rw [if_neg hf]
      rw [Bool.not_eq_true] at hf
      rw [hf]
      exact ih
set_option maxHeartbeats 4000000 in
theorem pc_loop (p : List UInt8) (hp : p.length ≤ 60) : ∀ (b m i k : Nat) (out : List S100) (t : List UInt8), m ≤ b → i + m = p.length → 12 * m + 1 ≤ k → out.length ≤ i → t.length ≤ i →
    ephemerisref1_PatternPieces.l0 k (bs p) out (bs t) (i : Int) = some (match tok 0 t (p.drop i) with | none => ([], 4) | some L => (out ++ L.map toS, 0))
  | b, 0, i, k + 1, out, t, _, hi, hk, ho, ht => by
    have hd : p.drop i = [] := List.drop_of_length_le (by omega)
    unfold ephemerisref1_PatternPieces.l0
    rw [if_neg (by rw [bs_size]; omega), hd]
    simp only [tok]
    by_cases h : t = []
    · subst h
      rw [if_pos (by rw [bs_toList])]
      simp only [fl, if_true, List.map_nil, List.append_nil]
    · rw [if_neg (by rw [bs_toList]; exact h), if_pos (by omega)]
      simp only [fl, if_neg h, List.map_cons, List.map_nil, toS]
  | 0, m + 1, i, k + 1, out, t, hb, _, _, _, _ => by omega
  | b + 1, m + 1, i, k + 1, out, t, hb, hi, hk, ho, ht => by
    have hlt : i < p.length := by omega
    have hd : p.drop i = p[i] :: p.drop (i + 1) := List.drop_eq_getElem_cons hlt
    obtain ⟨c, hc⟩ : ∃ c, p[i] = c := ⟨_, rfl⟩
    have hbt : bt (bs p) (i : Int) = (c.toNat : Int) := by rw [bs_bt p i hlt, hc]
    conv => lhs; unfold ephemerisref1_PatternPieces.l0
    rw [if_pos (by rw [bs_size]; omega), if_pos (by omega), hbt, hd, hc, tok]
    by_cases h1 : c = 125
    · rw [if_pos h1, if_pos (by rw [h1]; rfl)]
    · have h1' : ¬ (c.toNat : Int) = 125 := fun e => h1 ((u8i c 125).1 e)
      rw [if_neg h1, if_neg h1']
      by_cases h2 : c = 123
      · rw [if_pos h2, if_pos (by rw [h2]; rfl), Option.bind_some]
        rw [hc, h2] at hd
        have e1 : k = (k - 9) + 8 + 1 := by omega
        have hN := pc_names p hp out (by omega) t i (by omega) _ hd 8 0 (k - 9) (by omega)
        rw [← e1, List.drop_zero] at hN
        show ephemerisref1_PatternPieces.l1 k (bs p) out (bs t) (i : Int) false nmB 8 ((0 : Nat) : Int) = _
        unfold fnd
        cases hf : nms.find? (fun n => (n ++ [125]).isPrefixOf (p.drop (i + 1))) with
        | none => rw [hN.2 hf]
        | some n =>
          obtain ⟨hm, K, hK, e⟩ := hN.1 n hf
          have hl := nms_len n hm
          have hps : (n ++ [125]).isPrefixOf (p.drop (i + 1)) = true := List.find?_some (p := fun n : List UInt8 => (n ++ [125]).isPrefixOf (p.drop (i + 1))) hf
          have hpre := List.IsPrefix.length_le (List.isPrefixOf_iff_prefix.1 hps)
          rw [List.length_append, List.length_drop] at hpre
          simp only [List.length_cons, List.length_nil] at hpre
          rw [e, pc_loop p hp b (m - (n.length + 1)) (i + (n.length + 2)) K _ [] (by omega) (by omega) (by omega) (by rw [List.length_append, List.length_map]; unfold fl; split <;> simp only [List.length_cons, List.length_nil] <;> omega) (by simp)]
          simp only
          rw [tok_skip (n.length + 1), List.drop_drop, show i + 1 + (n.length + 1) = i + (n.length + 2) from by omega]
          cases tok 0 [] (p.drop (i + (n.length + 2))) with
          | none => rfl
          | some L =>
            simp only [Option.map_some]
            unfold fl
            split <;> simp [List.append_assoc]
      · have h2' : ¬ (c.toNat : Int) = 123 := fun e => h2 ((u8i c 123).1 e)
        have w1 : wrap64 ((i : Int) + 1) = ((i + 1 : Nat) : Int) := w64s (by omega)
        have ex : (bs p).extract ((i : Int)).toNat (((i + 1 : Nat) : Int)).toNat = bs [c] := by
          rw [Int.toNat_natCast, Int.toNat_natCast, bs_extract]
          congr 1
          rw [List.drop_take, hd, hc, show i + 1 - i = 1 from by omega]
          rfl
        rw [if_neg h2, if_neg h2', w1, if_pos (by omega), if_pos (by rw [bs_size]; omega), ex, if_pos (by rw [bs_size, bs_size]; simp only [List.length_cons, List.length_nil]; omega), bs_app, pc_loop p hp b m (i + 1) k out (t ++ [c]) (by omega) (by omega) (by omega) (by omega) (by rw [List.length_append]; simp only [List.length_cons, List.length_nil]; omega)]
theorem pieces_f (p : List UInt8) (k : Nat) (hk : 1000 ≤ k) : ephemerisref1_PatternPieces.f k (bs p) = some (if 60 < p.length then (([] : List S100), (2 : Int)) else match tok 0 [] p with | none => ([], 4) | some L => (L.map toS, 0)) := by
  unfold ephemerisref1_PatternPieces.f
  rw [bs_size]
  by_cases h : 60 < p.length
  · rw [if_pos (by omega), if_pos h]
  · rw [if_neg (by omega), if_neg h]
    have := pc_loop p (by omega) p.length p.length 0 k [] [] (Nat.le_refl _) (by omega) (by omega) (by simp) (by simp)
    rw [List.drop_zero] at this
    exact this
theorem spn (p : List UInt8) (out : List S151) (q : Nat) (n : List UInt8) (h1 : 1 ≤ q) (h2 : q ≤ p.length) (hx : (p.take q).drop 1 = n) (k j : Nat) (b : Bool) (hj : j < 8) :
    pattern_split.l1 (k + 1) (bs p) out (q : Int) b (j : Int) = pattern_split.l1 k (bs p) out (q : Int) (b || nms.getD j [] == n) ((j + 1 : Nat) : Int) := by
  have hX : ((bs p).extract 1 ((q : Int)).toNat).toList = n := by rw [Int.toNat_natCast, bs_extract, bs_toList, hx]
  have c1 : (1 : Int) ≤ (q : Int) := by omega
  have c2 : (q : Int) ≤ ((bs p).size : Int) := by rw [bs_size]; omega
  conv => lhs; unfold pattern_split.l1
  rw [hX]
  simp only [c1, c2, if_true]
  rcases (show j = 0 ∨ j = 1 ∨ j = 2 ∨ j = 3 ∨ j = 4 ∨ j = 5 ∨ j = 6 ∨ j = 7 by omega) with rfl | rfl | rfl | rfl | rfl | rfl | rfl | rfl <;> cases b <;> rfl
theorem spl (p : List UInt8) (out : List S151) (q : Nat) (n : List UInt8) (h1 : 1 ≤ q) (h2 : q ≤ p.length) (hx : (p.take q).drop 1 = n) (ho : out.length ≤ 1000) (hp : p.length ≤ 60) (hq : q < p.length) (k : Nat) :
    pattern_split.l1 (k + 9) (bs p) out (q : Int) false 0 = if nms.contains n = true then pattern_split.l0 k (bs (p.drop (q + 1))) (out ++ [(⟨bs n, bs []⟩ : S151)]) else some ([], 4) := by
  have s := spn p out q n h1 h2 hx
  have e : pattern_split.l1 (k + 9) (bs p) out (q : Int) false 0 = pattern_split.l1 (k + 1) (bs p) out (q : Int) (nms.contains n) ((8 : Nat) : Int) := by
    have s0 := s (k + 8) 0 false (by decide)
    have s1 := s (k + 7) 1 (false || nms.getD 0 [] == n) (by decide)
    have s2 := s (k + 6) 2 (false || nms.getD 0 [] == n || nms.getD 1 [] == n) (by decide)
    have s3 := s (k + 5) 3 (false || nms.getD 0 [] == n || nms.getD 1 [] == n || nms.getD 2 [] == n) (by decide)
    have s4 := s (k + 4) 4 (false || nms.getD 0 [] == n || nms.getD 1 [] == n || nms.getD 2 [] == n || nms.getD 3 [] == n) (by decide)
    have s5 := s (k + 3) 5 (false || nms.getD 0 [] == n || nms.getD 1 [] == n || nms.getD 2 [] == n || nms.getD 3 [] == n || nms.getD 4 [] == n) (by decide)
    have s6 := s (k + 2) 6 (false || nms.getD 0 [] == n || nms.getD 1 [] == n || nms.getD 2 [] == n || nms.getD 3 [] == n || nms.getD 4 [] == n || nms.getD 5 [] == n) (by decide)
    have s7 := s (k + 1) 7 (false || nms.getD 0 [] == n || nms.getD 1 [] == n || nms.getD 2 [] == n || nms.getD 3 [] == n || nms.getD 4 [] == n || nms.getD 5 [] == n || nms.getD 6 [] == n) (by decide)
    have hc : nms.contains n = (false || nms.getD 0 [] == n || nms.getD 1 [] == n || nms.getD 2 [] == n || nms.getD 3 [] == n || nms.getD 4 [] == n || nms.getD 5 [] == n || nms.getD 6 [] == n || nms.getD 7 [] == n) := by
      show ([[121], [109], [100], [121, 52], [109, 50], [100, 50], [110, 97, 109, 101], [119]] : List (List UInt8)).contains n = (false || [121] == n || [109] == n || [100] == n || [121, 52] == n || [109, 50] == n || [100, 50] == n || [110, 97, 109, 101] == n || [119] == n)
      simp only [List.contains_cons, List.contains_nil, Bool.or_false, Bool.false_or, Bool.or_assoc, Bool.beq_comm]
    rw [hc]
    exact s0.trans (s1.trans (s2.trans (s3.trans (s4.trans (s5.trans (s6.trans s7))))))
  rw [e]
  clear e s
  have hX : (bs p).extract 1 ((q : Int)).toNat = bs n := by rw [Int.toNat_natCast, bs_extract, hx]
  unfold pattern_split.l1
  rw [if_neg (by decide), hX]
  cases nms.contains n
  · rfl
  · rw [if_pos rfl, if_pos rfl, if_pos (by omega), if_pos (by rw [bs_size]; omega), if_pos (by omega), w64s (by omega), if_pos (by omega), if_pos (by rw [bs_size]; omega), Int.toNat_natCast, bs_from]
    rfl
theorem fnd_none {r : List UInt8} (h : (125 : UInt8) ∉ r) : fnd r = none := by
  unfold fnd
  rw [List.find?_eq_none]
  intro n _ hq
  obtain ⟨u, hu⟩ := List.isPrefixOf_iff_prefix.1 hq
  exact h (by rw [← hu]; simp)
theorem fnd_some {n m : List UInt8} (h : (125 : UInt8) ∉ n) : fnd (n ++ 125 :: m) = if nms.contains n = true then some n else none := by
  have key : ∀ x ∈ nms, (x ++ [125]).isPrefixOf (n ++ 125 :: m) = (x == n) := by
    intro x hx
    have hxn := nms_no x hx
    rw [Bool.eq_iff_iff, beq_iff_eq, List.isPrefixOf_iff_prefix]
    constructor
    · rintro ⟨u, hu⟩
      have h2 : x ++ 125 :: u = n ++ 125 :: m := by rw [← hu]; simp
      have a1 := idx_yes 125 u x hxn
      rw [h2, idx_yes 125 m n h] at a1
      have hl : x.length = n.length := by omega
      exact (List.append_inj h2 hl).1
    · rintro rfl
      exact ⟨m, by simp⟩
  unfold fnd
  by_cases hc : nms.contains n = true
  · rw [if_pos hc]
    have hm : n ∈ nms := List.contains_iff_mem.1 hc
    cases hf : nms.find? (fun x => (x ++ [125]).isPrefixOf (n ++ 125 :: m)) with
    | none =>
      exfalso
      have := List.find?_eq_none.1 hf n hm
      rw [key n hm] at this
      simp at this
    | some x =>
      have h1 : (x ++ [125]).isPrefixOf (n ++ 125 :: m) = true := List.find?_some (p := fun x : List UInt8 => (x ++ [125]).isPrefixOf (n ++ 125 :: m)) hf
      rw [key x (List.mem_of_find?_eq_some hf)] at h1
      rw [beq_iff_eq.1 h1]
  · rw [if_neg hc, List.find?_eq_none]
    intro x hx h1
    rw [key x hx, beq_iff_eq] at h1
    exact hc (List.contains_iff_mem.2 (h1 ▸ hx))
theorem sp_any (p : List UInt8) (hp : p.length ≤ 60) : strings_IndexAny.f (bs p) (⟨#[123, 125]⟩ : ByteArray) = some (Go.Lib.indexAny p [123, 125]) := by
  unfold strings_IndexAny.f
  rw [if_pos ⟨by rw [toList_data], by rw [bs_size]; omega⟩]
  rfl
theorem sp_byte (p : List UInt8) : strings_IndexByte.f (bs p) 125 = some (Go.Lib.indexByte p 125) := rfl
set_option maxHeartbeats 4000000 in
theorem sp_loop : ∀ (b : Nat) (p : List UInt8) (k : Nat) (out : List S151), p.length ≤ b → p.length ≤ 60 → 12 * p.length + 1 ≤ k → out.length + p.length ≤ 100 →
    pattern_split.l0 k (bs p) out = some (match tok 0 [] p with | none => ([], 4) | some L => (out ++ L.map toI, 0))
  | _, [], k + 1, out, _, _, _, _ => by
    unfold pattern_split.l0
    rw [if_pos (by rw [bs_toList])]
    simp only [tok, fl, if_true, List.map_nil, List.append_nil]
  | 0, c :: r, k, out, hb, _, _, _ => by simp at hb
  | b + 1, c :: r, k, out, hb, hp, hk, ho => by
    obtain ⟨u, s, e, hu, hs⟩ := parted brace (c :: r)
    obtain ⟨p, hpe⟩ : ∃ p, c :: r = p := ⟨_, rfl⟩
    have hne : p ≠ [] := by rw [← hpe]; simp
    rw [hpe] at e hb hp hk ho ⊢
    clear hpe
    have hlen : p.length = u.length + s.length := by rw [e, List.length_append]
    obtain ⟨k1, rfl⟩ : ∃ k1, k = k1 + 2 := ⟨k - 2, by have := List.length_pos_iff.2 hne; omega⟩
    have hub : ∀ b ∈ u, ([123, 125] : List UInt8).contains b = false := hu
    by_cases hu0 : u = []
    · subst hu0
      rw [List.nil_append] at e
      rcases hs with rfl | ⟨c, r, rfl, hc⟩
      · exact absurd e hne
      · subst e
        have hia : Go.Lib.indexAny (c :: r) [123, 125] = 0 := any_yes [123, 125] c r hc [] (by simp)
        conv => lhs; unfold pattern_split.l0
        rw [if_neg (by rw [bs_toList]; simp), sp_any _ hp, Option.bind_some, hia, if_neg (by omega)]
        conv => lhs; unfold pattern_split.j1
        rw [if_neg (by omega), sp_byte, Option.bind_some]
        have h1 : c = 123 ∨ c = 125 := by simpa [brace] using hc
        rcases h1 with rfl | rfl
        · rw [tok, if_neg (show ¬ (123 : UInt8) = 125 by decide), if_pos (show (123 : UInt8) = 123 from rfl)]
          by_cases h9 : (125 : UInt8) ∈ r
          · obtain ⟨n, m, rfl, hn⟩ : ∃ n m, r = n ++ 125 :: m ∧ (125 : UInt8) ∉ n := by
              obtain ⟨n, s, e, h1, h2⟩ := parted (· == 125) r
              have hn : (125 : UInt8) ∉ n := fun g => by have := h1 _ g; simp at this
              rcases h2 with rfl | ⟨c, m, rfl, hc⟩
              · rw [List.append_nil] at e; exact absurd (e ▸ h9) hn
              · rw [beq_iff_eq] at hc; subst hc; exact ⟨n, m, e, hn⟩
            have hn0 : (125 : UInt8) ∉ (123 :: n) := by
              intro g; rcases List.mem_cons.1 g with g | g
              · cases g
              · exact hn g
            have hib : Go.Lib.indexByte (123 :: (n ++ 125 :: m)) 125 = ((n.length + 1 : Nat) : Int) := idx_yes 125 m (123 :: n) hn0
            have hz : (123 :: (n ++ 125 :: m)).length = n.length + m.length + 2 := by simp; omega
            obtain ⟨k2, rfl⟩ : ∃ k2, k1 = k2 + 9 := ⟨k1 - 9, by omega⟩
            have hx : ((123 :: (n ++ 125 :: m)).take (n.length + 1)).drop 1 = n := by
              rw [List.take_succ_cons, List.drop_succ_cons, List.drop_zero, List.take_left']; rfl
            have hd : (123 :: (n ++ 125 :: m)).drop (n.length + 1 + 1) = m := by
              rw [List.drop_succ_cons, show n.length + 1 = n.length + 1 from rfl, ← List.drop_drop, List.drop_left']
              · rfl
              · rfl
            have hd2 : (n ++ 125 :: m).drop (n.length + 1) = m := hd
            rw [hib, if_neg (by omega), spl _ out (n.length + 1) n (by omega) (by omega) hx (by omega) hp (by omega) k2, fnd_some hn]
            by_cases hc : nms.contains n = true
            · rw [if_pos hc, if_pos hc, hd, sp_loop b m k2 _ (by omega) (by omega) (by omega) (by rw [List.length_append]; simp only [List.length_cons, List.length_nil]; omega)]
              simp only
              rw [tok_skip (n.length + 1), hd2]
              cases tok 0 [] m with
              | none => rfl
              | some L => simp [fl, toI]
            · rw [if_neg hc, if_neg hc]
          · have h0 : (125 : UInt8) ∉ (123 :: r) := by
              intro g; rcases List.mem_cons.1 g with g | g
              · cases g
              · exact h9 g
            rw [idx_no 125 _ h0, if_pos (by decide), fnd_none h9]
        · have h0 : Go.Lib.indexByte (125 :: r) 125 = 0 := idx_yes 125 r [] (by simp)
          rw [h0, if_pos (Int.le_refl 0), tok, if_pos (show (125 : UInt8) = 125 from rfl)]
    · have hul : 0 < u.length := List.length_pos_iff.2 hu0
      have hia : Go.Lib.indexAny p [123, 125] = if s = [] then -1 else (u.length : Int) := by
        rcases hs with rfl | ⟨c, r, rfl, hc⟩
        · rw [if_pos rfl, e, List.append_nil, any_no _ u hub]
        · rw [if_neg (by simp), e, any_yes _ c r hc u hub]
      have hj : pattern_split.l0 (k1 + 2) (bs p) out = pattern_split.j1 (k1 + 1) (bs p) out (u.length : Int) := by
        conv => lhs; unfold pattern_split.l0
        rw [if_neg (by rw [bs_toList]; exact hne), sp_any _ hp, Option.bind_some, hia]
        by_cases h : s = []
        · subst h
          rw [if_pos rfl, if_pos (by omega), bs_size, hlen]
          rfl
        · rw [if_neg h, if_neg (by omega)]
      rw [hj]
      conv => lhs; unfold pattern_split.j1
      have hd : p.drop u.length = s := by rw [e, List.drop_left']; rfl
      have ht : (p.take u.length).drop 0 = u := by rw [e, List.drop_zero, List.take_left']; rfl
      rw [if_pos (by omega), if_pos (by omega), if_pos (by rw [bs_size]; omega), if_pos (by omega), Int.toNat_natCast, bs_from, bs_extract, hd, ht,
        sp_loop b s k1 _ (by omega) (by omega) (by omega) (by rw [List.length_append]; simp only [List.length_cons, List.length_nil]; omega), e, tok_text u [] s hu, List.nil_append, tok_flush u hu0 s hs]
      cases tok 0 [] s with
      | none => rfl
      | some L => simp [toI]; rfl
theorem split_f (p : List UInt8) (k : Nat) (hk : 1000 ≤ k) : pattern_split.f k (bs p) = some (if 60 < p.length then (([] : List S151), (2 : Int)) else match tok 0 [] p with | none => ([], 4) | some L => (L.map toI, 0)) := by
  unfold pattern_split.f
  rw [bs_size]
  by_cases h : 60 < p.length
  · rw [if_pos (by omega), if_pos h]
  · rw [if_neg (by omega), if_neg h]
    exact sp_loop p.length p k [] (Nat.le_refl _) (by omega) (by omega) (by simp; omega)
/-- A byte with which no text may begin behind an item. -/
def bad (c : UInt8) : Bool := decide ((c.toNat : Int) = 45) || decide ((c.toNat : Int) ≥ 97 ∧ (c.toNat : Int) ≤ 122) || decide ((c.toNat : Int) ≥ 65 ∧ (c.toNat : Int) ≤ 90) || decide ((c.toNat : Int) ≥ 48 ∧ (c.toNat : Int) ≤ 57) || decide ((c.toNat : Int) > 127)
def ltrs : List UInt8 := [97, 98, 99, 100, 101, 102, 103, 104, 105, 106, 107, 108, 109, 110, 111, 112, 113, 114, 115, 116, 117, 118, 119, 120, 121, 122, 65, 66, 67, 68, 69, 70, 71, 72, 73, 74, 75, 76, 77, 78, 79, 80, 81, 82, 83, 84, 85, 86, 87, 88, 89, 90, 48, 49, 50, 51, 52, 53, 54, 55, 56, 57]
theorem bad_iff : ∀ c : UInt8, bad c = (decide ((c.toNat : Int) = 45) || decide ((c.toNat : Int) > 127) || decide (0 ≤ Go.Lib.indexByte ltrs c)) := by
  have h : ∀ n : Fin 256, bad (UInt8.ofNat n.1) = (decide (((UInt8.ofNat n.1).toNat : Int) = 45) || decide (((UInt8.ofNat n.1).toNat : Int) > 127) || decide (0 ≤ Go.Lib.indexByte ltrs (UInt8.ofNat n.1))) := by decide +kernel
  intro c
  have := h ⟨c.toNat, c.toNat_lt⟩
  simpa only [UInt8.ofNat_toNat] using this
/-- How many years, months, days, weekdays an item adds. -/
def bump (n : List UInt8) (v : Int × Int × Int × Int) : Int × Int × Int × Int :=
  if n = [121] ∨ n = [121, 52] then (v.1 + 1, v.2.1, v.2.2.1, v.2.2.2) else if n = [109] ∨ n = [109, 50] ∨ n = [110, 97, 109, 101] then (v.1, v.2.1 + 1, v.2.2.1, v.2.2.2) else if n = [100] ∨ n = [100, 50] then (v.1, v.2.1, v.2.2.1 + 1, v.2.2.2) else (v.1, v.2.1, v.2.2.1, v.2.2.2 + 1)
/-- Whether dates can be read by these items; what stood before. -/
def full : Option Bool → Int × Int × Int × Int → List (Bool × List UInt8) → Bool
  | _, v, [] => decide (v.1 = 1) && (decide (v.2.1 = 1) && (decide (v.2.2.1 = 1) && decide (v.2.2.2 ≤ 1)))
  | pr, v, (false, t) :: r => if (pr.isSome && bad (t.headD 0)) = true then false else full (some false) v r
  | pr, v, (true, n) :: r => if pr = some true then false else full (some true) (bump n v) r
theorem full_text (pr : Option Bool) (v : Int × Int × Int × Int) (c : UInt8) (s : List UInt8) (r : List (Bool × List UInt8)) : full pr v ((false, c :: s) :: r) = if (pr.isSome && bad c) = true then false else full (some false) v r := rfl
theorem full_item (pr : Option Bool) (v : Int × Int × Int × Int) (n : List UInt8) (r : List (Bool × List UInt8)) : full pr v ((true, n) :: r) = if pr = some true then false else full (some true) (bump n v) r := rfl
def okL (L : List (Bool × List UInt8)) : Prop := ∀ x ∈ L, if x.1 = true then x.2 ∈ nms else x.2 ≠ []
def prev (L : List (Bool × List UInt8)) (i : Nat) : Option Bool := if i = 0 then none else (L[i - 1]?).map (·.1)
theorem prev_zero (L : List (Bool × List UInt8)) : prev L 0 = none := rfl
theorem prev_succ (L : List (Bool × List UInt8)) (i : Nat) (h : i < L.length) : prev L (i + 1) = some L[i].1 := by
  unfold prev
  rw [if_neg (by omega), Nat.add_sub_cancel, List.getElem?_eq_getElem h]; rfl
def okV (i : Nat) (v : Int × Int × Int × Int) : Prop := (0 ≤ v.1 ∧ v.1 ≤ i) ∧ (0 ≤ v.2.1 ∧ v.2.1 ≤ i) ∧ (0 ≤ v.2.2.1 ∧ v.2.2.1 ≤ i) ∧ (0 ≤ v.2.2.2 ∧ v.2.2.2 ≤ i)
theorem okV_bump {i : Nat} {v : Int × Int × Int × Int} (h : okV i v) (n : List UInt8) : okV (i + 1) (bump n v) := by
  unfold okV at h ⊢
  unfold bump
  repeat' split
  all_goals (simp only; omega)
theorem okV_up {i : Nat} {v : Int × Int × Int × Int} (h : okV i v) : okV (i + 1) v := by
  unfold okV at h ⊢; omega
theorem tok_ok : ∀ (p t : List UInt8) (s : Nat) (L : List (Bool × List UInt8)), tok s t p = some L → okL L ∧ L.length ≤ 2 * p.length + 1
  | [], t, s, L, h => by
    simp only [tok, Option.some.injEq] at h
    subst h
    unfold fl
    split
    · exact ⟨fun x hx => (by cases hx), by simp⟩
    · rename_i ht
      exact ⟨fun x hx => by rw [List.mem_singleton.1 hx]; simpa using ht, by simp⟩
  | c :: r, t, s + 1, L, h => by
    simp only [tok] at h
    have := tok_ok r t s L h
    exact ⟨this.1, by rw [List.length_cons]; omega⟩
  | c :: r, t, 0, L, h => by
    rw [tok] at h
    by_cases h1 : c = 125
    · rw [if_pos h1] at h; cases h
    · rw [if_neg h1] at h
      by_cases h2 : c = 123
      · rw [if_pos h2] at h
        cases hf : fnd r with
        | none => rw [hf] at h; cases h
        | some n =>
          rw [hf] at h
          simp only at h
          cases hk : tok (n.length + 1) [] r with
          | none => rw [hk] at h; cases h
          | some M =>
            rw [hk, Option.map_some, Option.some.injEq] at h
            have ih := tok_ok r [] (n.length + 1) M hk
            have hn : n ∈ nms := List.mem_of_find?_eq_some hf
            subst h
            have o1 : okL ((true, n) :: M) := by
              intro x hx
              rcases List.mem_cons.1 hx with g | g
              · rw [g]; simpa using hn
              · exact ih.1 x g
            unfold fl
            split
            · exact ⟨o1, by simp; omega⟩
            · rename_i ht
              refine ⟨?_, by simp; omega⟩
              intro x hx
              rcases List.mem_cons.1 hx with g | g
              · rw [g]; simpa using ht
              · exact o1 x g
      · rw [if_neg h2] at h
        have := tok_ok r (t ++ [c]) 0 L h
        exact ⟨this.1, by rw [List.length_cons]; omega⟩
theorem okV_bounds {i : Nat} {v : Int × Int × Int × Int} (h : okV i v) (hi : i ≤ 1000) : wrap64 (v.1 + 1) = v.1 + 1 ∧ wrap64 (v.2.1 + 1) = v.2.1 + 1 ∧ wrap64 (v.2.2.1 + 1) = v.2.2.1 + 1 ∧ wrap64 (v.2.2.2 + 1) = v.2.2.2 + 1 := by
  unfold okV at h
  exact ⟨w64_id (by omega) (by omega), w64_id (by omega) (by omega), w64_id (by omega) (by omega), w64_id (by omega) (by omega)⟩
theorem toI_at (L : List (Bool × List UInt8)) (i : Nat) (h : i < L.length) : rd_T151 (L.map toI) (i : Int) = toI L[i] := by
  rw [rdI_at _ i (by rw [List.length_map]; exact h), List.getElem_map]
theorem toS_at (L : List (Bool × List UInt8)) (i : Nat) (h : i < L.length) : rd_T100 (L.map toS) (i : Int) = toS L[i] := by
  rw [rdS_at _ i (by rw [List.length_map]; exact h), List.getElem_map]
theorem behindI (L : List (Bool × List UInt8)) (hok : okL L) (hL : L.length ≤ 200) (i : Nat) (hi : i < L.length) (X : Option Bool) :
    (if (i : Int) > 0 then (if 0 ≤ (wrap64 ((i : Int) - 1)) then (if (wrap64 ((i : Int) - 1)) < ((L.map toI).length : Int) then (if ((rd_T151 (L.map toI) (wrap64 ((i : Int) - 1))).f0).toList = ([] : List UInt8) then X else (some false)) else (none)) else (none)) else X) = if prev L i = some true then some false else X := by
  cases i with
  | zero => rw [if_neg (by omega), prev_zero, if_neg (by simp)]
  | succ j =>
    have hj : j < L.length := by omega
    rw [if_pos (by omega), w64p (by omega) (by omega), Nat.add_sub_cancel, if_pos (by omega), if_pos (by rw [List.length_map]; omega), toI_at L j hj, prev_succ L j hj]
    have hx := hok L[j] (List.getElem_mem hj)
    generalize L[j] = x at hx
    obtain ⟨b, n⟩ := x
    cases b
    · simp [toI, bs_toList]
    · have hn := nms_len n (by simpa using hx)
      have : n ≠ [] := by rintro rfl; simp at hn
      simp [toI, bs_toList, this]
theorem behindS (L : List (Bool × List UInt8)) (hL : L.length ≤ 200) (i : Nat) (hi : i < L.length) (g : Bool → Option Bool) :
    (if (i : Int) > 0 then (if 0 ≤ (wrap64 ((i : Int) - 1)) then (if (wrap64 ((i : Int) - 1)) < ((L.map toS).length : Int) then g ((rd_T100 (L.map toS) (wrap64 ((i : Int) - 1))).f0) else (none)) else (none)) else g false) = g (decide (prev L i = some true)) := by
  cases i with
  | zero => rw [if_neg (by omega), prev_zero]; rfl
  | succ j =>
    have hj : j < L.length := by omega
    rw [if_pos (by omega), w64p (by omega) (by omega), Nat.add_sub_cancel, if_pos (by omega), if_pos (by rw [List.length_map]; omega), toS_at L j hj, prev_succ L j hj]
    generalize L[j] = x
    obtain ⟨b, n⟩ := x
    cases b <;> simp [toS]
theorem bad_true {c : UInt8} (h : bad c = true) : (c.toNat : Int) = 45 ∨ ((c.toNat : Int) ≥ 97 ∧ (c.toNat : Int) ≤ 122) ∨ ((c.toNat : Int) ≥ 65 ∧ (c.toNat : Int) ≤ 90) ∨ ((c.toNat : Int) ≥ 48 ∧ (c.toNat : Int) ≤ 57) ∨ (c.toNat : Int) > 127 := by
  unfold bad at h
  simp only [Bool.or_eq_true, decide_eq_true_eq] at h
  omega
theorem bad_false {c : UInt8} (h : bad c = false) : ¬ ((c.toNat : Int) = 45 ∨ ((c.toNat : Int) ≥ 97 ∧ (c.toNat : Int) ≤ 122) ∨ ((c.toNat : Int) ≥ 65 ∧ (c.toNat : Int) ≤ 90) ∨ ((c.toNat : Int) ≥ 48 ∧ (c.toNat : Int) ≤ 57) ∨ (c.toNat : Int) > 127) := by
  unfold bad at h
  simp only [Bool.or_eq_false_iff, decide_eq_false_iff_not] at h
  omega
set_option maxHeartbeats 4000000 in
theorem pf_loop (L : List (Bool × List UInt8)) (hok : okL L) (hL : L.length ≤ 200) : ∀ (m i k : Nat) (v : Int × Int × Int × Int), i + m = L.length → 5 * m + 1 ≤ k → okV i v →
    pattern_full.l0 k (L.map toI) (L.map toI) (L.length : Int) (i : Int) v.1 v.2.1 v.2.2.1 v.2.2.2 = some (full (prev L i) v (L.drop i))
  | 0, i, k + 1, v, hi, hk, hv => by
    rw [List.drop_of_length_le (by omega)]
    unfold pattern_full.l0
    rw [if_neg (by omega)]
    simp only [full]
    by_cases h1 : v.1 = 1
    · rw [if_pos h1, decide_eq_true h1]
      by_cases h2 : v.2.1 = 1
      · rw [if_pos h2, decide_eq_true h2]
        by_cases h3 : v.2.2.1 = 1
        · rw [if_pos h3, decide_eq_true h3]; rfl
        · rw [if_neg h3, decide_eq_false h3]; rfl
      · rw [if_neg h2, decide_eq_false h2]; rfl
    · rw [if_neg h1, decide_eq_false h1]; rfl
  | m + 1, i, k, v, hi, hk, hv => by
    obtain ⟨k1, rfl⟩ : ∃ k1, k = k1 + 5 := ⟨k - 5, by omega⟩
    have hlt : i < L.length := by omega
    have hd : L.drop i = L[i] :: L.drop (i + 1) := List.drop_eq_getElem_cons hlt
    have hx := hok L[i] (List.getElem_mem hlt)
    have hr := toI_at L i hlt
    have hp := prev_succ L i hlt
    have w1 : wrap64 ((i : Int) + 1) = ((i + 1 : Nat) : Int) := w64s (by omega)
    obtain ⟨wa, wb, wc, wd⟩ := okV_bounds hv (by omega)
    have ih := fun (kk : Nat) (vv : Int × Int × Int × Int) (hkk : 5 * m + 1 ≤ kk) (hvv : okV (i + 1) vv) => pf_loop L hok hL m (i + 1) kk vv (by omega) hkk hvv
    rw [hd]
    generalize L[i] = x at hx hr hp
    obtain ⟨b, n⟩ := x
    rw [hp] at ih
    conv => lhs; unfold pattern_full.l0
    rw [if_pos (by omega), if_pos (by omega), if_pos (by rw [List.length_map]; omega), hr]
    cases b
    · have hn : n ≠ [] := by simpa using hx
      obtain ⟨c, s, rfl⟩ := List.exists_cons_of_ne_nil hn
      rw [full_text]
      simp only [toI, if_false, Bool.false_eq_true, bs_toList, if_true, bs_size, List.length_cons, bs_bt0]
      rw [if_pos (by omega)]
      by_cases h0 : i = 0
      · subst h0
        have ih1 := ih (k1 + 3) v (by omega) (okV_up hv)
        rw [if_neg (by omega), prev_zero, Option.isSome_none, Bool.false_and, if_neg (show ¬ false = true by decide), ← ih1]
        unfold pattern_full.j1
        rw [if_neg (by decide), w1]
      · have hs : (prev L i).isSome = true := by
          obtain ⟨j, rfl⟩ : ∃ j, i = j + 1 := ⟨i - 1, by omega⟩
          rw [prev_succ L j (by omega)]; rfl
        rw [if_pos (by omega), hs, Bool.true_and]
        cases hb : bad c
        · have h9 := bad_false hb
          have ih1 := ih (k1 + 3) v (by omega) (okV_up hv)
          rw [if_neg (show ¬ false = true by decide), ← ih1]
          have e : pattern_full.j1 (k1 + 4) (L.map toI) (L.map toI) (L.length : Int) (i : Int) false v.1 v.2.1 v.2.2.1 v.2.2.2 = pattern_full.l0 (k1 + 3) (L.map toI) (L.map toI) (L.length : Int) ((i + 1 : Nat) : Int) v.1 v.2.1 v.2.2.1 v.2.2.2 := by
            conv => lhs; unfold pattern_full.j1
            rw [if_neg (by decide), w1]
          rw [← e, show decide ((c.toNat : Int) > 127) = false from decide_eq_false (by omega)]
          generalize (c.toNat : Int) = z at h9
          clear ih ih1 hr wa wb wc wd hv e
          repeat' split
          all_goals first | rfl | (exfalso; omega)
        · have h9 := bad_true hb
          rw [if_pos rfl]
          have e : pattern_full.j1 (k1 + 4) (L.map toI) (L.map toI) (L.length : Int) (i : Int) true v.1 v.2.1 v.2.2.1 v.2.2.2 = some false := by
            conv => lhs; unfold pattern_full.j1
            rw [if_pos rfl]
          rw [← e]
          generalize (c.toNat : Int) = z at h9
          clear ih hr wa wb wc wd hv e
          repeat' split
          all_goals first | rfl | (rw [show decide (z > 127) = true from decide_eq_true (by omega)]) | (exfalso; omega)
    · have hn : n ∈ nms := by simpa using hx
      have hbh := behindI L hok hL i hlt
      have i0 := ih (k1 + 3) (v.1 + 1, v.2.1, v.2.2.1, v.2.2.2) (by omega) (by have := okV_bump hv [121]; exact this)
      have i1 := ih (k1 + 2) (v.1, v.2.1 + 1, v.2.2.1, v.2.2.2) (by omega) (by have := okV_bump hv [109]; exact this)
      have i2 := ih (k1 + 1) (v.1, v.2.1, v.2.2.1 + 1, v.2.2.2) (by omega) (by have := okV_bump hv [100]; exact this)
      have i3 := ih (k1 + 1) (v.1, v.2.1, v.2.2.1, v.2.2.2 + 1) (by omega) (by have := okV_bump hv [119]; exact this)
      simp only at i0 i1 i2 i3
      rw [full_item]
      simp only [toI, if_true, bs_toList]
      clear ih hv hr
      have hc : n = [121] ∨ n = [109] ∨ n = [100] ∨ n = [121, 52] ∨ n = [109, 50] ∨ n = [100, 50] ∨ n = [110, 97, 109, 101] ∨ n = [119] := by simpa [nms] using hn
      have fin : ∀ (X : Bool), (if prev L i = some true then some false else some X) = some (if prev L i = some true then false else X) := by intro X; split <;> rfl
      rcases hc with rfl | rfl | rfl | rfl | rfl | rfl | rfl | rfl
      all_goals
        rw [if_neg (by decide)]
        first | rw [if_pos (by decide)] | rw [if_neg (by decide)]
        simp (decide := true) only [pattern_full.j2, pattern_full.j3, pattern_full.j4, bs_toList, hbh, w1, wa, wb, wc, wd, i0, i1, i2, i3, fin, bump, if_true, if_false, or_true, true_or, or_false, false_or]
        try rfl
theorem full_fI (L : List (Bool × List UInt8)) (hok : okL L) (hL : L.length ≤ 200) (k : Nat) (hk : 1100 ≤ k) : pattern_full.f k (L.map toI) = some (full none (0, 0, 0, 0) L) := by
  unfold pattern_full.f
  have := pf_loop L hok hL L.length 0 k (0, 0, 0, 0) (by omega) (by omega) (by unfold okV; simp)
  rw [List.length_map]
  exact this
theorem rj2 (L : List (Bool × List UInt8)) (hL : L.length ≤ 200) (i : Nat) (hi : i < L.length) (k : Nat) (y m d w : Int) :
    ephemerisref1_PatternFull.j2 (k + 2) (L.map toS) y m d w (i : Int) (L.map toS) (L.length : Int) (i : Int) = if prev L i = some true then some false else ephemerisref1_PatternFull.l0 k (L.map toS) y m d w (L.map toS) (L.length : Int) ((i + 1 : Nat) : Int) := by
  conv => lhs; unfold ephemerisref1_PatternFull.j2
  have hb := behindS L hL i hi (fun b => ephemerisref1_PatternFull.j3 (k + 1) (L.map toS) y m d w (L.map toS) (L.length : Int) (i : Int) b)
  rw [hb]
  unfold ephemerisref1_PatternFull.j3
  rw [w64s (by omega)]
  simp only [decide_eq_true_eq]
theorem ltr_f (c : UInt8) : strings_IndexByte.f (⟨#[97, 98, 99, 100, 101, 102, 103, 104, 105, 106, 107, 108, 109, 110, 111, 112, 113, 114, 115, 116, 117, 118, 119, 120, 121, 122, 65, 66, 67, 68, 69, 70, 71, 72, 73, 74, 75, 76, 77, 78, 79, 80, 81, 82, 83, 84, 85, 86, 87, 88, 89, 90, 48, 49, 50, 51, 52, 53, 54, 55, 56, 57]⟩ : ByteArray) (c.toNat : Int) = some (Go.Lib.indexByte ltrs c) := by
  unfold strings_IndexByte.f
  rw [u8_back]
  rfl
set_option maxHeartbeats 4000000 in
theorem rf_loop (L : List (Bool × List UInt8)) (hok : okL L) (hL : L.length ≤ 200) : ∀ (m i k : Nat) (v : Int × Int × Int × Int), i + m = L.length → 5 * m + 1 ≤ k → okV i v →
    ephemerisref1_PatternFull.l0 k (L.map toS) v.1 v.2.1 v.2.2.1 v.2.2.2 (L.map toS) (L.length : Int) (i : Int) = some (full (prev L i) v (L.drop i))
  | 0, i, k + 1, v, hi, hk, hv => by
    rw [List.drop_of_length_le (by omega)]
    unfold ephemerisref1_PatternFull.l0
    rw [if_neg (by omega)]
    simp only [full]
    by_cases h1 : v.1 = 1
    · rw [if_pos h1, decide_eq_true h1]
      by_cases h2 : v.2.1 = 1
      · rw [if_pos h2, decide_eq_true h2]
        by_cases h3 : v.2.2.1 = 1
        · rw [if_pos h3, decide_eq_true h3]
          by_cases h4 : v.2.2.2 ≤ 1
          · rw [decide_eq_true (show v.2.2.2 < 2 by omega), decide_eq_true h4]; rfl
          · rw [decide_eq_false (show ¬ v.2.2.2 < 2 by omega), decide_eq_false h4]; rfl
        · rw [if_neg h3, decide_eq_false h3]; rfl
      · rw [if_neg h2, decide_eq_false h2]; rfl
    · rw [if_neg h1, decide_eq_false h1]; rfl
  | m + 1, i, k, v, hi, hk, hv => by
    obtain ⟨k1, rfl⟩ : ∃ k1, k = k1 + 5 := ⟨k - 5, by omega⟩
    have hlt : i < L.length := by omega
    have hd : L.drop i = L[i] :: L.drop (i + 1) := List.drop_eq_getElem_cons hlt
    have hx := hok L[i] (List.getElem_mem hlt)
    have hr := toS_at L i hlt
    have hp := prev_succ L i hlt
    have w1 : wrap64 ((i : Int) + 1) = ((i + 1 : Nat) : Int) := w64s (by omega)
    obtain ⟨wa, wb, wc, wd⟩ := okV_bounds hv (by omega)
    have ih := fun (kk : Nat) (vv : Int × Int × Int × Int) (hkk : 5 * m + 1 ≤ kk) (hvv : okV (i + 1) vv) => rf_loop L hok hL m (i + 1) kk vv (by omega) hkk hvv
    rw [hd]
    generalize L[i] = x at hx hr hp
    obtain ⟨b, n⟩ := x
    rw [hp] at ih
    conv => lhs; unfold ephemerisref1_PatternFull.l0
    rw [if_pos (by omega), if_pos (by omega), if_pos (by rw [List.length_map]; omega), hr]
    cases b
    · have hn : n ≠ [] := by simpa using hx
      obtain ⟨c, s, rfl⟩ := List.exists_cons_of_ne_nil hn
      rw [full_text]
      simp only [toS, Bool.false_eq_true, if_false, bs_size, List.length_cons, bs_bt0]
      have ih1 := ih (k1 + 4) v (by omega) (okV_up hv)
      rw [if_pos (by omega), ltr_f, Option.bind_some, w1, ih1]
      by_cases h0 : i = 0
      · subst h0
        rw [if_neg (by omega), prev_zero, Option.isSome_none, Bool.false_and, if_neg (show ¬ false = true by decide)]
      · have hs : (prev L i).isSome = true := by
          obtain ⟨j, rfl⟩ : ∃ j, i = j + 1 := ⟨i - 1, by omega⟩
          rw [prev_succ L j (by omega)]; rfl
        rw [if_pos (by omega), hs, Bool.true_and, bad_iff c]
        by_cases c1 : (c.toNat : Int) = 45
        · rw [if_pos c1, decide_eq_true c1]; rfl
        · rw [if_neg c1, decide_eq_false c1, Bool.false_or]
          by_cases c2 : (c.toNat : Int) > 127
          · rw [if_pos c2, decide_eq_true c2]; rfl
          · rw [if_neg c2, decide_eq_false c2, Bool.false_or]
            by_cases c3 : 0 ≤ Go.Lib.indexByte ltrs c
            · rw [if_pos c3, decide_eq_true c3]; rfl
            · rw [if_neg c3, decide_eq_false c3]; rfl
    · have hn : n ∈ nms := by simpa using hx
      have i0 := ih (k1 + 2) (v.1 + 1, v.2.1, v.2.2.1, v.2.2.2) (by omega) (by have := okV_bump hv [121]; exact this)
      have i1 := ih (k1 + 1) (v.1, v.2.1 + 1, v.2.2.1, v.2.2.2) (by omega) (by have := okV_bump hv [109]; exact this)
      have i2 := ih (k1 + 1) (v.1, v.2.1, v.2.2.1 + 1, v.2.2.2) (by omega) (by have := okV_bump hv [100]; exact this)
      have i3 := ih (k1 + 1) (v.1, v.2.1, v.2.2.1, v.2.2.2 + 1) (by omega) (by have := okV_bump hv [119]; exact this)
      have hj := fun (kk : Nat) (a b c d : Int) => rj2 L hL i hlt kk a b c d
      simp only at i0 i1 i2 i3
      have hnl := nms_len n hn
      have hf1 : (toS (true, n)).f1 = bs n := rfl
      rw [full_item, if_pos (show (toS (true, n)).f0 = true from rfl), hf1, if_pos (by rw [bs_size]; omega)]
      clear ih hv hr hf1 hnl
      have hc : n = [121] ∨ n = [109] ∨ n = [100] ∨ n = [121, 52] ∨ n = [109, 50] ∨ n = [100, 50] ∨ n = [110, 97, 109, 101] ∨ n = [119] := by simpa [nms] using hn
      have fin : ∀ (X : Bool), (if prev L i = some true then some false else some X) = some (if prev L i = some true then false else X) := by intro X; split <;> rfl
      rcases hc with rfl | rfl | rfl | rfl | rfl | rfl | rfl | rfl
      all_goals
        rw [bs_bt0]
        simp (decide := true) only [ephemerisref1_PatternFull.j1, hj, w1, wa, wb, wc, wd, i0, i1, i2, i3, fin, bump, if_true, if_false, or_true, true_or, or_false, false_or]
        try rfl
theorem full_fS (L : List (Bool × List UInt8)) (hok : okL L) (hL : L.length ≤ 200) (k : Nat) (hk : 1100 ≤ k) : ephemerisref1_PatternFull.f k (L.map toS) = some (full none (0, 0, 0, 0) L) := by
  unfold ephemerisref1_PatternFull.f
  have := rf_loop L hok hL L.length 0 k (0, 0, 0, 0) (by omega) (by omega) (by unfold okV; simp)
  rw [List.length_map]
  exact this
theorem Full_f (p : List UInt8) (k : Nat) (hk : 1100 ≤ k) : pattern_Full.f k (bs p) = some (if 60 < p.length then (false, (2 : Int)) else match tok 0 [] p with | none => (false, 4) | some L => (full none (0, 0, 0, 0) L, 0)) := by
  unfold pattern_Full.f
  rw [split_f p k (by omega), Option.bind_some]
  by_cases h : 60 < p.length
  · rw [if_pos h, if_pos h]; rfl
  · rw [if_neg h, if_neg h]
    cases ht : tok 0 [] p with
    | none => rfl
    | some L =>
      have := tok_ok p [] 0 L ht
      simp only [if_true]
      rw [full_fI L this.1 (by omega) k hk]
      rfl

theorem PatternChecks : ephemerislaw1_PatternChecks.Pure := by
  intro a0 _
  obtain ⟨p, rfl⟩ : ∃ p, a0 = bs p := ⟨_, bs_of a0⟩
  obtain ⟨q, hq⟩ : ∃ q : Nat, 1100 ≤ q := ⟨_, Nat.le_refl _⟩
  refine ⟨q + 1, ?_⟩
  unfold ephemerislaw1_PatternChecks.f
  have e : pattern_Full.f (q + 1) (⟨#[123, 100, 125, 46, 32, 123, 110, 97, 109, 101, 125, 32, 123, 121, 125]⟩ : ByteArray) = some (true, 0) := by
    refine (Full_f [123, 100, 125, 46, 32, 123, 110, 97, 109, 101, 125, 32, 123, 121, 125] (q + 1) (by omega)).trans ?_
    congr 1
  rw [e, Option.bind_some, if_pos rfl]
  show ephemerislaw1_PatternChecks.j0 (q + 1) (bs p) false = some true
  rw [ephemerislaw1_PatternChecks.j0]
  unfold pattern_Check.f
  rw [if_neg (by decide), Full_f p q (by omega), Option.bind_some, pieces_f p q (by omega), Option.bind_some, split_f p q (by omega), Option.bind_some]
  by_cases h : 60 < p.length
  · rw [if_pos h, if_pos h, if_pos h]; rfl
  · rw [if_neg h, if_neg h, if_neg h]
    cases ht : tok 0 [] p with
    | none => rfl
    | some L =>
      have := tok_ok p [] 0 L ht
      simp only [if_true]
      rw [full_fS L this.1 (by omega) q (by omega), Option.bind_some, if_pos (by simp), Option.bind_some]
      rfl
end Go.Proofs.YtcmanidhilkhnaaDoor.Pure
