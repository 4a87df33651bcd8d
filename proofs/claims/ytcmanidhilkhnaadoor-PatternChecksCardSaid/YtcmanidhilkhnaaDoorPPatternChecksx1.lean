/- The walks of the functions of this part. The proof of strings_IndexByte, strings_IndexAny, pattern_split (in part) is written by hand; the other ones are as the kit's print tells them. -/
-- The walks of the law's functions, told by a program.
import Derived.Shelf.Strings.IndexAnyAll
import Derived.Laws.Runes
import Derived.WalkMore
import Derived.Lib.DecodeN
import Derived.Lib.OthersKept
import Derived.Laws.RangeAny
import Derived.Test.YtcmanidhilkhnaaDoorPPatternChecksx0
namespace Go.Proofs.YtcmanidhilkhnaaDoor.PPatternChecks
open Go.RowKit Go.Proofs.YtcmanidhilkhnaaDoorW.PrintWords Go.Proofs.YtcmanidhilkhnaaDoorW.PrintLast Go.Proofs.YtcmanidhilkhnaaDoorW.PrintMore
attribute [local go_sem] max2_int min2_int max_two min_two max_three min_three max_four min_four   -- for this text's walks alone
set_option linter.unusedVariables false
set_option linter.unusedSimpArgs false

/-! ### strings_IndexByte: function 48 -/
/-- The first place of a byte. -/
def strings_IndexByte.f (a0 : ByteArray) (a1 : Int) : Option (Int) := some (Go.Lib.indexByte a0.data.toList a1.toNat.toUInt8)
def strings_IndexByte.ren : Go.Shelf.Ren := ⟨fun | 137 => 48 | 217 => 90 | 266 => 129 | n => n, fun | 3 => 3 | 5 => 5 | 9 => 9 | n => n, fun | n => n⟩
theorem strings_IndexByte.lays : Go.Proofs.Lays.n137 Tryd.prog strings_IndexByte.ren := {
  mixed := by kernel_rfl
  f137 := Tryd.func48.trans (congrArg some (by kernel_rfl))
  f217 := Tryd.func90.trans (congrArg some (by kernel_rfl))
  f266 := Tryd.func129.trans (congrArg some (by kernel_rfl))
  t3 := Tryd.underlying3
  a3 := Tryd.isAgg3
  z3 := Tryd.sizeOf3
  v3 := Tryd.zeroValue3
  t5 := Tryd.underlying5
  a5 := Tryd.isAgg5
  z5 := Tryd.sizeOf5
  v5 := Tryd.zeroValue5
  t9 := Tryd.underlying9
  a9 := Tryd.isAgg9
  z9 := Tryd.sizeOf9
  v9 := Tryd.zeroValue9 }
theorem strings_IndexByte.calls (a0 : ByteArray) (a1 : Int) (r : Int) (w : World) (h : strings_IndexByte.f a0 a1 = some r) :
    Calls Tryd.prog 48 #[.string a0, .int .u8 a1] w fun e w' => e = .returned (.int .i64 r) ∧ Drawn0 w w' := by
  obtain rfl := Option.some.inj h
  refine (Go.Proofs.Any.strings_IndexByte strings_IndexByte.lays a0 a1 w).mono ?_
  rintro e w' ⟨rfl, rfl⟩
  exact ⟨rfl, Drawn0.refl _⟩

/-! ### strings_IndexAny: function 88 -/
/-- Bytes of a rune behind a byte that is no ASCII. -/
theorem strings_IndexAny.get_bang (s : ByteArray) (i : Nat) (h : i < s.size) : s.get! i = s[i]'h := by
  simp [ByteArray.get!, getElem!_pos, h]
  rfl
theorem strings_IndexAny.decN_skip (n b0 b1 b2 b3 : Nat) (h1 : 1 ≤ n) (h : 128 ≤ b0) : (Go.Lib.decodeN n b0 b1 b2 b3).2 ≤ n ∧ 1 ≤ (Go.Lib.decodeN n b0 b1 b2 b3).2 ∧ (Go.Lib.decodeN n b0 b1 b2 b3).2 ≤ 4 ∧ (1 < (Go.Lib.decodeN n b0 b1 b2 b3).2 → 128 ≤ b1) ∧ (2 < (Go.Lib.decodeN n b0 b1 b2 b3).2 → 128 ≤ b2) ∧ (3 < (Go.Lib.decodeN n b0 b1 b2 b3).2 → 128 ≤ b3) ∧ 128 ≤ (Go.Lib.decodeN n b0 b1 b2 b3).1 ∧ (Go.Lib.decodeN n b0 b1 b2 b3).1 ≤ 1114111 ∧ Utf8.valid ((Go.Lib.decodeN n b0 b1 b2 b3).1 : Int) = true := by
  unfold Go.Lib.decodeN
  rw [if_neg (by omega)]
  simp only [Utf8.valid, Bool.or_eq_true, Bool.and_eq_true, decide_eq_true_eq]
  repeat' split
  all_goals (simp only; omega)
theorem strings_IndexAny.decode_skip (s : ByteArray) (pos : Nat) (h : pos < s.size) (ha : 128 ≤ (s[pos]'h).toNat) : 1 ≤ (Utf8.decode s pos).2 ∧ pos + (Utf8.decode s pos).2 ≤ s.size ∧ 128 ≤ (Utf8.decode s pos).1 ∧ (Utf8.decode s pos).1 ≤ 1114111 ∧ Utf8.valid ((Utf8.decode s pos).1 : Int) = true ∧ ∀ j, j < (Utf8.decode s pos).2 → ∀ hj : pos + j < s.size, 128 ≤ (s[pos + j]'hj).toNat := by
  have e := Go.Lib.decode_at s pos
  have h0 : (s.get! pos).toNat = (s[pos]'h).toNat := by rw [strings_IndexAny.get_bang s pos h]
  obtain ⟨g1, g2, g3, g4, g5, g6, g7, g8, g9⟩ := strings_IndexAny.decN_skip (s.size - pos) (s.get! pos).toNat (s.get! (pos + 1)).toNat (s.get! (pos + 2)).toNat (s.get! (pos + 3)).toNat (by omega) (by omega)
  rw [← e] at g1 g2 g3 g4 g5 g6 g7 g8 g9
  refine ⟨g2, by omega, g7, g8, g9, ?_⟩
  intro j hj hl
  rw [← strings_IndexAny.get_bang s (pos + j) hl]
  match j, hj with
  | 0, _ => rw [Nat.add_zero, h0]; exact ha
  | 1, hj => exact g4 (by omega)
  | 2, hj => exact g5 (by omega)
  | 3, hj => exact g6 (by omega)
  | k + 4, hj => omega
theorem strings_IndexAny.w64 {n : Int} (h0 : -9223372036854775808 ≤ n) (h1 : n ≤ 9223372036854775807) : wrap64 n = n := by
  unfold wrap64; omega
theorem strings_IndexAny.at_ (s : ByteArray) (i : Nat) (x : UInt8) (h : i < s.size) (hx : s[i]'h = x) (w : World) : (Instr.index 9 (.string s) (.int .i64 (i : Int))).run Tryd.prog w = .ok (.int .u8 (x.toNat : Int)) w := by
  rw [run_index_string (P := Tryd.prog) (w := w) 9 s .i64 (i : Int) Tryd.underlying9, dif_pos ⟨by omega, by omega⟩]
  rw [← hx]
  rfl
/-- The two braces. -/
def strings_IndexAny.br : ByteArray := ⟨#[123, 125]⟩
/-- The first place of a brace. -/
def strings_IndexAny.f (a0 : ByteArray) (a1 : ByteArray) : Option (Int) := if a1.toList = [123, 125] ∧ a0.size < 4294967281 then some (Go.Lib.indexAny a0.data.toList [123, 125]) else none
def strings_IndexAny.ren : Go.Shelf.Ren := ⟨fun | 119 => 153 | 137 => 48 | 152 => 126 | 153 => 88 | 217 => 90 | 224 => 154 | 225 => 155 | 226 => 127 | 227 => 105 | 228 => 128 | 266 => 129 | n => n, fun | 0 => 0 | 3 => 3 | 4 => 4 | 5 => 5 | 9 => 9 | 21 => 21 | 46 => 154 | 116 => 164 | 117 => 165 | 124 => 168 | n => n, fun | n => n⟩
theorem strings_IndexAny.lays : Go.Proofs.Lays.n153 Tryd.prog strings_IndexAny.ren := {
  mixed := by kernel_rfl
  f119 := Tryd.func153.trans (congrArg some (by kernel_rfl))
  f137 := Tryd.func48.trans (congrArg some (by kernel_rfl))
  f152 := Tryd.func126.trans (congrArg some (by kernel_rfl))
  f153 := Tryd.func88.trans (congrArg some (by kernel_rfl))
  f217 := Tryd.func90.trans (congrArg some (by kernel_rfl))
  f224 := Tryd.func154.trans (congrArg some (by kernel_rfl))
  f225 := Tryd.func155.trans (congrArg some (by kernel_rfl))
  f226 := Tryd.func127.trans (congrArg some (by kernel_rfl))
  f227 := Tryd.func105.trans (congrArg some (by kernel_rfl))
  f228 := Tryd.func128.trans (congrArg some (by kernel_rfl))
  f266 := Tryd.func129.trans (congrArg some (by kernel_rfl))
  t0 := Tryd.underlying0
  a0 := Tryd.isAgg0
  z0 := Tryd.sizeOf0
  v0 := Tryd.zeroValue0
  t3 := Tryd.underlying3
  a3 := Tryd.isAgg3
  z3 := Tryd.sizeOf3
  v3 := Tryd.zeroValue3
  t4 := Tryd.underlying4
  a4 := Tryd.isAgg4
  z4 := Tryd.sizeOf4
  v4 := Tryd.zeroValue4
  t5 := Tryd.underlying5
  a5 := Tryd.isAgg5
  z5 := Tryd.sizeOf5
  v5 := Tryd.zeroValue5
  t9 := Tryd.underlying9
  a9 := Tryd.isAgg9
  z9 := Tryd.sizeOf9
  v9 := Tryd.zeroValue9
  t21 := Tryd.underlying21
  a21 := Tryd.isAgg21
  z21 := Tryd.sizeOf21
  v21 := Tryd.zeroValue21
  t46 := Tryd.underlying154
  a46 := Tryd.isAgg154
  z46 := Tryd.sizeOf154
  v46 := Tryd.zeroValue154
  t116 := Tryd.underlying164
  a116 := Tryd.isAgg164
  z116 := Tryd.sizeOf164
  t117 := Tryd.underlying165
  a117 := Tryd.isAgg165
  z117 := Tryd.sizeOf165
  v117 := Tryd.zeroValue165
  t124 := Tryd.underlying168
  a124 := Tryd.isAgg168
  z124 := Tryd.sizeOf168
  v124 := Tryd.zeroValue168 }
set_option maxHeartbeats 8000000 in
set_option maxRecDepth 100000 in
theorem strings_IndexAny.runeBad (w : World) : Calls Tryd.prog 126 #[.string strings_IndexAny.br, .int .i32 65533] w fun e w' => e = .returned (.int .i64 (-1)) ∧ w' = w.iter strings_IndexAny.br 2 := by
  have hz : strings_IndexAny.br.size = 2 := rfl
  have e1 : decide ((0 : Int) ≤ 65533) = true := by decide
  have e2 : decide ((65533 : Int) < 128) = false := by decide
  go_enter Tryd.func126, Tryd.ntmps126
  go_wp2
  go_loopg [5, 6] 2 (fun g _ _ wx => ∃ i : Nat, i + g = 2 ∧ wx = w.iter strings_IndexAny.br i)
  case atStart => exact ⟨0, by omega, rfl⟩
  case round =>
    obtain ⟨i, hig, rfl⟩ := hrel
    cases gk with
    | zero =>
      obtain rfl : i = 2 := by omega
      have hnx := run_next_end (P := Tryd.prog) w strings_IndexAny.br 2
      rw [hz] at hnx
      go_wp2
      go_ret
      exact ⟨rfl, rfl⟩
    | succ g =>
      have hi : i < strings_IndexAny.br.size := by rw [hz]; omega
      have hx : (strings_IndexAny.br[i]'hi).toNat < 128 := by
        match i, hi with
        | 0, _ => exact (by decide : (123 : UInt8).toNat < 128)
        | 1, _ => exact (by decide : (125 : UInt8).toNat < 128)
      have hnx := fun ty => run_next_ascii (P := Tryd.prog) w strings_IndexAny.br i ty hi hx
      generalize (strings_IndexAny.br[i]'hi).toNat = x at hnx hx
      have e3 : ((x : Int) == 65533) = false := beq_eq_false_iff_ne.2 (by omega)
      go_wp2
      go_roundg g
      case measure => omega
      case rel => exact ⟨i + 1, by omega, rfl⟩
set_option maxHeartbeats 8000000 in
set_option maxRecDepth 100000 in
theorem strings_IndexAny.runeGood (r : Int) (h0 : 128 ≤ r) (h1 : r ≤ 1114111) (hne : r ≠ 65533) (hv : Utf8.valid r = true) (w : World) : Calls Tryd.prog 126 #[.string strings_IndexAny.br, .int .i32 r] w fun e w' => e = .returned (.int .i64 (-1)) ∧ ∃ n, w' = w.drewN n := by
  have hz : strings_IndexAny.br.size = 2 := rfl
  have e1 : decide ((0 : Int) ≤ r) = true := decide_eq_true (by omega)
  have e2 : decide (r < 128) = false := decide_eq_false (by omega)
  have e3 : (r == 65533) = false := beq_eq_false_iff_ne.2 hne
  have hV : Calls Tryd.prog 153 #[.int .i32 r] w fun e w' => e = .returned (.bool true) ∧ w' = w := by
    go_enter Tryd.func153, Tryd.ntmps153
    go_wp2
    all_goals (go_ret; refine ⟨?_, rfl⟩; first | rfl | (exfalso; simp only [Utf8.valid, Bool.or_eq_true, Bool.and_eq_true, decide_eq_true_eq] at hv; omega))
  obtain ⟨s2, s4, hl⟩ := encode_facts r hv h0
  by_cases c2 : (Utf8.encode r).size = 2
  · have w1 : wrap64 (((Utf8.encode r).size : Int) - 1) = 1 := by rw [c2]; exact strings_IndexAny.w64 (n := 1) (by decide) (by decide)
    obtain ⟨x, hx⟩ : ∃ x : UInt8, (Utf8.encode r)[1]'(by omega) = x := ⟨_, rfl⟩
    have hx128 : 128 ≤ x.toNat := by
      have := hl (by omega)
      rw [← hx]
      have e : (Utf8.encode r).size - 1 = 1 := by omega
      simpa only [e] using this
    have r1 := strings_IndexAny.at_ strings_IndexAny.br 1 125 (by rw [hz]; decide) rfl
    have r2 := strings_IndexAny.at_ (Utf8.encode r) 1 x (by rw [c2]; decide) hx
    have hx125 : (((125 : UInt8).toNat : Nat) : Int) = 125 := rfl
    rw [hx125] at r1
    have n1 : (((strings_IndexAny.br[1]'(by rw [hz]; decide)).toNat : Int) != (x.toNat : Int)) = true := bne_iff_ne.2 (by show (125 : Int) ≠ _; omega)
    have w2 : IntKind.i64.wrap 2 = 2 := wrap_small 2 (by decide) (by decide)
    have hI : ∀ c : Int, ∀ w, Calls Tryd.prog 48 #[.string ByteArray.empty, .int .u8 c] w fun e w' => e = .returned (.int .i64 (-1)) ∧ w' = w := by
      intro c w
      refine (Go.Proofs.Any.strings_IndexByte { strings_IndexAny.lays with } ByteArray.empty c w).mono ?_
      rintro e w' ⟨rfl, hw⟩
      exact ⟨rfl, hw⟩
    have mixed := strings_IndexAny.lays.mixed
    go_enter Tryd.func126, Tryd.ntmps126
    go_wp2_with (first | (go_at_call 153; refine hV.mono ?_; rintro e w' ⟨rfl, hw⟩; rw [hw]))
    go_step3
    go_wp2
    go_loopg [9] 1 (fun g s9 wx => s9 = .int .i64 1 ∧ wx = w)
    case atStart => exact ⟨rfl, rfl⟩
    case round =>
      obtain ⟨rfl, rfl⟩ := hrel
      go_wp2
      go_step3
      go_wp2
      first | go_quiet (fail) | (go_step; go_quiet (fail)) | (go_step; go_step; go_quiet (fail))
      go_wp2
      go_quiet (first | (go_at_call 48; exact (hI _ _).mono (fun e w' h => ⟨h.1, _, h.2⟩)))
      go_wp2
      rw [Exit.noGoto_ret]
      simp only [Exit.inBlock, Exit.then, Exit.noGoto_ret]
      go_ret
      exact ⟨rfl, _, rfl⟩
  · have w1 : wrap64 (((Utf8.encode r).size : Int) - 1) = ((Utf8.encode r).size : Int) - 1 := strings_IndexAny.w64 (by omega) (by omega)
    have w2 : decide (((Utf8.encode r).size : Int) - 1 < 2) = false := decide_eq_false (by omega)
    have w3 : ¬ (((Utf8.encode r).size : Int) - 1 < 2) := by omega
    have mixed := strings_IndexAny.lays.mixed
    go_enter Tryd.func126, Tryd.ntmps126
    go_wp2_with (first | (go_at_call 153; refine hV.mono ?_; rintro e w' ⟨rfl, hw⟩; rw [hw]))
    go_step3
    go_wp2
    go_loopg [9] 1 (fun g s9 wx => s9 = .int .i64 (((Utf8.encode r).size : Int) - 1) ∧ wx = w)
    case atStart => exact ⟨by first | rfl | simp [w1], rfl⟩
    case round =>
      obtain ⟨rfl, rfl⟩ := hrel
      go_wp2
      rw [Exit.noGoto_ret]
      go_ret
      exact ⟨rfl, 0, rfl⟩
theorem strings_IndexAny.rune (r : Nat) (h0 : 128 ≤ r) (h1 : r ≤ 1114111) (hv : Utf8.valid (r : Int) = true) (w : World) : Calls Tryd.prog 126 #[.string strings_IndexAny.br, .int .i32 (r : Int)] w fun e w' => e = .returned (.int .i64 (-1)) ∧ ((∃ n, w' = w.drewN n) ∨ w' = w.iter strings_IndexAny.br 2) := by
  by_cases c : r = 65533
  · subst c
    exact (strings_IndexAny.runeBad w).mono fun e w' h => ⟨h.1, .inr h.2⟩
  · exact (strings_IndexAny.runeGood r (by omega) (by omega) (by omega) hv w).mono fun e w' h => ⟨h.1, .inl h.2⟩
theorem strings_IndexAny.hop {s : ByteArray} {i n : Nat} (hno : Go.Lib.NoAny s.data.toList [123, 125] i) (hn : ∀ j, j < n → ∀ hj : i + j < s.size, 128 ≤ (s[i + j]'hj).toNat) : Go.Lib.NoAny s.data.toList [123, 125] (i + n) := by
  intro j b hj hb
  by_cases c : j < i
  · exact hno j b c hb
  · obtain ⟨d, rfl⟩ : ∃ d, j = i + d := ⟨j - i, by omega⟩
    have hlt : i + d < s.data.toList.length := by
      rcases Nat.lt_or_ge (i + d) s.data.toList.length with h | h
      · exact h
      · rw [List.getElem?_eq_none h] at hb; cases hb
    have hs : i + d < s.size := by rw [Array.length_toList] at hlt; exact hlt
    have h128 := hn d (by omega) hs
    have e := Go.Lib.data_getElem? s (i + d) hs
    rw [e] at hb
    obtain rfl := Option.some.inj hb
    generalize (s[i + d]'hs) = x at h128
    cases h : ([123, 125] : List UInt8).contains x
    · rfl
    · exfalso
      rw [List.contains_iff_mem] at h
      rcases List.mem_cons.1 h with rfl | h
      · exact absurd h128 (by decide)
      · rcases List.mem_singleton.1 h with rfl
        exact absurd h128 (by decide)
set_option maxHeartbeats 8000000 in
set_option maxRecDepth 1000000 in
theorem strings_IndexAny.short (s : ByteArray) (w : World) (h8 : s.size ≤ 8) :
    Calls Tryd.prog 88 #[.string s, .string strings_IndexAny.br] w fun e w' => e = .returned (.int .i64 (Go.Lib.indexAny s.data.toList [123, 125])) ∧ Below w.heap.size w w' := by
  have hz : strings_IndexAny.br.size = 2 := rfl
  have h8z : decide ((8 : Int) < (s.size : Int)) = false := decide_eq_false (by omega)
  have hemp : strings_IndexAny.br.toList.isEmpty = false := by rw [Go.Lib.toList_data]; rfl
  have hn1 : ((2 : Int) == 1) = false := by decide
  have hS : ∀ w, Calls Tryd.prog 127 #[.int .i64 (s.size : Int)] w fun e w' => e = .returned (.bool (decide (8 < (s.size : Int)))) ∧ w' = w := fun w => Go.Proofs.Any.strings_shouldUseASCIISet { strings_IndexAny.lays with } _ w
  have hL : ∀ (x : UInt8), x.toNat < 128 → ∀ w, Calls Tryd.prog 126 #[.string strings_IndexAny.br, .int .i32 (x.toNat : Int)] w fun e w' => e = .returned (.int .i64 (Go.Lib.indexByte [123, 125] x)) ∧ w' = w := fun x hx w =>
    (Go.Proofs.Any.strings_IndexRune_ascii { strings_IndexAny.lays with } strings_IndexAny.br (x.toNat : Int) w (by omega) (by omega)).mono fun e w' h => ⟨by rw [h.1, show ((x.toNat : Int)).toNat.toUInt8 = x by simp]; rfl, h.2⟩
  have mixed := strings_IndexAny.lays.mixed
  go_enter Tryd.func88, Tryd.ntmps88
  go_wp2_with (first | (go_at_call 127; refine (hS _).mono ?_; rintro e w' ⟨rfl, hw⟩; rw [hw, h8z]))
  go_loopg [9, 10] s.size (fun g _ _ wx => ∃ i : Nat, i + g = s.size ∧ wx.heap[w.heap.size]? = some (.stringIter s i) ∧ Below w.heap.size w wx ∧ Go.Lib.NoAny s.data.toList [123, 125] i)
  case atStart => exact ⟨0, by omega, World.iter_heap w s 0, (Below.refl _ _).alloc (Nat.le_refl _) _, Go.Lib.NoAny.zero _ _⟩
  case round =>
    obtain ⟨i, hig, hit, hbel, hno⟩ := hrel
    have HN : Aside (Go.Lib.NoAny s.data.toList [123, 125] i) := hno
    have HB : Aside (Below w.heap.size w wr) := hbel
    have HI : Aside (wr.heap[w.heap.size]? = some (.stringIter s i)) := hit
    clear hno hbel
    by_cases hi : i < s.size
    · by_cases hx : (s[i]'hi).toNat < 128
      · have hnx := fun ty => Go.Lib.run_next_ascii_at (P := Tryd.prog) wr w.heap.size s i ty hit hi hx
        obtain ⟨x, hxe⟩ : ∃ x : UInt8, s[i]'hi = x := ⟨_, rfl⟩
        have hxl : s.data.toList[i]? = some x := by rw [← hxe]; exact Go.Lib.data_getElem? s i hi
        rw [hxe] at hnx hx
        have Hx : Aside (s.data.toList[i]? = some x) := hxl
        clear hxl hxe hit
        have hcon := Go.Lib.contains_iff_indexByte [123, 125] x
        cases hin : ([123, 125] : List UInt8).contains x
        · rw [hin] at hcon
          have hlt : ¬ ((0 : Int) ≤ Go.Lib.indexByte [123, 125] x) := of_decide_eq_false hcon.symm
          clear hcon
          go_wp2_with (first | (go_at_call 126; refine (hL x hx _).mono ?_; rintro e w' ⟨rfl, hw⟩; rw [hw]))
          go_roundg (s.size - (i + 1))
          case measure => omega
          case rel => exact ⟨i + 1, by omega, Go.Lib.iterAt_heap _ _ _ _ _ HI.out, Go.Lib.below_iterAt HB.out (Nat.le_refl _) _ _, HN.out.succ Hx.out hin⟩
        · rw [hin] at hcon
          have hge : (0 : Int) ≤ Go.Lib.indexByte [123, 125] x := of_decide_eq_true hcon.symm
          clear hcon
          go_wp2_with (first | (go_at_call 126; refine (hL x hx _).mono ?_; rintro e w' ⟨rfl, hw⟩; rw [hw]))
          go_ret
          exact ⟨by rw [Go.Lib.indexAny_hit HN.out Hx.out hin]; rfl, Go.Lib.below_iterAt HB.out (Nat.le_refl _) _ _⟩
      · obtain ⟨d1, d2, d3, d4, d5, d6⟩ := strings_IndexAny.decode_skip s i hi (by omega)
        have hnx := fun ty => Go.Lib.run_next_any_at (P := Tryd.prog) wr w.heap.size s i ty hit hi
        have hR := strings_IndexAny.rune (Utf8.decode s i).1 d3 d4 d5
        have Hd : Aside (∀ j, j < (Utf8.decode s i).2 → ∀ hj : i + j < s.size, 128 ≤ (s[i + j]'hj).toNat) := d6
        clear d6 d5 hit
        go_wp2_with (first | (go_at_call 126; refine (hR _).mono ?_; rintro e w' ⟨rfl, hw⟩))
        go_roundg (s.size - (i + (Utf8.decode s i).2))
        case measure => omega
        case rel =>
          have hh := Go.Lib.iterAt_heap _ _ _ _ (i + (Utf8.decode s i).2) HI.out
          have hbb := Go.Lib.below_iterAt HB.out (Nat.le_refl _) s (i + (Utf8.decode s i).2)
          refine ⟨i + (Utf8.decode s i).2, by omega, ?_, ?_, strings_IndexAny.hop HN.out Hd.out⟩
          · rcases hw with ⟨n, rfl⟩ | rfl
            · exact blk_drewN hh n
            · have hlt := (Array.getElem?_eq_some_iff.1 hh).1
              show (Array.push _ _)[w.heap.size]? = _
              rw [Array.getElem?_push_lt hlt]
              exact Array.getElem?_eq_some_iff.1 hh |>.2 ▸ rfl
          · rcases hw with ⟨n, rfl⟩ | rfl
            · exact pw_below_drewN hbb n
            · exact hbb.alloc (below_size hbb) _
    · obtain rfl : i = s.size := by omega
      have hnx := fun ty => Go.Lib.run_next_end_at (P := Tryd.prog) wr w.heap.size s s.size ty hit hi
      clear hit
      go_wp2
      go_ret
      exact ⟨by rw [Go.Lib.indexAny_none (by rw [Array.length_toList]; exact HN.out)]; rfl, HB.out⟩
theorem strings_IndexAny.calls (a0 : ByteArray) (a1 : ByteArray) (r : Int) (w : World) (h : strings_IndexAny.f a0 a1 = some r) :
    Calls Tryd.prog 88 #[.string a0, .string a1] w fun e w' => e = .returned (.int .i64 r) ∧ Below w.heap.size w w' := by
  unfold strings_IndexAny.f at h
  by_cases c : a1.toList = [123, 125] ∧ a0.size < 4294967281
  · rw [if_pos c] at h
    obtain rfl := Option.some.inj h
    have ha : a1 = strings_IndexAny.br := by
      have := c.1
      rw [Go.Lib.toList_data] at this
      obtain ⟨⟨l⟩⟩ := a1
      simp only at this
      rw [this]; rfl
    subst ha
    by_cases h8 : a0.size ≤ 8
    · exact strings_IndexAny.short a0 w h8
    · refine (Go.Proofs.Any.strings_IndexAny_long strings_IndexAny.lays (Go.zero_of_info (P := Tryd.prog) (t := 164) (v := .agg (Array.replicate 256 (.bool false))) (n := 256) (by kernel_rfl)).1 (Go.zero_of_info (P := Tryd.prog) (t := 164) (v := .agg (Array.replicate 256 (.bool false))) (n := 256) (by kernel_rfl)).2 a0 strings_IndexAny.br w (by decide) (by omega) c.2 (by decide) ?_).mono fun e w' ⟨h1, h2⟩ => ⟨h1, ?_⟩
      · intro j b hb
        match j, hb with
        | 0, hb => obtain rfl := Option.some.inj hb; decide
        | 1, hb => obtain rfl := Option.some.inj hb; decide
        | j + 2, hb => simp [strings_IndexAny.br] at hb
      · rw [h2]
        exact ((Below.refl _ _).alloc (Nat.le_refl _) _).alloc (by simp) _
  · rw [if_neg c] at h; cases h

/-! ### pattern_split: function 45 -/
/-- The cells of ephemeris/pattern.names. -/
def pattern_split.Tab_names : List Value := [(.string (⟨#[121]⟩ : ByteArray)), (.string (⟨#[109]⟩ : ByteArray)), (.string (⟨#[100]⟩ : ByteArray)), (.string (⟨#[121, 52]⟩ : ByteArray)), (.string (⟨#[109, 50]⟩ : ByteArray)), (.string (⟨#[100, 50]⟩ : ByteArray)), (.string (⟨#[110, 97, 109, 101]⟩ : ByteArray)), (.string (⟨#[119]⟩ : ByteArray))]
/-- The laid tables. -/
def pattern_split.Tab (w : World) : Prop := (∀ (i : Nat) (v : Value), pattern_split.Tab_names[i]? = some v → w.cell? ⟨5, i, none⟩ = some v)
theorem pattern_split.Tab.below {w W : World} {n : Nat} (h : pattern_split.Tab w) (hb : Below n w W) (hn : w.heap.size ≤ n) : pattern_split.Tab W := by
  have h0 := h
  exact fun i v e => (hb.cell (Nat.lt_of_lt_of_le (World.block_lt_of_cell? w _ (h0 i v e)) hn)).trans (h0 i v e)
mutual
def pattern_split.l0 : Nat → ByteArray → List (S151) → Option ((List (S151)) × Int)
  | 0, _, _ => none
  | k + 1, x0, x4 => if x0.toList = ([] : List UInt8) then (some (x4, 0)) else ((strings_IndexAny.f x0 (⟨#[123, 125]⟩ : ByteArray)).bind fun t104 => (if t104 < 0 then (pattern_split.j1 k x0 x4 (x0.size : Int)) else (pattern_split.j1 k x0 x4 t104)))
def pattern_split.j1 : Nat → ByteArray → List (S151) → Int → Option ((List (S151)) × Int)
  | 0, _, _, _ => none
  | k + 1, x0, x4, x5 => if x5 > 0 then (if 0 ≤ x5 then (if x5 ≤ (x0.size : Int) then (if x4.length < 4398046511104 then (pattern_split.l0 k (x0.extract (x5 : Int).toNat x0.size) (x4 ++ [(⟨(⟨#[]⟩ : ByteArray), x0.extract 0 (x5 : Int).toNat⟩ : S151)])) else (none)) else (none)) else (none)) else ((strings_IndexByte.f x0 125).bind fun t108 => (if t108 ≤ 0 then (some (([] : List (S151)), 4)) else (pattern_split.l1 k x0 x4 t108 false 0)))
def pattern_split.l1 : Nat → ByteArray → List (S151) → Int → Bool → Int → Option ((List (S151)) × Int)
  | 0, _, _, _, _, _ => none
  | k + 1, x0, x4, x6, x7, x38 => if x38 < 8 then (if x38 = 0 then (if x7 = true then (pattern_split.l1 k x0 x4 x6 true (0 + 1)) else (if 1 ≤ x6 then (if x6 ≤ (x0.size : Int) then (pattern_split.l1 k x0 x4 x6 (([121] : List UInt8) == (x0.extract 1 (x6 : Int).toNat).toList) (0 + 1)) else (none)) else (none))) else (if x38 = 1 then (if x7 = true then (pattern_split.l1 k x0 x4 x6 true (1 + 1)) else (if 1 ≤ x6 then (if x6 ≤ (x0.size : Int) then (pattern_split.l1 k x0 x4 x6 (([109] : List UInt8) == (x0.extract 1 (x6 : Int).toNat).toList) (1 + 1)) else (none)) else (none))) else (if x38 = 2 then (if x7 = true then (pattern_split.l1 k x0 x4 x6 true (2 + 1)) else (if 1 ≤ x6 then (if x6 ≤ (x0.size : Int) then (pattern_split.l1 k x0 x4 x6 (([100] : List UInt8) == (x0.extract 1 (x6 : Int).toNat).toList) (2 + 1)) else (none)) else (none))) else (if x38 = 3 then (if x7 = true then (pattern_split.l1 k x0 x4 x6 true (3 + 1)) else (if 1 ≤ x6 then (if x6 ≤ (x0.size : Int) then (pattern_split.l1 k x0 x4 x6 (([121, 52] : List UInt8) == (x0.extract 1 (x6 : Int).toNat).toList) (3 + 1)) else (none)) else (none))) else (if x38 = 4 then (if x7 = true then (pattern_split.l1 k x0 x4 x6 true (4 + 1)) else (if 1 ≤ x6 then (if x6 ≤ (x0.size : Int) then (pattern_split.l1 k x0 x4 x6 (([109, 50] : List UInt8) == (x0.extract 1 (x6 : Int).toNat).toList) (4 + 1)) else (none)) else (none))) else (if x38 = 5 then (if x7 = true then (pattern_split.l1 k x0 x4 x6 true (5 + 1)) else (if 1 ≤ x6 then (if x6 ≤ (x0.size : Int) then (pattern_split.l1 k x0 x4 x6 (([100, 50] : List UInt8) == (x0.extract 1 (x6 : Int).toNat).toList) (5 + 1)) else (none)) else (none))) else (if x38 = 6 then (if x7 = true then (pattern_split.l1 k x0 x4 x6 true (6 + 1)) else (if 1 ≤ x6 then (if x6 ≤ (x0.size : Int) then (pattern_split.l1 k x0 x4 x6 (([110, 97, 109, 101] : List UInt8) == (x0.extract 1 (x6 : Int).toNat).toList) (6 + 1)) else (none)) else (none))) else (if x38 = 7 then (if x7 = true then (pattern_split.l1 k x0 x4 x6 true (7 + 1)) else (if 1 ≤ x6 then (if x6 ≤ (x0.size : Int) then (pattern_split.l1 k x0 x4 x6 (([119] : List UInt8) == (x0.extract 1 (x6 : Int).toNat).toList) (7 + 1)) else (none)) else (none))) else (none))))))))) else (if x7 = true then (if 1 ≤ x6 then (if x6 ≤ (x0.size : Int) then (if x4.length < 4398046511104 then (if 0 ≤ (wrap64 (x6 + 1)) then (if (wrap64 (x6 + 1)) ≤ (x0.size : Int) then (pattern_split.l0 k (x0.extract ((wrap64 (x6 + 1)) : Int).toNat x0.size) (x4 ++ [(⟨x0.extract 1 (x6 : Int).toNat, (⟨#[]⟩ : ByteArray)⟩ : S151)])) else (none)) else (none)) else (none)) else (none)) else (none)) else (some (([] : List (S151)), 4)))
end
def pattern_split.f (k : Nat) (a0 : ByteArray) : Option ((List (S151)) × Int) := if (a0.size : Int) > 60 then (some (([] : List (S151)), 2)) else (pattern_split.l0 k a0 ([] : List (S151)))
theorem pattern_split.mono_l : ∀ k, (∀ y0 y1, LeO (pattern_split.l0 k y0 y1) (pattern_split.l0 (k + 1) y0 y1)) ∧ (∀ y0 y1 y2, LeO (pattern_split.j1 k y0 y1 y2) (pattern_split.j1 (k + 1) y0 y1 y2)) ∧ (∀ y0 y1 y2 y3 y4, LeO (pattern_split.l1 k y0 y1 y2 y3 y4) (pattern_split.l1 (k + 1) y0 y1 y2 y3 y4))
  | 0 => ⟨fun _ _ r h => by simp [pattern_split.l0] at h, fun _ _ _ r h => by simp [pattern_split.j1] at h, fun _ _ _ _ _ r h => by simp [pattern_split.l1] at h⟩
  | k + 1 => by
    obtain ⟨ih0, ih1, ih2⟩ := pattern_split.mono_l k
    refine ⟨?_, ?_, ?_⟩
    · intro y0 y1
      unfold pattern_split.l0
      repeat' first
      | (with_reducible exact ih0 _ _)
      | (with_reducible exact ih1 _ _ _)
      | (with_reducible exact ih2 _ _ _ _ _)
      | (with_reducible exact LeO.refl _)
      | (with_reducible exact LeO.none _)
      | (with_reducible refine LeO.ite ?_ ?_)
      | (with_reducible refine LeO.bind ?_ (fun _ => ?_))
      | exact ih0 _ _
      | exact ih1 _ _ _
      | exact ih2 _ _ _ _ _
      | exact LeO.none _
      | refine LeO.ite ?_ ?_
      | refine LeO.bind ?_ (fun _ => ?_)
    · intro y0 y1 y2
      unfold pattern_split.j1
      repeat' first
      | (with_reducible exact ih0 _ _)
      | (with_reducible exact ih1 _ _ _)
      | (with_reducible exact ih2 _ _ _ _ _)
      | (with_reducible exact LeO.refl _)
      | (with_reducible exact LeO.none _)
      | (with_reducible refine LeO.ite ?_ ?_)
      | (with_reducible refine LeO.bind ?_ (fun _ => ?_))
      | exact ih0 _ _
      | exact ih1 _ _ _
      | exact ih2 _ _ _ _ _
      | exact LeO.none _
      | refine LeO.ite ?_ ?_
      | refine LeO.bind ?_ (fun _ => ?_)
    · intro y0 y1 y2 y3 y4
      unfold pattern_split.l1
      repeat' first
      | (with_reducible exact ih0 _ _)
      | (with_reducible exact ih1 _ _ _)
      | (with_reducible exact ih2 _ _ _ _ _)
      | (with_reducible exact LeO.refl _)
      | (with_reducible exact LeO.none _)
      | (with_reducible refine LeO.ite ?_ ?_)
      | (with_reducible refine LeO.bind ?_ (fun _ => ?_))
      | exact ih0 _ _
      | exact ih1 _ _ _
      | exact ih2 _ _ _ _ _
      | exact LeO.none _
      | refine LeO.ite ?_ ?_
      | refine LeO.bind ?_ (fun _ => ?_)
theorem pattern_split.mono : ∀ a0 k, LeO (pattern_split.f k a0) (pattern_split.f (k + 1) a0) := by
  intro a0 k
  obtain ⟨ih0, ih1, ih2⟩ := pattern_split.mono_l k
  unfold pattern_split.f
  repeat' first
      | (with_reducible exact ih0 _ _)
      | (with_reducible exact ih1 _ _ _)
      | (with_reducible exact ih2 _ _ _ _ _)
      | (with_reducible exact LeO.refl _)
      | (with_reducible exact LeO.none _)
      | (with_reducible refine LeO.ite ?_ ?_)
      | (with_reducible refine LeO.bind ?_ (fun _ => ?_))
      | exact ih0 _ _
      | exact ih1 _ _ _
      | exact ih2 _ _ _ _ _
      | exact LeO.none _
      | refine LeO.ite ?_ ?_
      | refine LeO.bind ?_ (fun _ => ?_)
set_option maxHeartbeats 8000000 in
set_option maxRecDepth 100000 in
theorem pattern_split.calls (k : Nat) (a0 : ByteArray) (r1 : List (S151)) (r2 : Int) (w : World) (hN : pattern_split.Tab w) (h : pattern_split.f k a0 = some (r1, r2)) :
    Calls Tryd.prog 45 #[.string a0] w fun e w' => ∃ v0_ : Value, e = .returned (.tuple #[v0_, .int .i64 r2]) ∧ Kd.R k151 151 w' w.heap.size (fun _ => True) v0_ r1 ∧ Below w.heap.size w w' := by
  have hu151 := Tryd.underlying151
  have hu152 := Tryd.underlying152
  have gi0_ : ∀ W : World, (Instr.index 152 (.agg #[.string (⟨#[121]⟩ : ByteArray), .string (⟨#[109]⟩ : ByteArray), .string (⟨#[100]⟩ : ByteArray), .string (⟨#[121, 52]⟩ : ByteArray), .string (⟨#[109, 50]⟩ : ByteArray), .string (⟨#[100, 50]⟩ : ByteArray), .string (⟨#[110, 97, 109, 101]⟩ : ByteArray), .string (⟨#[119]⟩ : ByteArray)]) (.int .i64 0)).run Tryd.prog W = .ok (.string (⟨#[121]⟩ : ByteArray)) W := fun W => by kernel_rfl
  have gi1_ : ∀ W : World, (Instr.index 152 (.agg #[.string (⟨#[121]⟩ : ByteArray), .string (⟨#[109]⟩ : ByteArray), .string (⟨#[100]⟩ : ByteArray), .string (⟨#[121, 52]⟩ : ByteArray), .string (⟨#[109, 50]⟩ : ByteArray), .string (⟨#[100, 50]⟩ : ByteArray), .string (⟨#[110, 97, 109, 101]⟩ : ByteArray), .string (⟨#[119]⟩ : ByteArray)]) (.int .i64 1)).run Tryd.prog W = .ok (.string (⟨#[109]⟩ : ByteArray)) W := fun W => by kernel_rfl
  have gi2_ : ∀ W : World, (Instr.index 152 (.agg #[.string (⟨#[121]⟩ : ByteArray), .string (⟨#[109]⟩ : ByteArray), .string (⟨#[100]⟩ : ByteArray), .string (⟨#[121, 52]⟩ : ByteArray), .string (⟨#[109, 50]⟩ : ByteArray), .string (⟨#[100, 50]⟩ : ByteArray), .string (⟨#[110, 97, 109, 101]⟩ : ByteArray), .string (⟨#[119]⟩ : ByteArray)]) (.int .i64 2)).run Tryd.prog W = .ok (.string (⟨#[100]⟩ : ByteArray)) W := fun W => by kernel_rfl
  have gi3_ : ∀ W : World, (Instr.index 152 (.agg #[.string (⟨#[121]⟩ : ByteArray), .string (⟨#[109]⟩ : ByteArray), .string (⟨#[100]⟩ : ByteArray), .string (⟨#[121, 52]⟩ : ByteArray), .string (⟨#[109, 50]⟩ : ByteArray), .string (⟨#[100, 50]⟩ : ByteArray), .string (⟨#[110, 97, 109, 101]⟩ : ByteArray), .string (⟨#[119]⟩ : ByteArray)]) (.int .i64 3)).run Tryd.prog W = .ok (.string (⟨#[121, 52]⟩ : ByteArray)) W := fun W => by kernel_rfl
  have gi4_ : ∀ W : World, (Instr.index 152 (.agg #[.string (⟨#[121]⟩ : ByteArray), .string (⟨#[109]⟩ : ByteArray), .string (⟨#[100]⟩ : ByteArray), .string (⟨#[121, 52]⟩ : ByteArray), .string (⟨#[109, 50]⟩ : ByteArray), .string (⟨#[100, 50]⟩ : ByteArray), .string (⟨#[110, 97, 109, 101]⟩ : ByteArray), .string (⟨#[119]⟩ : ByteArray)]) (.int .i64 4)).run Tryd.prog W = .ok (.string (⟨#[109, 50]⟩ : ByteArray)) W := fun W => by kernel_rfl
  have gi5_ : ∀ W : World, (Instr.index 152 (.agg #[.string (⟨#[121]⟩ : ByteArray), .string (⟨#[109]⟩ : ByteArray), .string (⟨#[100]⟩ : ByteArray), .string (⟨#[121, 52]⟩ : ByteArray), .string (⟨#[109, 50]⟩ : ByteArray), .string (⟨#[100, 50]⟩ : ByteArray), .string (⟨#[110, 97, 109, 101]⟩ : ByteArray), .string (⟨#[119]⟩ : ByteArray)]) (.int .i64 5)).run Tryd.prog W = .ok (.string (⟨#[100, 50]⟩ : ByteArray)) W := fun W => by kernel_rfl
  have gi6_ : ∀ W : World, (Instr.index 152 (.agg #[.string (⟨#[121]⟩ : ByteArray), .string (⟨#[109]⟩ : ByteArray), .string (⟨#[100]⟩ : ByteArray), .string (⟨#[121, 52]⟩ : ByteArray), .string (⟨#[109, 50]⟩ : ByteArray), .string (⟨#[100, 50]⟩ : ByteArray), .string (⟨#[110, 97, 109, 101]⟩ : ByteArray), .string (⟨#[119]⟩ : ByteArray)]) (.int .i64 6)).run Tryd.prog W = .ok (.string (⟨#[110, 97, 109, 101]⟩ : ByteArray)) W := fun W => by kernel_rfl
  have gi7_ : ∀ W : World, (Instr.index 152 (.agg #[.string (⟨#[121]⟩ : ByteArray), .string (⟨#[109]⟩ : ByteArray), .string (⟨#[100]⟩ : ByteArray), .string (⟨#[121, 52]⟩ : ByteArray), .string (⟨#[109, 50]⟩ : ByteArray), .string (⟨#[100, 50]⟩ : ByteArray), .string (⟨#[110, 97, 109, 101]⟩ : ByteArray), .string (⟨#[119]⟩ : ByteArray)]) (.int .i64 7)).run Tryd.prog W = .ok (.string (⟨#[119]⟩ : ByteArray)) W := fun W => by kernel_rfl
  have HB := Aside0.mk (Below.refl w.heap.size w)
  have H : (if (a0.size : Int) > 60 then (some (([] : List (S151)), 2)) else (pattern_split.l0 k a0 ([] : List (S151)))) = some (r1, r2) := h
  clear h
  by_cases c2 : (a0.size : Int) > 60
  · rw [if_pos c2] at H
    have c2b0 : decide (60 < (a0.size : Int)) = true := decide_eq_true c2
    have c2b1 : decide (60 < a0.size) = true := decide_eq_true (by omega)
    clear c2
    simp only [Option.some.injEq, Prod.mk.injEq] at H
    obtain ⟨rfl, rfl⟩ := H
    go_enter Tryd.func45, Tryd.ntmps45
    go_wp2
    go_ret2
    exact ⟨_, by first | rfl | (simp [errW_none, errW_some] <;> rfl) | (simp [*, errW_none, errW_some] <;> rfl), by first | exact Kd.R_nil _ _ _ _ _ | exact Kd.N_nil _ _ _ _ _ | exact Kd.V_nil _ _ _ _ _ | exact Kd.Q_nil _ _ _ _ _ | exact Kd.S_nil _ _ _ _ _, by repeat (first | (with_reducible first | exact HB.out | apply below_alloc | apply pw_below_drewN | apply below_drew1) | exact HB.out)⟩
  · rw [if_neg c2] at H
    have c2b0 : decide (60 < (a0.size : Int)) = false := decide_eq_false c2
    have c2b1 : decide (60 < a0.size) = false := decide_eq_false (by omega)
    clear c2
    have H' := Aside0.mk H
    clear H
    go_enter Tryd.func45, Tryd.ntmps45
    go_wp2
    go_loopg [0, 4] k (fun kq v0 v4 w' => ∃ (x0_1 : ByteArray) (x4_1 : List (S151)), v0 = .string x0_1 ∧ Aside0 (pattern_split.l0 kq x0_1 x4_1 = some (r1, r2)) ∧ Aside0 (kq ≤ k) ∧ Aside0 (Kd.R k151 151 w' w.heap.size (fun _ => True) v4 x4_1) ∧ Aside0 (Below w.heap.size w w'))
    case atStart => exact ⟨(a0), (([] : List (S151))), (by first | rfl | (simp; done) | (simp [*]; done)), H', ⟨Nat.le_refl _⟩, ⟨by first | exact Kd.R_nil _ _ _ _ _ | exact Kd.N_nil _ _ _ _ _ | exact Kd.V_nil _ _ _ _ _ | exact Kd.Q_nil _ _ _ _ _ | exact Kd.S_nil _ _ _ _ _⟩, ⟨by repeat (first | (with_reducible first | exact HB.out | apply below_alloc | apply pw_below_drewN | apply below_drew1) | exact HB.out)⟩⟩
    case round =>
      clear H'
      try clear c2
      try clear c2b0
      try clear c2b1
      try clear p2
      obtain ⟨x0_1, x4_1, rfl, HA, HK1, HO_4, HB⟩ := hrel
      cases gk with
      | zero => exact absurd HA.out (by simp [pattern_split.l0])
      | succ k1 =>
        have H := HA.out
        clear HA
        simp only [pattern_split.l0] at H
        by_cases c3 : x0_1.toList = ([] : List UInt8)
        · rw [if_pos c3] at H
          have c3b0 : (x0_1.toList == ([] : List UInt8)) = true := beq_iff_eq.mpr c3
          have c3b1 : (x0_1.toList != ([] : List UInt8)) = false := bne_eq_false_iff_eq.mpr c3
          clear c3
          simp only [Option.some.injEq, Prod.mk.injEq] at H
          obtain ⟨rfl, rfl⟩ := H
          go_wp2
          go_ret2
          exact ⟨_, by first | rfl | (simp [errW_none, errW_some] <;> rfl) | (simp [*, errW_none, errW_some] <;> rfl), by (with_reducible repeat (first | apply Kd.R_alloc | apply Kd.R_drewN | apply Kd.R_drew)); exact HO_4.out, by repeat (first | (with_reducible first | exact HB.out | apply below_alloc | apply pw_below_drewN | apply below_drew1) | exact HB.out)⟩
        · rw [if_neg c3] at H
          have c3b0 : (x0_1.toList == ([] : List UInt8)) = false := beq_eq_false_iff_ne.mpr c3
          have c3b1 : (x0_1.toList != ([] : List UInt8)) = true := bne_iff_ne.mpr c3
          replace H := Option.bind_eq_some_iff.mp H
          obtain ⟨t104, A40, H⟩ := H
          replace H : (if t104 < 0 then (pattern_split.j1 k1 x0_1 x4_1 (x0_1.size : Int)) else (pattern_split.j1 k1 x0_1 x4_1 t104)) = some (r1, r2) := H
          have A4 := Aside0.mk A40
          clear A40
          have HC5 := Aside0.mk H
          clear H
          go_upto_if 18 with (first | ((with_reducible refine gate_callee (f := 88) rfl ?_); refine goesL_ (some 16) rfl rfl Tryd.func88 (by kernel_rfl) rfl #[.string x0_1, .string (⟨#[123, 125]⟩ : ByteArray)] rfl (by (try simp only [List.map_toArray, List.map_cons, List.map_nil]); first | done | rfl | (simp only [List.length_drop, List.length_take]; rfl)) ?_; (with_reducible refine (strings_IndexAny.calls x0_1 (⟨#[123, 125]⟩ : ByteArray) t104 _ A4.out).mono ?_); rintro e w6 ⟨rfl, hb⟩; refine ⟨_, rfl, ?_⟩; have n0_ := Aside0.mk (Kd.R_below (by (with_reducible repeat (first | apply Kd.R_alloc | apply Kd.R_drewN | apply Kd.R_drew)); exact HO_4.out) hb); have n1_ := Aside0.mk (below_step (by repeat (first | (with_reducible first | exact HB.out | apply below_alloc | apply pw_below_drewN | apply below_drew1) | exact HB.out)) hb); clear HO_4; clear HB; have HO_4 := n0_; have HB := n1_; clear n0_ n1_; (try clear hb); (try clear hb2); (try clear hk); (try clear hi)))
          (try simp only [Act.put, List.setIfInBounds_toArray, List.set_cons_zero, List.set_cons_succ])
          go_cut [5] (fun v5 wc => ∃ (kq : Nat) (x5_4 : Int), v5 = .int .i64 x5_4 ∧ Aside0 (pattern_split.j1 kq x0_1 x4_1 x5_4 = some (r1, r2)) ∧ Aside0 (kq ≤ k1) ∧ Aside0 (Kd.R k151 151 wc w.heap.size (fun _ => True) u4 x4_1) ∧ Aside0 (Below w.heap.size w wc))
          case first =>
            have H := HC5.out
            clear HC5
            by_cases c7 : t104 < 0
            · rw [if_pos c7] at H
              have c7b0 : decide (t104 < 0) = true := decide_eq_true c7
              clear c7
              (first | rw [c7b0] | (simp only [i64_w, i32_w]; rw [c7b0]) | skip)
              have H' := Aside0.mk H
              clear H
              go_wp2
              go_meet
              case rel => exact ⟨_, ((x0_1.size : Int)), (by first | rfl | (simp; done) | (simp [*]; done)), H', ⟨by have := HK1.out; first | omega | exact Nat.le_refl _⟩, ⟨by (with_reducible repeat (first | apply Kd.R_alloc | apply Kd.R_drewN | apply Kd.R_drew)); exact HO_4.out⟩, ⟨by repeat (first | (with_reducible first | exact HB.out | apply below_alloc | apply pw_below_drewN | apply below_drew1) | exact HB.out)⟩⟩
            · rw [if_neg c7] at H
              have c7b0 : decide (t104 < 0) = false := decide_eq_false c7
              clear c7
              (first | rw [c7b0] | (simp only [i64_w, i32_w]; rw [c7b0]) | skip)
              have H' := Aside0.mk H
              clear H
              go_wp2
              go_meet
              case rel => exact ⟨_, (t104), (by first | rfl | (simp; done) | (simp [*]; done)), H', ⟨by have := HK1.out; first | omega | exact Nat.le_refl _⟩, ⟨by (with_reducible repeat (first | apply Kd.R_alloc | apply Kd.R_drewN | apply Kd.R_drew)); exact HO_4.out⟩, ⟨by repeat (first | (with_reducible first | exact HB.out | apply below_alloc | apply pw_below_drewN | apply below_drew1) | exact HB.out)⟩⟩
          case rest =>
            clear HC5
            try clear c2
            try clear c2b0
            try clear c2b1
            try clear p2
            try clear c3
            try clear c3b0
            try clear c3b1
            try clear c4
            try clear c7
            try clear c7b0
            try clear p2
            obtain ⟨kq, x5_4, rfl, HA, HJ4, HO_4, HB⟩ := hcut
            cases kq with
            | zero => exact absurd HA.out (by simp [pattern_split.j1])
            | succ kj4 =>
              have H := HA.out
              clear HA
              simp only [pattern_split.j1] at H
              by_cases c8 : x5_4 > 0
              · rw [if_pos c8] at H
                have c8b0 : decide (0 < x5_4) = true := decide_eq_true c8
                clear c8
                by_cases c9 : 0 ≤ x5_4
                · rw [if_pos c9] at H
                  have c9b0 := eq_true c9
                  have c9b1 : decide (0 ≤ x5_4) = true := decide_eq_true c9
                  clear c9
                  by_cases c10 : x5_4 ≤ (x0_1.size : Int)
                  · rw [if_pos c10] at H
                    have c10b0 := eq_true c10
                    have c10b1 : decide (x5_4 ≤ (x0_1.size : Int)) = true := decide_eq_true c10
                    clear c10
                    by_cases c11 : x4_1.length < 4398046511104
                    · rw [if_pos c11] at H
                      have LMc11 := Aside0.mk c11
                      clear c11
                      obtain ⟨y105, hy105⟩ : ∃ y_ : List (S151), y_ = (x4_1 ++ [(⟨(⟨#[]⟩ : ByteArray), x0_1.extract 0 (x5_4 : Int).toNat⟩ : S151)]) := ⟨_, rfl⟩
                      replace H : (pattern_split.l0 kj4 (x0_1.extract (x5_4 : Int).toNat x0_1.size) y105) = some (r1, r2) := by first | (rw [hy105]; with_reducible exact H) | (have H2_ := (Option.bind_some _ _).symm.trans H; rw [hy105]; with_reducible exact H2_) | (have H2_ := (Option.bind_some _ _).symm.trans H; with_reducible exact H2_) | with_reducible exact H | (rw [hy105]; exact H) | exact H
                      have Ny105 := Aside0.mk hy105
                      clear hy105
                      have c12b0 := eq_true (of_decide_eq_true (by first | (with_reducible assumption) | assumption) : 0 ≤ x5_4)
                      have c13b0 := eq_true (of_decide_eq_true (by first | (with_reducible assumption) | assumption) : x5_4 ≤ (x0_1.size : Int))
                      have H' := Aside0.mk H
                      clear H
                      go_wp2_with (first | ((with_reducible refine gate_builtin (b := .append) (xs := #[.tmp 23, .tmp 28]) rfl ?_); at_builtin; refine Kd.R_append k151 (w0 := w) w.heap.size rfl (.tmp 23) (.tmp 28) 93 151 (.agg #[(.string ⟨#[]⟩), (.string ⟨#[]⟩)]) 32 rfl Tryd.underlying93 info151 rfl (by decide) (by omega) u4 x4_1 (⟨(⟨#[]⟩ : ByteArray), x0_1.extract 0 (x5_4 : Int).toNat⟩ : S151) [.string (⟨#[]⟩ : ByteArray), .string (x0_1.extract 0 (x5_4 : Int).toNat)] (fun _ => True) (fun _ => False) rfl rfl ?aP (fun _ hk => hk.elim) ?aF ?aO ?aB ?aS ?aL ?_; (case aP => exact k151_mkM _ _ _ (⟨(⟨#[]⟩ : ByteArray), x0_1.extract 0 (x5_4 : Int).toNat⟩ : S151)); (case aB => exact (by repeat (first | (with_reducible first | exact HB.out | apply below_alloc | apply pw_below_drewN | apply below_drew1) | exact HB.out))); (case aF => exact (fun _ _ => trivial)); (case aO => exact (by (with_reducible repeat (first | apply Kd.R_alloc | apply Kd.R_drewN | apply Kd.R_drew)); exact HO_4.out)); (case aS => exact (below_size (by repeat (first | (with_reducible first | exact HB.out | apply below_alloc | apply pw_below_drewN | apply below_drew1) | exact HB.out)))); (case aL => have := LMc11.out; omega); intro v106 w14 ho hb hg hat; rw [← Ny105.out] at ho; have n0_ := Aside0.mk (hb); have n1_ := Aside0.mk (ho); clear HB; clear HO_4; have HB := n0_; have HO107 := n1_; clear n0_ n1_; clear ho hb hg hat))
                      go_roundg kj4
                      case measure => have := HK1.out; have := HJ4.out; omega
                      case rel => exact ⟨(x0_1.extract (x5_4 : Int).toNat x0_1.size), (y105), (by first | rfl | (simp; done) | (simp [*]; done)), H', ⟨by have := HK1.out; have := HJ4.out; omega⟩, ⟨by (with_reducible repeat (first | apply Kd.R_alloc | apply Kd.R_drewN | apply Kd.R_drew)); exact HO107.out⟩, ⟨by repeat (first | (with_reducible first | exact HB.out | apply below_alloc | apply pw_below_drewN | apply below_drew1) | exact HB.out)⟩⟩
                    · rw [if_neg c11] at H
                      exact absurd H (by simp)
                  · rw [if_neg c10] at H
                    exact absurd H (by simp)
                · rw [if_neg c9] at H
                  exact absurd H (by simp)
              · rw [if_neg c8] at H
                have c8b0 : decide (0 < x5_4) = false := decide_eq_false c8
                clear c8
                replace H := Option.bind_eq_some_iff.mp H
                obtain ⟨t108, A150, H⟩ := H
                replace H : (if t108 ≤ 0 then (some (([] : List (S151)), 4)) else (pattern_split.l1 kj4 x0_1 x4_1 t108 false 0)) = some (r1, r2) := H
                have A15 := Aside0.mk A150
                clear A150
                by_cases c16 : t108 ≤ 0
                · rw [if_pos c16] at H
                  have c16b0 : decide (t108 ≤ 0) = true := decide_eq_true c16
                  clear c16
                  simp only [Option.some.injEq, Prod.mk.injEq] at H
                  obtain ⟨rfl, rfl⟩ := H
                  go_wp2_with (first | ((with_reducible refine gate_callee (f := 48) rfl ?_); refine goesL_ (some 34) rfl rfl Tryd.func48 (by kernel_rfl) rfl #[.string x0_1, .int .u8 125] rfl (by (try simp only [List.map_toArray, List.map_cons, List.map_nil]); first | done | rfl | (simp only [List.length_drop, List.length_take]; rfl)) ?_; (with_reducible refine (strings_IndexByte.calls x0_1 125 t108 _ A15.out).mono ?_); rintro e w' ⟨rfl, ⟨nd, rfl⟩⟩; refine ⟨_, rfl, ?_⟩))
                  go_ret2
                  exact ⟨_, by first | rfl | (simp [errW_none, errW_some] <;> rfl) | (simp [*, errW_none, errW_some] <;> rfl), by first | exact Kd.R_nil _ _ _ _ _ | exact Kd.N_nil _ _ _ _ _ | exact Kd.V_nil _ _ _ _ _ | exact Kd.Q_nil _ _ _ _ _ | exact Kd.S_nil _ _ _ _ _, by repeat (first | (with_reducible first | exact HB.out | apply below_alloc | apply pw_below_drewN | apply below_drew1) | exact HB.out)⟩
                · rw [if_neg c16] at H
                  have c16b0 : decide (t108 ≤ 0) = false := decide_eq_false c16
                  clear c16
                  have H' := Aside0.mk H
                  clear H
                  go_wp2_with (first | ((with_reducible refine gate_callee (f := 48) rfl ?_); refine goesL_ (some 34) rfl rfl Tryd.func48 (by kernel_rfl) rfl #[.string x0_1, .int .u8 125] rfl (by (try simp only [List.map_toArray, List.map_cons, List.map_nil]); first | done | rfl | (simp only [List.length_drop, List.length_take]; rfl)) ?_; (with_reducible refine (strings_IndexByte.calls x0_1 125 t108 _ A15.out).mono ?_); rintro e w' ⟨rfl, ⟨nd, rfl⟩⟩; have TB := hN.below (pw_below_drewN (n := nd) HB.out) (Nat.le_refl _); have g0_ := TB 0 _ rfl; have g1_ := TB 1 _ rfl; have g2_ := TB 2 _ rfl; have g3_ := TB 3 _ rfl; have g4_ := TB 4 _ rfl; have g5_ := TB 5 _ rfl; have g6_ := TB 6 _ rfl; have g7_ := TB 7 _ rfl; clear TB; refine ⟨_, rfl, ?_⟩))
                  go_loopg [7, 38] kj4 (fun kq v7 v38 w' => ∃ (x7_3 : Bool) (x38_3 : Int), v7 = .bool x7_3 ∧ v38 = .int .i64 x38_3 ∧ Aside0 (pattern_split.l1 kq x0_1 x4_1 t108 x7_3 x38_3 = some (r1, r2)) ∧ Aside0 (kq ≤ kj4) ∧ Aside0 (Kd.R k151 151 w' w.heap.size (fun _ => True) u4 x4_1) ∧ Aside0 (Below w.heap.size w w'))
                  case atStart => exact ⟨(false), (0), (by first | rfl | (simp; done) | (simp [*]; done)), (by first | rfl | (simp; done) | (simp [*]; done)), H', ⟨Nat.le_refl _⟩, ⟨by (with_reducible repeat (first | apply Kd.R_alloc | apply Kd.R_drewN | apply Kd.R_drew)); exact HO_4.out⟩, ⟨by repeat (first | (with_reducible first | exact HB.out | apply below_alloc | apply pw_below_drewN | apply below_drew1) | exact HB.out)⟩⟩
                  case round =>
                    clear H'
                    try clear c1
                    try clear c2
                    try clear c2b0
                    try clear c2b1
                    try clear p2
                    try clear c3
                    try clear c3b0
                    try clear c3b1
                    try clear c4
                    try clear c7
                    try clear c7b0
                    try clear c8
                    try clear c8b0
                    try clear c9
                    try clear c9b0
                    try clear c9b1
                    try clear c10
                    try clear c10b0
                    try clear c10b1
                    try clear c11
                    try clear c12
                    try clear c12b0
                    try clear c13
                    try clear c13b0
                    try clear c16
                    try clear c16b0
                    try clear p2
                    obtain ⟨x7_3, x38_3, rfl, rfl, HA, HK3, HO_4, HB⟩ := hrel
                    cases gk with
                    | zero => exact absurd HA.out (by simp [pattern_split.l1])
                    | succ k3 =>
                      have H := HA.out
                      clear HA
                      simp only [pattern_split.l1] at H
                      by_cases c17 : x38_3 < 8
                      · rw [if_pos c17] at H
                        have c17b0 : decide (x38_3 < 8) = true := decide_eq_true c17
                        clear c17
                        by_cases c18 : x38_3 = 0
                        · subst c18
                          have H1 : (if x7_3 = true then (pattern_split.l1 k3 x0_1 x4_1 t108 true (0 + 1)) else (if 1 ≤ t108 then (if t108 ≤ (x0_1.size : Int) then (pattern_split.l1 k3 x0_1 x4_1 t108 (([121] : List UInt8) == (x0_1.extract 1 (t108 : Int).toNat).toList) (0 + 1)) else (none)) else (none))) = some (r1, r2) := by rw [if_pos rfl] at H; exact H
                          clear H
                          have H := H1
                          clear H1
                          by_cases c19 : x7_3 = true
                          · subst c19
                            have H1 : (pattern_split.l1 k3 x0_1 x4_1 t108 true (0 + 1)) = some (r1, r2) := by rw [if_pos rfl] at H; exact H
                            clear H
                            have H := H1
                            clear H1
                            have H' := Aside0.mk H
                            clear H
                            go_wp2
                            go_roundg k3
                            case measure => have := HK1.out; have := HJ4.out; have := HK3.out; omega
                            case rel => exact ⟨(true), (0 + 1), (by first | rfl | (simp; done) | (simp [*]; done)), (by first | rfl | (simp; done) | (simp [*]; done)), H', ⟨by have := HK1.out; have := HJ4.out; have := HK3.out; omega⟩, ⟨by (with_reducible repeat (first | apply Kd.R_alloc | apply Kd.R_drewN | apply Kd.R_drew)); exact HO_4.out⟩, ⟨by repeat (first | (with_reducible first | exact HB.out | apply below_alloc | apply pw_below_drewN | apply below_drew1) | exact HB.out)⟩⟩
                          · replace c19 := Bool.eq_false_iff.mpr c19
                            subst c19
                            have H1 : (if 1 ≤ t108 then (if t108 ≤ (x0_1.size : Int) then (pattern_split.l1 k3 x0_1 x4_1 t108 (([121] : List UInt8) == (x0_1.extract 1 (t108 : Int).toNat).toList) (0 + 1)) else (none)) else (none)) = some (r1, r2) := by rw [if_neg (show ¬ (false = true) by decide)] at H; exact H
                            clear H
                            have H := H1
                            clear H1
                            by_cases c20 : 1 ≤ t108
                            · rw [if_pos c20] at H
                              have c20b0 := eq_true c20
                              have c20b1 : decide (1 ≤ t108) = true := decide_eq_true c20
                              clear c20
                              by_cases c21 : t108 ≤ (x0_1.size : Int)
                              · rw [if_pos c21] at H
                                have c21b0 := eq_true c21
                                have c21b1 : decide (t108 ≤ (x0_1.size : Int)) = true := decide_eq_true c21
                                clear c21
                                have H' := Aside0.mk H
                                clear H
                                go_wp2
                                go_roundg k3
                                case measure => have := HK1.out; have := HJ4.out; have := HK3.out; omega
                                case rel => exact ⟨((([121] : List UInt8) == (x0_1.extract 1 (t108 : Int).toNat).toList)), (0 + 1), (by first | rfl | (simp; done) | (simp [*]; done)), (by first | rfl | (simp; done) | (simp [*]; done)), H', ⟨by have := HK1.out; have := HJ4.out; have := HK3.out; omega⟩, ⟨by (with_reducible repeat (first | apply Kd.R_alloc | apply Kd.R_drewN | apply Kd.R_drew)); exact HO_4.out⟩, ⟨by repeat (first | (with_reducible first | exact HB.out | apply below_alloc | apply pw_below_drewN | apply below_drew1) | exact HB.out)⟩⟩
                              · rw [if_neg c21] at H
                                exact absurd H (by simp)
                            · rw [if_neg c20] at H
                              exact absurd H (by simp)
                        · rw [if_neg c18] at H
                          by_cases c22 : x38_3 = 1
                          · subst c22
                            have H1 : (if x7_3 = true then (pattern_split.l1 k3 x0_1 x4_1 t108 true (1 + 1)) else (if 1 ≤ t108 then (if t108 ≤ (x0_1.size : Int) then (pattern_split.l1 k3 x0_1 x4_1 t108 (([109] : List UInt8) == (x0_1.extract 1 (t108 : Int).toNat).toList) (1 + 1)) else (none)) else (none))) = some (r1, r2) := by rw [if_pos rfl] at H; exact H
                            clear H
                            have H := H1
                            clear H1
                            by_cases c23 : x7_3 = true
                            · subst c23
                              have H1 : (pattern_split.l1 k3 x0_1 x4_1 t108 true (1 + 1)) = some (r1, r2) := by rw [if_pos rfl] at H; exact H
                              clear H
                              have H := H1
                              clear H1
                              have H' := Aside0.mk H
                              clear H
                              go_wp2
                              go_roundg k3
                              case measure => have := HK1.out; have := HJ4.out; have := HK3.out; omega
                              case rel => exact ⟨(true), (1 + 1), (by first | rfl | (simp; done) | (simp [*]; done)), (by first | rfl | (simp; done) | (simp [*]; done)), H', ⟨by have := HK1.out; have := HJ4.out; have := HK3.out; omega⟩, ⟨by (with_reducible repeat (first | apply Kd.R_alloc | apply Kd.R_drewN | apply Kd.R_drew)); exact HO_4.out⟩, ⟨by repeat (first | (with_reducible first | exact HB.out | apply below_alloc | apply pw_below_drewN | apply below_drew1) | exact HB.out)⟩⟩
                            · replace c23 := Bool.eq_false_iff.mpr c23
                              subst c23
                              have H1 : (if 1 ≤ t108 then (if t108 ≤ (x0_1.size : Int) then (pattern_split.l1 k3 x0_1 x4_1 t108 (([109] : List UInt8) == (x0_1.extract 1 (t108 : Int).toNat).toList) (1 + 1)) else (none)) else (none)) = some (r1, r2) := by rw [if_neg (show ¬ (false = true) by decide)] at H; exact H
                              clear H
                              have H := H1
                              clear H1
                              by_cases c24 : 1 ≤ t108
                              · rw [if_pos c24] at H
                                have c24b0 := eq_true c24
                                have c24b1 : decide (1 ≤ t108) = true := decide_eq_true c24
                                clear c24
                                by_cases c25 : t108 ≤ (x0_1.size : Int)
                                · rw [if_pos c25] at H
                                  have c25b0 := eq_true c25
                                  have c25b1 : decide (t108 ≤ (x0_1.size : Int)) = true := decide_eq_true c25
                                  clear c25
                                  have H' := Aside0.mk H
                                  clear H
                                  go_wp2
                                  go_roundg k3
                                  case measure => have := HK1.out; have := HJ4.out; have := HK3.out; omega
                                  case rel => exact ⟨((([109] : List UInt8) == (x0_1.extract 1 (t108 : Int).toNat).toList)), (1 + 1), (by first | rfl | (simp; done) | (simp [*]; done)), (by first | rfl | (simp; done) | (simp [*]; done)), H', ⟨by have := HK1.out; have := HJ4.out; have := HK3.out; omega⟩, ⟨by (with_reducible repeat (first | apply Kd.R_alloc | apply Kd.R_drewN | apply Kd.R_drew)); exact HO_4.out⟩, ⟨by repeat (first | (with_reducible first | exact HB.out | apply below_alloc | apply pw_below_drewN | apply below_drew1) | exact HB.out)⟩⟩
                                · rw [if_neg c25] at H
                                  exact absurd H (by simp)
                              · rw [if_neg c24] at H
                                exact absurd H (by simp)
                          · rw [if_neg c22] at H
                            by_cases c26 : x38_3 = 2
                            · subst c26
                              have H1 : (if x7_3 = true then (pattern_split.l1 k3 x0_1 x4_1 t108 true (2 + 1)) else (if 1 ≤ t108 then (if t108 ≤ (x0_1.size : Int) then (pattern_split.l1 k3 x0_1 x4_1 t108 (([100] : List UInt8) == (x0_1.extract 1 (t108 : Int).toNat).toList) (2 + 1)) else (none)) else (none))) = some (r1, r2) := by rw [if_pos rfl] at H; exact H
                              clear H
                              have H := H1
                              clear H1
                              by_cases c27 : x7_3 = true
                              · subst c27
                                have H1 : (pattern_split.l1 k3 x0_1 x4_1 t108 true (2 + 1)) = some (r1, r2) := by rw [if_pos rfl] at H; exact H
                                clear H
                                have H := H1
                                clear H1
                                have H' := Aside0.mk H
                                clear H
                                go_wp2
                                go_roundg k3
                                case measure => have := HK1.out; have := HJ4.out; have := HK3.out; omega
                                case rel => exact ⟨(true), (2 + 1), (by first | rfl | (simp; done) | (simp [*]; done)), (by first | rfl | (simp; done) | (simp [*]; done)), H', ⟨by have := HK1.out; have := HJ4.out; have := HK3.out; omega⟩, ⟨by (with_reducible repeat (first | apply Kd.R_alloc | apply Kd.R_drewN | apply Kd.R_drew)); exact HO_4.out⟩, ⟨by repeat (first | (with_reducible first | exact HB.out | apply below_alloc | apply pw_below_drewN | apply below_drew1) | exact HB.out)⟩⟩
                              · replace c27 := Bool.eq_false_iff.mpr c27
                                subst c27
                                have H1 : (if 1 ≤ t108 then (if t108 ≤ (x0_1.size : Int) then (pattern_split.l1 k3 x0_1 x4_1 t108 (([100] : List UInt8) == (x0_1.extract 1 (t108 : Int).toNat).toList) (2 + 1)) else (none)) else (none)) = some (r1, r2) := by rw [if_neg (show ¬ (false = true) by decide)] at H; exact H
                                clear H
                                have H := H1
                                clear H1
                                by_cases c28 : 1 ≤ t108
                                · rw [if_pos c28] at H
                                  have c28b0 := eq_true c28
                                  have c28b1 : decide (1 ≤ t108) = true := decide_eq_true c28
                                  clear c28
                                  by_cases c29 : t108 ≤ (x0_1.size : Int)
                                  · rw [if_pos c29] at H
                                    have c29b0 := eq_true c29
                                    have c29b1 : decide (t108 ≤ (x0_1.size : Int)) = true := decide_eq_true c29
                                    clear c29
                                    have H' := Aside0.mk H
                                    clear H
                                    go_wp2
                                    go_roundg k3
                                    case measure => have := HK1.out; have := HJ4.out; have := HK3.out; omega
                                    case rel => exact ⟨((([100] : List UInt8) == (x0_1.extract 1 (t108 : Int).toNat).toList)), (2 + 1), (by first | rfl | (simp; done) | (simp [*]; done)), (by first | rfl | (simp; done) | (simp [*]; done)), H', ⟨by have := HK1.out; have := HJ4.out; have := HK3.out; omega⟩, ⟨by (with_reducible repeat (first | apply Kd.R_alloc | apply Kd.R_drewN | apply Kd.R_drew)); exact HO_4.out⟩, ⟨by repeat (first | (with_reducible first | exact HB.out | apply below_alloc | apply pw_below_drewN | apply below_drew1) | exact HB.out)⟩⟩
                                  · rw [if_neg c29] at H
                                    exact absurd H (by simp)
                                · rw [if_neg c28] at H
                                  exact absurd H (by simp)
                            · rw [if_neg c26] at H
                              by_cases c30 : x38_3 = 3
                              · subst c30
                                have H1 : (if x7_3 = true then (pattern_split.l1 k3 x0_1 x4_1 t108 true (3 + 1)) else (if 1 ≤ t108 then (if t108 ≤ (x0_1.size : Int) then (pattern_split.l1 k3 x0_1 x4_1 t108 (([121, 52] : List UInt8) == (x0_1.extract 1 (t108 : Int).toNat).toList) (3 + 1)) else (none)) else (none))) = some (r1, r2) := by rw [if_pos rfl] at H; exact H
                                clear H
                                have H := H1
                                clear H1
                                by_cases c31 : x7_3 = true
                                · subst c31
                                  have H1 : (pattern_split.l1 k3 x0_1 x4_1 t108 true (3 + 1)) = some (r1, r2) := by rw [if_pos rfl] at H; exact H
                                  clear H
                                  have H := H1
                                  clear H1
                                  have H' := Aside0.mk H
                                  clear H
                                  go_wp2
                                  go_roundg k3
                                  case measure => have := HK1.out; have := HJ4.out; have := HK3.out; omega
                                  case rel => exact ⟨(true), (3 + 1), (by first | rfl | (simp; done) | (simp [*]; done)), (by first | rfl | (simp; done) | (simp [*]; done)), H', ⟨by have := HK1.out; have := HJ4.out; have := HK3.out; omega⟩, ⟨by (with_reducible repeat (first | apply Kd.R_alloc | apply Kd.R_drewN | apply Kd.R_drew)); exact HO_4.out⟩, ⟨by repeat (first | (with_reducible first | exact HB.out | apply below_alloc | apply pw_below_drewN | apply below_drew1) | exact HB.out)⟩⟩
                                · replace c31 := Bool.eq_false_iff.mpr c31
                                  subst c31
                                  have H1 : (if 1 ≤ t108 then (if t108 ≤ (x0_1.size : Int) then (pattern_split.l1 k3 x0_1 x4_1 t108 (([121, 52] : List UInt8) == (x0_1.extract 1 (t108 : Int).toNat).toList) (3 + 1)) else (none)) else (none)) = some (r1, r2) := by rw [if_neg (show ¬ (false = true) by decide)] at H; exact H
                                  clear H
                                  have H := H1
                                  clear H1
                                  by_cases c32 : 1 ≤ t108
                                  · rw [if_pos c32] at H
                                    have c32b0 := eq_true c32
                                    have c32b1 : decide (1 ≤ t108) = true := decide_eq_true c32
                                    clear c32
                                    by_cases c33 : t108 ≤ (x0_1.size : Int)
                                    · rw [if_pos c33] at H
                                      have c33b0 := eq_true c33
                                      have c33b1 : decide (t108 ≤ (x0_1.size : Int)) = true := decide_eq_true c33
                                      clear c33
                                      have H' := Aside0.mk H
                                      clear H
                                      go_wp2
                                      go_roundg k3
                                      case measure => have := HK1.out; have := HJ4.out; have := HK3.out; omega
                                      case rel => exact ⟨((([121, 52] : List UInt8) == (x0_1.extract 1 (t108 : Int).toNat).toList)), (3 + 1), (by first | rfl | (simp; done) | (simp [*]; done)), (by first | rfl | (simp; done) | (simp [*]; done)), H', ⟨by have := HK1.out; have := HJ4.out; have := HK3.out; omega⟩, ⟨by (with_reducible repeat (first | apply Kd.R_alloc | apply Kd.R_drewN | apply Kd.R_drew)); exact HO_4.out⟩, ⟨by repeat (first | (with_reducible first | exact HB.out | apply below_alloc | apply pw_below_drewN | apply below_drew1) | exact HB.out)⟩⟩
                                    · rw [if_neg c33] at H
                                      exact absurd H (by simp)
                                  · rw [if_neg c32] at H
                                    exact absurd H (by simp)
                              · rw [if_neg c30] at H
                                by_cases c34 : x38_3 = 4
                                · subst c34
                                  have H1 : (if x7_3 = true then (pattern_split.l1 k3 x0_1 x4_1 t108 true (4 + 1)) else (if 1 ≤ t108 then (if t108 ≤ (x0_1.size : Int) then (pattern_split.l1 k3 x0_1 x4_1 t108 (([109, 50] : List UInt8) == (x0_1.extract 1 (t108 : Int).toNat).toList) (4 + 1)) else (none)) else (none))) = some (r1, r2) := by rw [if_pos rfl] at H; exact H
                                  clear H
                                  have H := H1
                                  clear H1
                                  by_cases c35 : x7_3 = true
                                  · subst c35
                                    have H1 : (pattern_split.l1 k3 x0_1 x4_1 t108 true (4 + 1)) = some (r1, r2) := by rw [if_pos rfl] at H; exact H
                                    clear H
                                    have H := H1
                                    clear H1
                                    have H' := Aside0.mk H
                                    clear H
                                    go_wp2
                                    go_roundg k3
                                    case measure => have := HK1.out; have := HJ4.out; have := HK3.out; omega
                                    case rel => exact ⟨(true), (4 + 1), (by first | rfl | (simp; done) | (simp [*]; done)), (by first | rfl | (simp; done) | (simp [*]; done)), H', ⟨by have := HK1.out; have := HJ4.out; have := HK3.out; omega⟩, ⟨by (with_reducible repeat (first | apply Kd.R_alloc | apply Kd.R_drewN | apply Kd.R_drew)); exact HO_4.out⟩, ⟨by repeat (first | (with_reducible first | exact HB.out | apply below_alloc | apply pw_below_drewN | apply below_drew1) | exact HB.out)⟩⟩
                                  · replace c35 := Bool.eq_false_iff.mpr c35
                                    subst c35
                                    have H1 : (if 1 ≤ t108 then (if t108 ≤ (x0_1.size : Int) then (pattern_split.l1 k3 x0_1 x4_1 t108 (([109, 50] : List UInt8) == (x0_1.extract 1 (t108 : Int).toNat).toList) (4 + 1)) else (none)) else (none)) = some (r1, r2) := by rw [if_neg (show ¬ (false = true) by decide)] at H; exact H
                                    clear H
                                    have H := H1
                                    clear H1
                                    by_cases c36 : 1 ≤ t108
                                    · rw [if_pos c36] at H
                                      have c36b0 := eq_true c36
                                      have c36b1 : decide (1 ≤ t108) = true := decide_eq_true c36
                                      clear c36
                                      by_cases c37 : t108 ≤ (x0_1.size : Int)
                                      · rw [if_pos c37] at H
                                        have c37b0 := eq_true c37
                                        have c37b1 : decide (t108 ≤ (x0_1.size : Int)) = true := decide_eq_true c37
                                        clear c37
                                        have H' := Aside0.mk H
                                        clear H
                                        go_wp2
                                        go_roundg k3
                                        case measure => have := HK1.out; have := HJ4.out; have := HK3.out; omega
                                        case rel => exact ⟨((([109, 50] : List UInt8) == (x0_1.extract 1 (t108 : Int).toNat).toList)), (4 + 1), (by first | rfl | (simp; done) | (simp [*]; done)), (by first | rfl | (simp; done) | (simp [*]; done)), H', ⟨by have := HK1.out; have := HJ4.out; have := HK3.out; omega⟩, ⟨by (with_reducible repeat (first | apply Kd.R_alloc | apply Kd.R_drewN | apply Kd.R_drew)); exact HO_4.out⟩, ⟨by repeat (first | (with_reducible first | exact HB.out | apply below_alloc | apply pw_below_drewN | apply below_drew1) | exact HB.out)⟩⟩
                                      · rw [if_neg c37] at H
                                        exact absurd H (by simp)
                                    · rw [if_neg c36] at H
                                      exact absurd H (by simp)
                                · rw [if_neg c34] at H
                                  by_cases c38 : x38_3 = 5
                                  · subst c38
                                    have H1 : (if x7_3 = true then (pattern_split.l1 k3 x0_1 x4_1 t108 true (5 + 1)) else (if 1 ≤ t108 then (if t108 ≤ (x0_1.size : Int) then (pattern_split.l1 k3 x0_1 x4_1 t108 (([100, 50] : List UInt8) == (x0_1.extract 1 (t108 : Int).toNat).toList) (5 + 1)) else (none)) else (none))) = some (r1, r2) := by rw [if_pos rfl] at H; exact H
                                    clear H
                                    have H := H1
                                    clear H1
                                    by_cases c39 : x7_3 = true
                                    · subst c39
                                      have H1 : (pattern_split.l1 k3 x0_1 x4_1 t108 true (5 + 1)) = some (r1, r2) := by rw [if_pos rfl] at H; exact H
                                      clear H
                                      have H := H1
                                      clear H1
                                      have H' := Aside0.mk H
                                      clear H
                                      go_wp2
                                      go_roundg k3
                                      case measure => have := HK1.out; have := HJ4.out; have := HK3.out; omega
                                      case rel => exact ⟨(true), (5 + 1), (by first | rfl | (simp; done) | (simp [*]; done)), (by first | rfl | (simp; done) | (simp [*]; done)), H', ⟨by have := HK1.out; have := HJ4.out; have := HK3.out; omega⟩, ⟨by (with_reducible repeat (first | apply Kd.R_alloc | apply Kd.R_drewN | apply Kd.R_drew)); exact HO_4.out⟩, ⟨by repeat (first | (with_reducible first | exact HB.out | apply below_alloc | apply pw_below_drewN | apply below_drew1) | exact HB.out)⟩⟩
                                    · replace c39 := Bool.eq_false_iff.mpr c39
                                      subst c39
                                      have H1 : (if 1 ≤ t108 then (if t108 ≤ (x0_1.size : Int) then (pattern_split.l1 k3 x0_1 x4_1 t108 (([100, 50] : List UInt8) == (x0_1.extract 1 (t108 : Int).toNat).toList) (5 + 1)) else (none)) else (none)) = some (r1, r2) := by rw [if_neg (show ¬ (false = true) by decide)] at H; exact H
                                      clear H
                                      have H := H1
                                      clear H1
                                      by_cases c40 : 1 ≤ t108
                                      · rw [if_pos c40] at H
                                        have c40b0 := eq_true c40
                                        have c40b1 : decide (1 ≤ t108) = true := decide_eq_true c40
                                        clear c40
                                        by_cases c41 : t108 ≤ (x0_1.size : Int)
                                        · rw [if_pos c41] at H
                                          have c41b0 := eq_true c41
                                          have c41b1 : decide (t108 ≤ (x0_1.size : Int)) = true := decide_eq_true c41
                                          clear c41
                                          have H' := Aside0.mk H
                                          clear H
                                          go_wp2
                                          go_roundg k3
                                          case measure => have := HK1.out; have := HJ4.out; have := HK3.out; omega
                                          case rel => exact ⟨((([100, 50] : List UInt8) == (x0_1.extract 1 (t108 : Int).toNat).toList)), (5 + 1), (by first | rfl | (simp; done) | (simp [*]; done)), (by first | rfl | (simp; done) | (simp [*]; done)), H', ⟨by have := HK1.out; have := HJ4.out; have := HK3.out; omega⟩, ⟨by (with_reducible repeat (first | apply Kd.R_alloc | apply Kd.R_drewN | apply Kd.R_drew)); exact HO_4.out⟩, ⟨by repeat (first | (with_reducible first | exact HB.out | apply below_alloc | apply pw_below_drewN | apply below_drew1) | exact HB.out)⟩⟩
                                        · rw [if_neg c41] at H
                                          exact absurd H (by simp)
                                      · rw [if_neg c40] at H
                                        exact absurd H (by simp)
                                  · rw [if_neg c38] at H
                                    by_cases c42 : x38_3 = 6
                                    · subst c42
                                      have H1 : (if x7_3 = true then (pattern_split.l1 k3 x0_1 x4_1 t108 true (6 + 1)) else (if 1 ≤ t108 then (if t108 ≤ (x0_1.size : Int) then (pattern_split.l1 k3 x0_1 x4_1 t108 (([110, 97, 109, 101] : List UInt8) == (x0_1.extract 1 (t108 : Int).toNat).toList) (6 + 1)) else (none)) else (none))) = some (r1, r2) := by rw [if_pos rfl] at H; exact H
                                      clear H
                                      have H := H1
                                      clear H1
                                      by_cases c43 : x7_3 = true
                                      · subst c43
                                        have H1 : (pattern_split.l1 k3 x0_1 x4_1 t108 true (6 + 1)) = some (r1, r2) := by rw [if_pos rfl] at H; exact H
                                        clear H
                                        have H := H1
                                        clear H1
                                        have H' := Aside0.mk H
                                        clear H
                                        go_wp2
                                        go_roundg k3
                                        case measure => have := HK1.out; have := HJ4.out; have := HK3.out; omega
                                        case rel => exact ⟨(true), (6 + 1), (by first | rfl | (simp; done) | (simp [*]; done)), (by first | rfl | (simp; done) | (simp [*]; done)), H', ⟨by have := HK1.out; have := HJ4.out; have := HK3.out; omega⟩, ⟨by (with_reducible repeat (first | apply Kd.R_alloc | apply Kd.R_drewN | apply Kd.R_drew)); exact HO_4.out⟩, ⟨by repeat (first | (with_reducible first | exact HB.out | apply below_alloc | apply pw_below_drewN | apply below_drew1) | exact HB.out)⟩⟩
                                      · replace c43 := Bool.eq_false_iff.mpr c43
                                        subst c43
                                        have H1 : (if 1 ≤ t108 then (if t108 ≤ (x0_1.size : Int) then (pattern_split.l1 k3 x0_1 x4_1 t108 (([110, 97, 109, 101] : List UInt8) == (x0_1.extract 1 (t108 : Int).toNat).toList) (6 + 1)) else (none)) else (none)) = some (r1, r2) := by rw [if_neg (show ¬ (false = true) by decide)] at H; exact H
                                        clear H
                                        have H := H1
                                        clear H1
                                        by_cases c44 : 1 ≤ t108
                                        · rw [if_pos c44] at H
                                          have c44b0 := eq_true c44
                                          have c44b1 : decide (1 ≤ t108) = true := decide_eq_true c44
                                          clear c44
                                          by_cases c45 : t108 ≤ (x0_1.size : Int)
                                          · rw [if_pos c45] at H
                                            have c45b0 := eq_true c45
                                            have c45b1 : decide (t108 ≤ (x0_1.size : Int)) = true := decide_eq_true c45
                                            clear c45
                                            have H' := Aside0.mk H
                                            clear H
                                            go_wp2
                                            go_roundg k3
                                            case measure => have := HK1.out; have := HJ4.out; have := HK3.out; omega
                                            case rel => exact ⟨((([110, 97, 109, 101] : List UInt8) == (x0_1.extract 1 (t108 : Int).toNat).toList)), (6 + 1), (by first | rfl | (simp; done) | (simp [*]; done)), (by first | rfl | (simp; done) | (simp [*]; done)), H', ⟨by have := HK1.out; have := HJ4.out; have := HK3.out; omega⟩, ⟨by (with_reducible repeat (first | apply Kd.R_alloc | apply Kd.R_drewN | apply Kd.R_drew)); exact HO_4.out⟩, ⟨by repeat (first | (with_reducible first | exact HB.out | apply below_alloc | apply pw_below_drewN | apply below_drew1) | exact HB.out)⟩⟩
                                          · rw [if_neg c45] at H
                                            exact absurd H (by simp)
                                        · rw [if_neg c44] at H
                                          exact absurd H (by simp)
                                    · rw [if_neg c42] at H
                                      by_cases c46 : x38_3 = 7
                                      · subst c46
                                        have H1 : (if x7_3 = true then (pattern_split.l1 k3 x0_1 x4_1 t108 true (7 + 1)) else (if 1 ≤ t108 then (if t108 ≤ (x0_1.size : Int) then (pattern_split.l1 k3 x0_1 x4_1 t108 (([119] : List UInt8) == (x0_1.extract 1 (t108 : Int).toNat).toList) (7 + 1)) else (none)) else (none))) = some (r1, r2) := by rw [if_pos rfl] at H; exact H
                                        clear H
                                        have H := H1
                                        clear H1
                                        by_cases c47 : x7_3 = true
                                        · subst c47
                                          have H1 : (pattern_split.l1 k3 x0_1 x4_1 t108 true (7 + 1)) = some (r1, r2) := by rw [if_pos rfl] at H; exact H
                                          clear H
                                          have H := H1
                                          clear H1
                                          have H' := Aside0.mk H
                                          clear H
                                          go_wp2
                                          go_roundg k3
                                          case measure => have := HK1.out; have := HJ4.out; have := HK3.out; omega
                                          case rel => exact ⟨(true), (7 + 1), (by first | rfl | (simp; done) | (simp [*]; done)), (by first | rfl | (simp; done) | (simp [*]; done)), H', ⟨by have := HK1.out; have := HJ4.out; have := HK3.out; omega⟩, ⟨by (with_reducible repeat (first | apply Kd.R_alloc | apply Kd.R_drewN | apply Kd.R_drew)); exact HO_4.out⟩, ⟨by repeat (first | (with_reducible first | exact HB.out | apply below_alloc | apply pw_below_drewN | apply below_drew1) | exact HB.out)⟩⟩
                                        · replace c47 := Bool.eq_false_iff.mpr c47
                                          subst c47
                                          have H1 : (if 1 ≤ t108 then (if t108 ≤ (x0_1.size : Int) then (pattern_split.l1 k3 x0_1 x4_1 t108 (([119] : List UInt8) == (x0_1.extract 1 (t108 : Int).toNat).toList) (7 + 1)) else (none)) else (none)) = some (r1, r2) := by rw [if_neg (show ¬ (false = true) by decide)] at H; exact H
                                          clear H
                                          have H := H1
                                          clear H1
                                          by_cases c48 : 1 ≤ t108
                                          · rw [if_pos c48] at H
                                            have c48b0 := eq_true c48
                                            have c48b1 : decide (1 ≤ t108) = true := decide_eq_true c48
                                            clear c48
                                            by_cases c49 : t108 ≤ (x0_1.size : Int)
                                            · rw [if_pos c49] at H
                                              have c49b0 := eq_true c49
                                              have c49b1 : decide (t108 ≤ (x0_1.size : Int)) = true := decide_eq_true c49
                                              clear c49
                                              have H' := Aside0.mk H
                                              clear H
                                              go_wp2
                                              go_roundg k3
                                              case measure => have := HK1.out; have := HJ4.out; have := HK3.out; omega
                                              case rel => exact ⟨((([119] : List UInt8) == (x0_1.extract 1 (t108 : Int).toNat).toList)), (7 + 1), (by first | rfl | (simp; done) | (simp [*]; done)), (by first | rfl | (simp; done) | (simp [*]; done)), H', ⟨by have := HK1.out; have := HJ4.out; have := HK3.out; omega⟩, ⟨by (with_reducible repeat (first | apply Kd.R_alloc | apply Kd.R_drewN | apply Kd.R_drew)); exact HO_4.out⟩, ⟨by repeat (first | (with_reducible first | exact HB.out | apply below_alloc | apply pw_below_drewN | apply below_drew1) | exact HB.out)⟩⟩
                                            · rw [if_neg c49] at H
                                              exact absurd H (by simp)
                                          · rw [if_neg c48] at H
                                            exact absurd H (by simp)
                                      · rw [if_neg c46] at H
                                        exact absurd H (by simp)
                      · rw [if_neg c17] at H
                        have c17b0 : decide (x38_3 < 8) = false := decide_eq_false c17
                        clear c17
                        by_cases c50 : x7_3 = true
                        · subst c50
                          have H1 : (if 1 ≤ t108 then (if t108 ≤ (x0_1.size : Int) then (if x4_1.length < 4398046511104 then (if 0 ≤ (wrap64 (t108 + 1)) then (if (wrap64 (t108 + 1)) ≤ (x0_1.size : Int) then (pattern_split.l0 k3 (x0_1.extract ((wrap64 (t108 + 1)) : Int).toNat x0_1.size) (x4_1 ++ [(⟨x0_1.extract 1 (t108 : Int).toNat, (⟨#[]⟩ : ByteArray)⟩ : S151)])) else (none)) else (none)) else (none)) else (none)) else (none)) = some (r1, r2) := by rw [if_pos rfl] at H; exact H
                          clear H
                          have H := H1
                          clear H1
                          by_cases c51 : 1 ≤ t108
                          · rw [if_pos c51] at H
                            have c51b0 := eq_true c51
                            have c51b1 : decide (1 ≤ t108) = true := decide_eq_true c51
                            clear c51
                            by_cases c52 : t108 ≤ (x0_1.size : Int)
                            · rw [if_pos c52] at H
                              have c52b0 := eq_true c52
                              have c52b1 : decide (t108 ≤ (x0_1.size : Int)) = true := decide_eq_true c52
                              clear c52
                              by_cases c53 : x4_1.length < 4398046511104
                              · rw [if_pos c53] at H
                                have LMc53 := Aside0.mk c53
                                clear c53
                                obtain ⟨y109, hy109⟩ : ∃ y_ : List (S151), y_ = (x4_1 ++ [(⟨x0_1.extract 1 (t108 : Int).toNat, (⟨#[]⟩ : ByteArray)⟩ : S151)]) := ⟨_, rfl⟩
                                replace H : (if 0 ≤ (wrap64 (t108 + 1)) then (if (wrap64 (t108 + 1)) ≤ (x0_1.size : Int) then (pattern_split.l0 k3 (x0_1.extract ((wrap64 (t108 + 1)) : Int).toNat x0_1.size) y109) else (none)) else (none)) = some (r1, r2) := by first | (rw [hy109]; with_reducible exact H) | (have H2_ := (Option.bind_some _ _).symm.trans H; rw [hy109]; with_reducible exact H2_) | (have H2_ := (Option.bind_some _ _).symm.trans H; with_reducible exact H2_) | with_reducible exact H | (rw [hy109]; exact H) | exact H
                                have Ny109 := Aside0.mk hy109
                                clear hy109
                                obtain ⟨ji54, hji54⟩ : ∃ j_ : Int, (wrap64 (t108 + 1)) = j_ := ⟨_, rfl⟩
                                replace H : (if 0 ≤ (ji54) then (if (ji54) ≤ (x0_1.size : Int) then (pattern_split.l0 k3 (x0_1.extract ((ji54) : Int).toNat x0_1.size) y109) else (none)) else (none)) = some (r1, r2) := by first | (rw [hji54] at H; exact H) | (simp only [hji54] at H ⊢; exact H)
                                have hji54w : (IntKind.i64.wrap (t108 + 1)) = ji54 := (i64_w _).trans hji54
                                by_cases c55 : 0 ≤ (ji54)
                                · rw [if_pos c55] at H
                                  have c55b0 := eq_true c55
                                  have c55b1 : decide (0 ≤ (ji54)) = true := decide_eq_true c55
                                  clear c55
                                  by_cases c56 : (ji54) ≤ (x0_1.size : Int)
                                  · rw [if_pos c56] at H
                                    have c56b0 := eq_true c56
                                    have c56b1 : decide ((ji54) ≤ (x0_1.size : Int)) = true := decide_eq_true c56
                                    clear c56
                                    have H' := Aside0.mk H
                                    clear H
                                    go_wp2_with (first | ((with_reducible refine gate_builtin (b := .append) (xs := #[.tmp 52, .tmp 57]) rfl ?_); at_builtin; refine Kd.R_append k151 (w0 := w) w.heap.size rfl (.tmp 52) (.tmp 57) 93 151 (.agg #[(.string ⟨#[]⟩), (.string ⟨#[]⟩)]) 32 rfl Tryd.underlying93 info151 rfl (by decide) (by omega) u4 x4_1 (⟨x0_1.extract 1 (t108 : Int).toNat, (⟨#[]⟩ : ByteArray)⟩ : S151) [.string (x0_1.extract 1 (t108 : Int).toNat), .string (⟨#[]⟩ : ByteArray)] (fun _ => True) (fun _ => False) rfl rfl ?aP (fun _ hk => hk.elim) ?aF ?aO ?aB ?aS ?aL ?_; (case aP => exact k151_mkM _ _ _ (⟨x0_1.extract 1 (t108 : Int).toNat, (⟨#[]⟩ : ByteArray)⟩ : S151)); (case aB => exact (by repeat (first | (with_reducible first | exact HB.out | apply below_alloc | apply pw_below_drewN | apply below_drew1) | exact HB.out))); (case aF => exact (fun _ _ => trivial)); (case aO => exact (by (with_reducible repeat (first | apply Kd.R_alloc | apply Kd.R_drewN | apply Kd.R_drew)); exact HO_4.out)); (case aS => exact (below_size (by repeat (first | (with_reducible first | exact HB.out | apply below_alloc | apply pw_below_drewN | apply below_drew1) | exact HB.out)))); (case aL => have := LMc53.out; omega); intro v110 w57 ho hb hg hat; rw [← Ny109.out] at ho; have n0_ := Aside0.mk (hb); have n1_ := Aside0.mk (ho); clear HB; clear HO_4; have HB := n0_; have HO111 := n1_; clear n0_ n1_; clear ho hb hg hat))
                                    go_roundg k3
                                    case measure => have := HK1.out; have := HJ4.out; have := HK3.out; omega
                                    case rel => exact ⟨(x0_1.extract ((ji54) : Int).toNat x0_1.size), (y109), (by first | rfl | (simp; done) | (simp only [← hji54] <;> (first | rfl | simp)) | (simp [*]; done)), H', ⟨by have := HK1.out; have := HJ4.out; have := HK3.out; omega⟩, ⟨by (with_reducible repeat (first | apply Kd.R_alloc | apply Kd.R_drewN | apply Kd.R_drew)); exact HO111.out⟩, ⟨by repeat (first | (with_reducible first | exact HB.out | apply below_alloc | apply pw_below_drewN | apply below_drew1) | exact HB.out)⟩⟩
                                  · rw [if_neg c56] at H
                                    exact absurd H (by simp)
                                · rw [if_neg c55] at H
                                  exact absurd H (by simp)
                              · rw [if_neg c53] at H
                                exact absurd H (by simp)
                            · rw [if_neg c52] at H
                              exact absurd H (by simp)
                          · rw [if_neg c51] at H
                            exact absurd H (by simp)
                        · replace c50 := Bool.eq_false_iff.mpr c50
                          subst c50
                          have H1 : (some (([] : List (S151)), 4)) = some (r1, r2) := by rw [if_neg (show ¬ (false = true) by decide)] at H; exact H
                          clear H
                          have H := H1
                          clear H1
                          simp only [Option.some.injEq, Prod.mk.injEq] at H
                          obtain ⟨rfl, rfl⟩ := H
                          go_wp2
                          go_ret2
                          exact ⟨_, by first | rfl | (simp [errW_none, errW_some] <;> rfl) | (simp [*, errW_none, errW_some] <;> rfl), by first | exact Kd.R_nil _ _ _ _ _ | exact Kd.N_nil _ _ _ _ _ | exact Kd.V_nil _ _ _ _ _ | exact Kd.Q_nil _ _ _ _ _ | exact Kd.S_nil _ _ _ _ _, by repeat (first | (with_reducible first | exact HB.out | apply below_alloc | apply pw_below_drewN | apply below_drew1) | exact HB.out)⟩

end Go.Proofs.YtcmanidhilkhnaaDoor.PPatternChecks
