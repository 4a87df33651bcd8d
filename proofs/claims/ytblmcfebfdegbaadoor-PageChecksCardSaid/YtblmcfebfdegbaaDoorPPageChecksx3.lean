/- The walks of the functions of this part. The proof of strings_Trim, ephemerisref1_CellError is written by hand; the other ones are as the kit's print tells them. -/
-- The walks of the law's functions, told by a program.
import Derived.Lib.OthersKept
import Derived.Laws.RangeAny
import Derived.Shelf.Strings.SlTrimAscii
import Derived.Test.YtblmcfebfdegbaaDoorPPageChecksx0
import Derived.Test.YtblmcfebfdegbaaDoorPPageChecksx1
namespace Go.Proofs.YtblmcfebfdegbaaDoor.PPageChecks
open Go.RowKit Go.Proofs.YtblmcfebfdegbaaDoorW.PrintWords Go.Proofs.YtblmcfebfdegbaaDoorW.PrintLast Go.Proofs.YtblmcfebfdegbaaDoorW.PrintMore
attribute [local go_sem] max2_int min2_int max_two min_two max_three min_three max_four min_four   -- for this text's walks alone
set_option linter.unusedVariables false
set_option linter.unusedSimpArgs false

/-! ### ephemerisref1_In: function 16 -/
def ephemerisref1_In.f (a0 : Int) (a1 : Int) (a2 : Int) : Option (Bool) := if a0 ≥ a1 then (some (decide (a0 ≤ a2))) else (some false)
set_option maxHeartbeats 8000000 in
set_option maxRecDepth 100000 in
theorem ephemerisref1_In.calls (a0 : Int) (a1 : Int) (a2 : Int) (r : Bool) (w : World) (h : ephemerisref1_In.f a0 a1 a2 = some r) :
    Calls Tryd.prog 16 #[.int .i64 a0, .int .i64 a1, .int .i64 a2] w fun e w' => e = .returned (.bool r) ∧ Drawn0 w w' := by
  have H : (if a0 ≥ a1 then (some (decide (a0 ≤ a2))) else (some false)) = some r := h
  clear h
  by_cases c4 : a0 ≥ a1
  · rw [if_pos c4] at H
    have c4b0 : decide (a1 ≤ a0) = true := decide_eq_true c4
    clear c4
    obtain rfl := Option.some.inj H
    go_enter Tryd.func16, Tryd.ntmps16
    go_wp2
    go_ret
    exact ⟨by first | rfl | (simp; done) | (simp [*]; done), by repeat (first | exact Drawn0.refl _ | apply Drawn0.step)⟩
  · rw [if_neg c4] at H
    have c4b0 : decide (a1 ≤ a0) = false := decide_eq_false c4
    clear c4
    obtain rfl := Option.some.inj H
    go_enter Tryd.func16, Tryd.ntmps16
    go_wp2
    go_ret
    exact ⟨by first | rfl | (simp; done) | (simp [*]; done), by repeat (first | exact Drawn0.refl _ | apply Drawn0.step)⟩

/-! ### strings_Trim: function 46 -/
/-- The bytes of a set of ASCII bytes are cut off from both ends. -/
def strings_Trim.f (a0 : ByteArray) (a1 : ByteArray) : Option (ByteArray) := if a0.size ≤ 9223372036854775807 ∧ a1.data.toList.all (fun b => decide (b.toNat < 128)) = true ∧ a1.size < 4294967281 then some ⟨(Go.Lib.trimS a0.data.toList a1.data.toList).toArray⟩ else none
def strings_Trim.ren : Go.Shelf.Ren := ⟨fun | 119 => 140 | 120 => 127 | 137 => 139 | 151 => 88 | 152 => 112 | 160 => 46 | 197 => 87 | 217 => 133 | 224 => 135 | 225 => 134 | 227 => 56 | 228 => 86 | 231 => 55 | 232 => 72 | 233 => 57 | 234 => 73 | 235 => 58 | 236 => 74 | 260 => 111 | 266 => 156 | 271 => 99 | n => n, fun | 0 => 0 | 3 => 3 | 4 => 4 | 5 => 5 | 9 => 9 | 21 => 21 | 46 => 96 | 105 => 138 | 116 => 91 | 117 => 92 | 119 => 123 | 124 => 95 | 138 => 125 | 139 => 126 | n => n, fun | 3 => 2 | 4 => 3 | n => n⟩
theorem strings_Trim.lays : Go.Proofs.Lays.n160 Tryd.prog strings_Trim.ren := {
  mixed := by kernel_rfl
  f119 := Tryd.func140.trans (congrArg some (by kernel_rfl))
  f120 := Tryd.func127.trans (congrArg some (by kernel_rfl))
  f137 := Tryd.func139.trans (congrArg some (by kernel_rfl))
  f151 := Tryd.func88.trans (congrArg some (by kernel_rfl))
  f152 := Tryd.func112.trans (congrArg some (by kernel_rfl))
  f160 := Tryd.func46.trans (congrArg some (by kernel_rfl))
  f197 := Tryd.func87.trans (congrArg some (by kernel_rfl))
  f217 := Tryd.func133.trans (congrArg some (by kernel_rfl))
  f224 := Tryd.func135.trans (congrArg some (by kernel_rfl))
  f225 := Tryd.func134.trans (congrArg some (by kernel_rfl))
  f227 := Tryd.func56.trans (congrArg some (by kernel_rfl))
  f228 := Tryd.func86.trans (congrArg some (by kernel_rfl))
  f231 := Tryd.func55.trans (congrArg some (by kernel_rfl))
  f232 := Tryd.func72.trans (congrArg some (by kernel_rfl))
  f233 := Tryd.func57.trans (congrArg some (by kernel_rfl))
  f234 := Tryd.func73.trans (congrArg some (by kernel_rfl))
  f235 := Tryd.func58.trans (congrArg some (by kernel_rfl))
  f236 := Tryd.func74.trans (congrArg some (by kernel_rfl))
  f260 := Tryd.func111.trans (congrArg some (by kernel_rfl))
  f266 := Tryd.func156.trans (congrArg some (by kernel_rfl))
  f271 := Tryd.func99.trans (congrArg some (by kernel_rfl))
  t0 := Tryd.underlying0
  a0 := Tryd.isAgg0
  z0 := Tryd.sizeOf0
  v0 := Tryd.zeroValue0
  t3 := Tryd.underlying3
  a3 := Tryd.isAgg3
  z3 := Tryd.sizeOf3
  v3 := Tryd.zeroValue3
  t4 := Tryd.underlying4
  a4 := Tryd.isAgg4
  z4 := Tryd.sizeOf4
  v4 := Tryd.zeroValue4
  t5 := Tryd.underlying5
  a5 := Tryd.isAgg5
  z5 := Tryd.sizeOf5
  v5 := Tryd.zeroValue5
  t9 := Tryd.underlying9
  a9 := Tryd.isAgg9
  z9 := Tryd.sizeOf9
  v9 := Tryd.zeroValue9
  t21 := Tryd.underlying21
  a21 := Tryd.isAgg21
  z21 := Tryd.sizeOf21
  v21 := Tryd.zeroValue21
  t46 := Tryd.underlying96
  a46 := Tryd.isAgg96
  z46 := Tryd.sizeOf96
  v46 := Tryd.zeroValue96
  t105 := Tryd.underlying138
  a105 := Tryd.isAgg138
  z105 := Tryd.sizeOf138
  v105 := Tryd.zeroValue138
  t116 := Tryd.underlying91
  a116 := Tryd.isAgg91
  z116 := Tryd.sizeOf91
  t117 := Tryd.underlying92
  a117 := Tryd.isAgg92
  z117 := Tryd.sizeOf92
  v117 := Tryd.zeroValue92
  t119 := Tryd.underlying123
  a119 := Tryd.isAgg123
  z119 := Tryd.sizeOf123
  t124 := Tryd.underlying95
  a124 := Tryd.isAgg95
  z124 := Tryd.sizeOf95
  v124 := Tryd.zeroValue95
  t138 := Tryd.underlying125
  a138 := Tryd.isAgg125
  z138 := Tryd.sizeOf125
  v138 := Tryd.zeroValue125
  t139 := Tryd.underlying126
  a139 := Tryd.isAgg126
  z139 := Tryd.sizeOf126
  v139 := Tryd.zeroValue126
  g3 := by kernel_rfl
  g4 := by kernel_rfl }
theorem strings_Trim.calls (a0 : ByteArray) (a1 : ByteArray) (r : ByteArray) (w : World) (h : strings_Trim.f a0 a1 = some r) :
    Calls Tryd.prog 46 #[.string a0, .string a1] w fun e w' => e = .returned (.string r) ∧ Below w.heap.size w w' := by
  unfold strings_Trim.f at h
  by_cases c : a0.size ≤ 9223372036854775807 ∧ a1.data.toList.all (fun b => decide (b.toNat < 128)) = true ∧ a1.size < 4294967281
  · rw [if_pos c] at h
    obtain rfl := Option.some.inj h
    exact Go.Proofs.Any.strings_Trim_laid strings_Trim.lays (by kernel_rfl) a0 a1 w c.1 c.2.2 (Go.Proofs.ascii_of_all c.2.1)
  · rw [if_neg c] at h; cases h

/-! ### ephemerisref1_CellError: function 23 -/
def ephemerisref1_CellError.f (a0 : ByteArray) : Option (Int) := if (a0.size : Int) > 120 then some 2 else if Go.Lib.validD a0.data.toList = false then some 8 else (strings_Trim.f a0 (⟨#[32]⟩ : ByteArray)).bind fun t => if t.toList = a0.toList then (if page_text.all a0.data.toList = true then some 0 else some 8) else some 8
theorem ephemerisref1_CellError.hop (s : ByteArray) (i : Nat) : ∀ n, (∀ j, j < n → ∀ hj : i + j < s.size, 128 ≤ (s[i + j]'hj).toNat) → i + n ≤ s.size → page_text.all (s.data.toList.drop i) = page_text.all (s.data.toList.drop (i + n))
  | 0, _, _ => rfl
  | n + 1, hn, hl => by
    rw [ephemerisref1_CellError.hop s i n (fun j hj => hn j (by omega)) (by omega)]
    have h128 := hn n (by omega) (by omega)
    have e : (s.data.toList.getD (i + n) 0).toNat = (s[i + n]'(by omega)).toNat := by
      rw [List.getD_eq_getElem?_getD, Go.Lib.data_getElem? s (i + n) (by omega)]; rfl
    have hs := page_text.step s (i + n) _ (by omega) e
    rw [hs]
    generalize (s[i + n]'(by omega)).toNat = c at h128
    rw [decide_eq_true (show 32 ≤ (c : Int) by omega), beq_eq_false_iff_ne.2 (show (c : Int) ≠ 127 by omega)]
    rfl
set_option maxHeartbeats 8000000 in
set_option maxRecDepth 100000 in
theorem ephemerisref1_CellError.late (a0 t : ByteArray) (r : Int) (w : World) (hU : utf8_ValidString.Tab w) (c1 : decide (120 < (a0.size : Int)) = false) (hs : a0.size ≤ 120) (hv : utf8_ValidString.f a0 = some true) (ht : strings_Trim.f a0 (⟨#[32]⟩ : ByteArray) = some t) (hn : (t.toList != a0.toList) = false) (hn2 : (t.toList == a0.toList) = true) (hr : r = if page_text.all a0.data.toList = true then 0 else 8) :
    Calls Tryd.prog 23 #[.string a0] w fun e w' => e = .returned (.int .i64 r) ∧ Below w.heap.size w w' := by
  have HR := Aside0.mk hr
  clear hr
  go_enter Tryd.func23, Tryd.ntmps23
  go_wp2_with (first
    | (go_at_call 43; refine (utf8_ValidString.calls a0 true _ hU hv).mono ?_; rintro e W1 ⟨rfl, hb1⟩; have HB := Aside0.mk hb1; clear hb1)
    | (go_at_call 46; refine (strings_Trim.calls a0 _ t _ ht).mono ?_; rintro e W2 ⟨rfl, hb2⟩; have n0_ := Aside0.mk (below_step HB.out hb2); clear HB hb2; have HB := n0_; clear n0_))
  obtain ⟨A, hA⟩ : ∃ A, page_text.all a0.data.toList = A := ⟨_, rfl⟩
  have HR2 : Aside0 (r = if A = true then 0 else 8) := ⟨by rw [← hA]; exact HR.out⟩
  clear HR
  go_loopg [4] a0.size (fun g _ wx => ∃ i : Nat, i + g = a0.size ∧ wx.heap[W2.heap.size]? = some (.stringIter a0 i) ∧ Aside0 (Below w.heap.size w wx) ∧ Aside0 (page_text.all (a0.data.toList.drop i) = A))
  case atStart => exact ⟨0, by omega, World.iter_heap W2 a0 0, ⟨HB.out.alloc (below_size HB.out) _⟩, ⟨hA⟩⟩
  case round =>
    have HZ : Aside0 (w.heap.size ≤ W2.heap.size) := ⟨below_size HB.out⟩
    clear hA HB
    obtain ⟨i, hig, hit, HB, ha⟩ := hrel
    have HI : Aside0 (wr.heap[W2.heap.size]? = some (.stringIter a0 i)) := ⟨hit⟩
    by_cases hi : i < a0.size
    · by_cases hx : (a0[i]'hi).toNat < 128
      · have hnx := fun ty => Go.Lib.run_next_ascii_at (P := Tryd.prog) wr W2.heap.size a0 i ty hit hi hx
        obtain ⟨c, hc⟩ : ∃ c : Nat, (a0[i]'hi).toNat = c := ⟨_, rfl⟩
        have e : (a0.data.toList.getD i 0).toNat = c := by
          rw [List.getD_eq_getElem?_getD, Go.Lib.data_getElem? a0 i hi]; exact hc
        have hs2 := page_text.step a0 i c hi e
        rw [ha.out] at hs2
        rw [hc] at hnx
        clear ha hc e hit hx
        by_cases hA : (c : Int) < 32
        · have d1 : decide ((c : Int) < 32) = true := decide_eq_true hA
          have hA2 : A = false := by rw [hs2, decide_eq_false (show ¬ 32 ≤ (c : Int) by omega)]; rfl
          have hr : r = 8 := by rw [HR2.out, hA2]; rfl
          subst hr
          clear hs2 hA hA2 HR2
          go_wp2
          go_ret
          exact ⟨rfl, Go.Lib.below_iterAt HB.out HZ.out _ _⟩
        · have d1 : decide ((c : Int) < 32) = false := decide_eq_false hA
          by_cases hZ : (c : Int) = 127
          · have d2 : ((c : Int) == 127) = true := beq_iff_eq.2 hZ
            have hA2 : A = false := by rw [hs2, d2]; simp
            have hr : r = 8 := by rw [HR2.out, hA2]; rfl
            subst hr
            clear hs2 hA hZ hA2 HR2
            go_wp2
            go_ret
            exact ⟨rfl, Go.Lib.below_iterAt HB.out HZ.out _ _⟩
          · have d2 : ((c : Int) == 127) = false := beq_eq_false_iff_ne.2 hZ
            have hr : Aside0 (page_text.all (a0.data.toList.drop (i + 1)) = A) := ⟨by rw [hs2, d2, decide_eq_true (show 32 ≤ (c : Int) by omega)]; rfl⟩
            clear hs2 hA hZ
            go_wp2
            go_roundg (a0.size - (i + 1))
            case measure => omega
            case rel => exact ⟨i + 1, by omega, Go.Lib.iterAt_heap _ _ _ _ _ HI.out, ⟨Go.Lib.below_iterAt HB.out HZ.out _ _⟩, hr⟩
      · obtain ⟨d1, d2, d3, d4, d5, d6⟩ := utf8_ValidString.decode_skip a0 i hi (by omega)
        have hnx := fun ty => Go.Lib.run_next_any_at (P := Tryd.prog) wr W2.heap.size a0 i ty hit hi
        have ha2 : Aside0 (page_text.all (a0.data.toList.drop (i + (Utf8.decode a0 i).2)) = A) := ⟨by rw [← ephemerisref1_CellError.hop a0 i _ d6 d2]; exact ha.out⟩
        clear ha d5 d6 hit
        generalize Utf8.decode a0 i = d at *
        obtain ⟨dr, dn⟩ := d
        simp only at *
        have e1 : decide ((dr : Int) < 32) = false := decide_eq_false (by omega)
        have e2 : ((dr : Int) == 127) = false := beq_eq_false_iff_ne.2 (by omega)
        go_wp2
        go_roundg (a0.size - (i + dn))
        case measure => omega
        case rel => exact ⟨i + dn, by omega, Go.Lib.iterAt_heap _ _ _ _ _ HI.out, ⟨Go.Lib.below_iterAt HB.out HZ.out _ _⟩, ha2⟩
    · obtain rfl : i = a0.size := by omega
      have hnx := fun ty => Go.Lib.run_next_end_at (P := Tryd.prog) wr W2.heap.size a0 a0.size ty hit hi
      have hA2 : A = true := by
        have := ha.out
        rw [List.drop_of_length_le (by rw [Array.length_toList]; exact Nat.le_refl _)] at this
        exact this.symm
      have hr : r = 0 := by rw [HR2.out, hA2]; rfl
      subst hr
      clear hA2 HR2 hit
      go_wp2
      go_ret
      exact ⟨rfl, HB.out⟩
set_option maxHeartbeats 8000000 in
set_option maxRecDepth 100000 in
theorem ephemerisref1_CellError.calls (a0 : ByteArray) (r : Int) (w : World) (hU : utf8_ValidString.Tab w) (h : ephemerisref1_CellError.f a0 = some r) :
    Calls Tryd.prog 23 #[.string a0] w fun e w' => e = .returned (.int .i64 r) ∧ Below w.heap.size w w' := by
  unfold ephemerisref1_CellError.f at h
  by_cases c1 : (a0.size : Int) > 120
  · rw [if_pos c1] at h
    obtain rfl := Option.some.inj h
    have c1b : decide (120 < (a0.size : Int)) = true := decide_eq_true c1
    clear c1
    go_enter Tryd.func23, Tryd.ntmps23
    go_wp2
    go_ret
    exact ⟨rfl, Below.refl _ _⟩
  rw [if_neg c1] at h
  have c1b : decide (120 < (a0.size : Int)) = false := decide_eq_false c1
  have hs : a0.size ≤ 120 := by omega
  clear c1
  have hvf : utf8_ValidString.f a0 = some (Go.Lib.validD a0.data.toList) := by unfold utf8_ValidString.f; rw [if_pos (by omega)]
  by_cases c2 : Go.Lib.validD a0.data.toList = false
  · rw [if_pos c2] at h
    obtain rfl := Option.some.inj h
    rw [c2] at hvf
    clear c2
    go_enter Tryd.func23, Tryd.ntmps23
    go_wp2_with (first
      | (go_at_call 43; refine (utf8_ValidString.calls a0 false _ hU hvf).mono ?_; rintro e W1 ⟨rfl, hb1⟩; have HB := Aside0.mk hb1; clear hb1))
    go_ret
    exact ⟨rfl, HB.out⟩
  rw [if_neg c2] at h
  have c2b : Go.Lib.validD a0.data.toList = true := by simpa using c2
  rw [c2b] at hvf
  clear c2 c2b
  obtain ⟨t, ht, h⟩ := Option.bind_eq_some_iff.mp h
  by_cases c3 : t.toList = a0.toList
  · rw [if_pos c3] at h
    have hn : (t.toList != a0.toList) = false := bne_eq_false_iff_eq.2 c3
    refine ephemerisref1_CellError.late a0 t r w hU c1b hs hvf ht hn (beq_iff_eq.2 c3) ?_
    by_cases c : page_text.all a0.data.toList = true
    · rw [if_pos c] at h ⊢; exact (Option.some.inj h).symm
    · rw [if_neg c] at h ⊢; exact (Option.some.inj h).symm
  · rw [if_neg c3] at h
    obtain rfl := Option.some.inj h
    have hn : (t.toList != a0.toList) = true := bne_iff_ne.2 c3
    have hn2 : (t.toList == a0.toList) = false := beq_eq_false_iff_ne.2 c3
    clear c3
    go_enter Tryd.func23, Tryd.ntmps23
    go_wp2_with (first
      | (go_at_call 43; refine (utf8_ValidString.calls a0 true _ hU hvf).mono ?_; rintro e W1 ⟨rfl, hb1⟩; have HB := Aside0.mk hb1; clear hb1)
      | (go_at_call 46; refine (strings_Trim.calls a0 _ t _ ht).mono ?_; rintro e W2 ⟨rfl, hb2⟩; have n0_ := Aside0.mk (below_step HB.out hb2); clear HB hb2; have HB := n0_; clear n0_))
    go_ret
    exact ⟨rfl, HB.out⟩

end Go.Proofs.YtblmcfebfdegbaaDoor.PPageChecks
