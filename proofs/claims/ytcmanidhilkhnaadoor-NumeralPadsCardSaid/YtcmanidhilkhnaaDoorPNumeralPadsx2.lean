/- The walks of the functions of this part. The proof of ephemerisref1_NumeralText (in part) is written by hand; the other ones are as the kit's print tells them. -/
-- The walks of the law's functions, told by a program.
import Derived.Test.YtcmanidhilkhnaaDoorPNumeralPadsx0
import Derived.Test.YtcmanidhilkhnaaDoorPNumeralPadsx1
namespace Go.Proofs.YtcmanidhilkhnaaDoor.PNumeralPads
open Go.RowKit Go.Proofs.YtcmanidhilkhnaaDoorW.PrintWords Go.Proofs.YtcmanidhilkhnaaDoorW.PrintLast Go.Proofs.YtcmanidhilkhnaaDoorW.PrintMore
attribute [local go_sem] max2_int min2_int max_two min_two max_three min_three max_four min_four   -- for this text's walks alone
set_option linter.unusedVariables false
set_option linter.unusedSimpArgs false

/-! ### ephemerisref1_NumeralText: function 19 -/
mutual
def ephemerisref1_NumeralText.l0 : Nat → Int → List ByteArray → ByteArray → List (S113) → Int → Int → Option (ByteArray)
  | 0, _, _, _, _, _, _ => none
  | k + 1, x1, x8, x9, x48, x49, x50 => if x50 < x49 then (if 0 ≤ x50 then (if x50 < (x48.length : Int) then (if ((rd_T113 x48 x50).f0) = 0 then (none) else (if (Int.tmod (wrap64 (Int.tdiv x1 ((rd_T113 x48 x50).f0))) 10) = 0 then (if x9.toList = ([] : List UInt8) then (ephemerisref1_NumeralText.l0 k x1 x8 x9 x48 x49 (wrap64 (x50 + 1))) else (if (Int.tmod x1 ((rd_T113 x48 x50).f0)) = 0 then (ephemerisref1_NumeralText.l0 k x1 x8 x9 x48 x49 (wrap64 (x50 + 1))) else (if 0 < (x8.length : Int) then ((strings_HasSuffix.f x9 (rdOf ByteArray.empty x8 0)).bind fun t142 => (if t142 = true then (ephemerisref1_NumeralText.l0 k x1 x8 x9 x48 x49 (wrap64 (x50 + 1))) else (if x9.size + (rdOf ByteArray.empty x8 0).size ≤ 9223372036854775807 then (ephemerisref1_NumeralText.l0 k x1 x8 (x9 ++ (rdOf ByteArray.empty x8 0)) x48 x49 (wrap64 (x50 + 1))) else (none)))) else (none)))) else (if 0 ≤ (Int.tmod (wrap64 (Int.tdiv x1 ((rd_T113 x48 x50).f0))) 10) then (if (Int.tmod (wrap64 (Int.tdiv x1 ((rd_T113 x48 x50).f0))) 10) < (x8.length : Int) then (if (rdOf ByteArray.empty x8 (Int.tmod (wrap64 (Int.tdiv x1 ((rd_T113 x48 x50).f0))) 10)).size + ((rd_T113 x48 x50).f1).size ≤ 9223372036854775807 then (if x9.size + ((rdOf ByteArray.empty x8 (Int.tmod (wrap64 (Int.tdiv x1 ((rd_T113 x48 x50).f0))) 10)) ++ ((rd_T113 x48 x50).f1)).size ≤ 9223372036854775807 then (ephemerisref1_NumeralText.l0 k x1 x8 (x9 ++ ((rdOf ByteArray.empty x8 (Int.tmod (wrap64 (Int.tdiv x1 ((rd_T113 x48 x50).f0))) 10)) ++ ((rd_T113 x48 x50).f1))) x48 x49 (wrap64 (x50 + 1))) else (none)) else (none)) else (none)) else (none)))) else (none)) else (none)) else (some x9)
def ephemerisref1_NumeralText.l1 : Nat → Int → Int → ByteArray → List (S113) → Int → Int → Option (ByteArray)
  | 0, _, _, _, _, _, _ => none
  | k + 1, x0, x1, x13, x95, x96, x97 => if x97 < x96 then (if 0 ≤ x97 then (if x97 < (x95.length : Int) then (ephemerisref1_NumeralText.l2 k x0 x1 x13 x95 x96 x97 ((rd_T113 x95 x97).f0) ((rd_T113 x95 x97).f1)) else (none)) else (none)) else (some x13)
def ephemerisref1_NumeralText.l2 : Nat → Int → Int → ByteArray → List (S113) → Int → Int → Int → ByteArray → Option (ByteArray)
  | 0, _, _, _, _, _, _, _, _ => none
  | k + 1, x0, x1, x13, x95, x96, x97, x150000, x150001 => if x1 ≥ x150000 then (if x0 = 11 then (if x150000 = 15 then (if x1 = x150000 then (if x13.size + x150001.size ≤ 9223372036854775807 then (ephemerisref1_NumeralText.l2 k x0 (wrap64 (x1 - x150000)) (x13 ++ x150001) x95 x96 x97 x150000 x150001) else (none)) else (ephemerisref1_NumeralText.l1 k x0 x1 x13 x95 x96 (wrap64 (x97 + 1)))) else (if x150000 = 16 then (if x1 = x150000 then (if x13.size + x150001.size ≤ 9223372036854775807 then (ephemerisref1_NumeralText.l2 k x0 (wrap64 (x1 - x150000)) (x13 ++ x150001) x95 x96 x97 x150000 x150001) else (none)) else (ephemerisref1_NumeralText.l1 k x0 x1 x13 x95 x96 (wrap64 (x97 + 1)))) else (if x13.size + x150001.size ≤ 9223372036854775807 then (ephemerisref1_NumeralText.l2 k x0 (wrap64 (x1 - x150000)) (x13 ++ x150001) x95 x96 x97 x150000 x150001) else (none)))) else (if x13.size + x150001.size ≤ 9223372036854775807 then (ephemerisref1_NumeralText.l2 k x0 (wrap64 (x1 - x150000)) (x13 ++ x150001) x95 x96 x97 x150000 x150001) else (none))) else (ephemerisref1_NumeralText.l1 k x0 x1 x13 x95 x96 (wrap64 (x97 + 1)))
end
def ephemerisref1_NumeralText.f (k : Nat) (a0 : Int) (a1 : Int) : Option (ByteArray) := if a0 < 9 then ((strconv_Itoa.f a1).bind fun t129 => ((ephemerisref1_zero.f a0).bind fun t130 => ((numeral_digits.f a0 t129).bind fun t131 => (some t131)))) else (if a0 = 12 then ((some (([(⟨#[227, 128, 135]⟩ : ByteArray), (⟨#[228, 184, 128]⟩ : ByteArray), (⟨#[228, 186, 140]⟩ : ByteArray), (⟨#[228, 184, 137]⟩ : ByteArray), (⟨#[229, 155, 155]⟩ : ByteArray), (⟨#[228, 186, 148]⟩ : ByteArray), (⟨#[229, 133, 173]⟩ : ByteArray), (⟨#[228, 184, 131]⟩ : ByteArray), (⟨#[229, 133, 171]⟩ : ByteArray), (⟨#[228, 185, 157]⟩ : ByteArray)] : List ByteArray) : List ByteArray)).bind fun y132 => (if a1 = 0 then (if 0 < (y132.length : Int) then (some (rdOf ByteArray.empty y132 0)) else (none)) else ((some (([(⟨1000, (⟨#[229, 141, 131]⟩ : ByteArray)⟩ : S113), (⟨100, (⟨#[231, 153, 190]⟩ : ByteArray)⟩ : S113), (⟨10, (⟨#[229, 141, 129]⟩ : ByteArray)⟩ : S113), (⟨1, (⟨#[]⟩ : ByteArray)⟩ : S113)] : List (S113)) : List (S113))).bind fun y136 => (ephemerisref1_NumeralText.l0 k a1 y132 (⟨#[]⟩ : ByteArray) y136 (y136.length : Int) 0)))) else ((ephemerisref1_list.f a0).bind fun t145 => (ephemerisref1_NumeralText.l1 k a0 a1 (⟨#[]⟩ : ByteArray) t145 (t145.length : Int) 0)))
theorem numeral_digits.zero_is (a0 t : Int) (h0 : 0 ≤ a0) (h9 : a0 < 9) (h : ephemerisref1_zero.f a0 = some t) : t = numeral_digits.z a0 := by
  obtain ⟨n, rfl⟩ : ∃ n : Nat, a0 = n := ⟨a0.toNat, by omega⟩
  rcases (show n = 0 ∨ n = 1 ∨ n = 2 ∨ n = 3 ∨ n = 4 ∨ n = 5 ∨ n = 6 ∨ n = 7 ∨ n = 8 by omega) with rfl | rfl | rfl | rfl | rfl | rfl | rfl | rfl | rfl <;> exact (Option.some.inj h).symm
theorem ephemerisref1_NumeralText.mono_l : ∀ k, (∀ y0 y1 y2 y3 y4 y5, LeO (ephemerisref1_NumeralText.l0 k y0 y1 y2 y3 y4 y5) (ephemerisref1_NumeralText.l0 (k + 1) y0 y1 y2 y3 y4 y5)) ∧ (∀ y0 y1 y2 y3 y4 y5, LeO (ephemerisref1_NumeralText.l1 k y0 y1 y2 y3 y4 y5) (ephemerisref1_NumeralText.l1 (k + 1) y0 y1 y2 y3 y4 y5)) ∧ (∀ y0 y1 y2 y3 y4 y5 y6 y7, LeO (ephemerisref1_NumeralText.l2 k y0 y1 y2 y3 y4 y5 y6 y7) (ephemerisref1_NumeralText.l2 (k + 1) y0 y1 y2 y3 y4 y5 y6 y7))
  | 0 => ⟨fun _ _ _ _ _ _ r h => by simp [ephemerisref1_NumeralText.l0] at h, fun _ _ _ _ _ _ r h => by simp [ephemerisref1_NumeralText.l1] at h, fun _ _ _ _ _ _ _ _ r h => by simp [ephemerisref1_NumeralText.l2] at h⟩
  | k + 1 => by
    obtain ⟨ih0, ih1, ih2⟩ := ephemerisref1_NumeralText.mono_l k
    refine ⟨?_, ?_, ?_⟩
    · intro y0 y1 y2 y3 y4 y5
      unfold ephemerisref1_NumeralText.l0
      repeat' first
      | (with_reducible exact ih0 _ _ _ _ _ _)
      | (with_reducible exact ih1 _ _ _ _ _ _)
      | (with_reducible exact ih2 _ _ _ _ _ _ _ _)
      | (with_reducible exact LeO.refl _)
      | (with_reducible exact LeO.none _)
      | (with_reducible refine LeO.ite ?_ ?_)
      | (with_reducible refine LeO.bind ?_ (fun _ => ?_))
      | exact ih0 _ _ _ _ _ _
      | exact ih1 _ _ _ _ _ _
      | exact ih2 _ _ _ _ _ _ _ _
      | exact LeO.none _
      | refine LeO.ite ?_ ?_
      | refine LeO.bind ?_ (fun _ => ?_)
    · intro y0 y1 y2 y3 y4 y5
      unfold ephemerisref1_NumeralText.l1
      repeat' first
      | (with_reducible exact ih0 _ _ _ _ _ _)
      | (with_reducible exact ih1 _ _ _ _ _ _)
      | (with_reducible exact ih2 _ _ _ _ _ _ _ _)
      | (with_reducible exact LeO.refl _)
      | (with_reducible exact LeO.none _)
      | (with_reducible refine LeO.ite ?_ ?_)
      | (with_reducible refine LeO.bind ?_ (fun _ => ?_))
      | exact ih0 _ _ _ _ _ _
      | exact ih1 _ _ _ _ _ _
      | exact ih2 _ _ _ _ _ _ _ _
      | exact LeO.none _
      | refine LeO.ite ?_ ?_
      | refine LeO.bind ?_ (fun _ => ?_)
    · intro y0 y1 y2 y3 y4 y5 y6 y7
      unfold ephemerisref1_NumeralText.l2
      repeat' first
      | (with_reducible exact ih0 _ _ _ _ _ _)
      | (with_reducible exact ih1 _ _ _ _ _ _)
      | (with_reducible exact ih2 _ _ _ _ _ _ _ _)
      | (with_reducible exact LeO.refl _)
      | (with_reducible exact LeO.none _)
      | (with_reducible refine LeO.ite ?_ ?_)
      | (with_reducible refine LeO.bind ?_ (fun _ => ?_))
      | exact ih0 _ _ _ _ _ _
      | exact ih1 _ _ _ _ _ _
      | exact ih2 _ _ _ _ _ _ _ _
      | exact LeO.none _
      | refine LeO.ite ?_ ?_
      | refine LeO.bind ?_ (fun _ => ?_)
theorem ephemerisref1_NumeralText.mono : ∀ a0 a1 k, LeO (ephemerisref1_NumeralText.f k a0 a1) (ephemerisref1_NumeralText.f (k + 1) a0 a1) := by
  intro a0 a1 k
  obtain ⟨ih0, ih1, ih2⟩ := ephemerisref1_NumeralText.mono_l k
  unfold ephemerisref1_NumeralText.f
  repeat' first
      | (with_reducible exact ih0 _ _ _ _ _ _)
      | (with_reducible exact ih1 _ _ _ _ _ _)
      | (with_reducible exact ih2 _ _ _ _ _ _ _ _)
      | (with_reducible exact LeO.refl _)
      | (with_reducible exact LeO.none _)
      | (with_reducible refine LeO.ite ?_ ?_)
      | (with_reducible refine LeO.bind ?_ (fun _ => ?_))
      | exact ih0 _ _ _ _ _ _
      | exact ih1 _ _ _ _ _ _
      | exact ih2 _ _ _ _ _ _ _ _
      | exact LeO.none _
      | refine LeO.ite ?_ ?_
      | refine LeO.bind ?_ (fun _ => ?_)
set_option maxHeartbeats 8000000 in
set_option maxRecDepth 100000 in
theorem ephemerisref1_NumeralText.calls (k : Nat) (a0 : Int) (a1 : Int) (r : ByteArray) (w : World) (hT : strconv_Itoa.Tab w) (h : ephemerisref1_NumeralText.f k a0 a1 = some r) :
    Calls Tryd.prog 19 #[.int .i64 a0, .int .i64 a1] w fun e w' => e = .returned (.string r) ∧ Below w.heap.size w w' := by
  have hu113 := Tryd.underlying113
  have HB := Aside0.mk (Below.refl w.heap.size w)
  have H : (if a0 < 9 then ((strconv_Itoa.f a1).bind fun t129 => ((ephemerisref1_zero.f a0).bind fun t130 => ((numeral_digits.f a0 t129).bind fun t131 => (some t131)))) else (if a0 = 12 then ((some (([(⟨#[227, 128, 135]⟩ : ByteArray), (⟨#[228, 184, 128]⟩ : ByteArray), (⟨#[228, 186, 140]⟩ : ByteArray), (⟨#[228, 184, 137]⟩ : ByteArray), (⟨#[229, 155, 155]⟩ : ByteArray), (⟨#[228, 186, 148]⟩ : ByteArray), (⟨#[229, 133, 173]⟩ : ByteArray), (⟨#[228, 184, 131]⟩ : ByteArray), (⟨#[229, 133, 171]⟩ : ByteArray), (⟨#[228, 185, 157]⟩ : ByteArray)] : List ByteArray) : List ByteArray)).bind fun y132 => (if a1 = 0 then (if 0 < (y132.length : Int) then (some (rdOf ByteArray.empty y132 0)) else (none)) else ((some (([(⟨1000, (⟨#[229, 141, 131]⟩ : ByteArray)⟩ : S113), (⟨100, (⟨#[231, 153, 190]⟩ : ByteArray)⟩ : S113), (⟨10, (⟨#[229, 141, 129]⟩ : ByteArray)⟩ : S113), (⟨1, (⟨#[]⟩ : ByteArray)⟩ : S113)] : List (S113)) : List (S113))).bind fun y136 => (ephemerisref1_NumeralText.l0 k a1 y132 (⟨#[]⟩ : ByteArray) y136 (y136.length : Int) 0)))) else ((ephemerisref1_list.f a0).bind fun t145 => (ephemerisref1_NumeralText.l1 k a0 a1 (⟨#[]⟩ : ByteArray) t145 (t145.length : Int) 0)))) = some r := h
  clear h
  by_cases c3 : a0 < 9
  · rw [if_pos c3] at H
    have c3b0 : decide (a0 < 9) = true := decide_eq_true c3
    clear c3
    replace H := Option.bind_eq_some_iff.mp H
    obtain ⟨t129, A40, H⟩ := H
    replace H : ((ephemerisref1_zero.f a0).bind fun t130 => ((numeral_digits.f a0 t129).bind fun t131 => (some t131))) = some r := H
    have A4 := Aside0.mk A40
    clear A40
    replace H := Option.bind_eq_some_iff.mp H
    obtain ⟨t130, A50, H⟩ := H
    replace H : ((numeral_digits.f a0 t129).bind fun t131 => (some t131)) = some r := H
    have A5 := Aside0.mk A50
    clear A50
    replace H := Option.bind_eq_some_iff.mp H
    obtain ⟨t131, A60, H⟩ := H
    replace H : (some t131) = some r := H
    have A6 := Aside0.mk A60
    clear A60
    obtain rfl := Option.some.inj H
    have hA6 := A6.out
    unfold numeral_digits.f at hA6
    by_cases c0 : (0 ≤ a0 ∧ a0 < 9) ∧ t129.size ≤ 1000 ∧ (t129.data.toList.all fun c => decide (c = 45 ∨ (48 ≤ c.toNat ∧ c.toNat ≤ 57))) = true
    · rw [if_pos c0] at hA6
      have HR := Aside0.mk (Option.some.inj hA6)
      obtain ⟨⟨h0, h9⟩, hs, hall⟩ := c0
      have HA := Aside0.mk hall
      have HZ0 := Aside0.mk (numeral_digits.zero_is a0 t130 h0 h9 A5.out)
      obtain ⟨hz1, hz2⟩ := numeral_digits.z_in a0 h0 h9
      have HEN := Aside0.mk (numeral_digits.enc_is a0 h0 h9)
      generalize numeral_digits.z a0 = z at hz1 hz2 HR HZ0 HEN
      clear hA6 hall
      go_enter Tryd.func19, Tryd.ntmps19
      go_wp2_with (first
        | (go_at_call 50; refine (strconv_Itoa.calls a1 t129 _ (hT.below (by repeat (first | (with_reducible first | exact HB.out | apply below_alloc | apply pw_below_drewN | apply below_drew1) | exact HB.out)) (Nat.le_refl _)) A4.out).mono ?_; rintro e W7 ⟨rfl, hb⟩; have HB7 := Aside0.mk hb; clear HB hb))
      go_loopg [5, 7] t129.size (fun g v5 _ wx => ∃ i : Nat, v5 = .string ⟨(numeral_digits.enc z (t129.data.toList.take i)).toArray⟩ ∧ i + g = t129.size ∧ wx.heap[W7.heap.size]? = some (.stringIter t129 i) ∧ Aside0 (Below w.heap.size w wx))
      case atStart => exact ⟨0, rfl, by omega, World.iter_heap W7 t129 0, ⟨HB7.out.alloc (below_size HB7.out) _⟩⟩
      case round =>
        obtain ⟨i, rfl, hig, hit, HB⟩ := hrel
        by_cases hi : i < t129.size
        · have hl : i < t129.data.toList.length := by rw [Array.length_toList]; exact hi
          obtain ⟨c, hc⟩ : ∃ c : UInt8, t129.data.toList[i] = c := ⟨_, rfl⟩
          have hcx : (t129[i]'hi) = c := by rw [← hc]; rfl
          have hcc : c = 45 ∨ (48 ≤ c.toNat ∧ c.toNat ≤ 57) := by
            have := List.all_eq_true.1 HA.out t129.data.toList[i] (List.getElem_mem hl)
            rw [hc] at this
            simpa using this
          have HE : Aside0 (numeral_digits.enc z (t129.data.toList.take (i + 1)) = numeral_digits.enc z (t129.data.toList.take i) ++ numeral_digits.one z c) := ⟨by
            rw [← numeral_digits.enc_snoc, List.take_succ_eq_append_getElem hl, hc]⟩
          have hsz : (⟨(numeral_digits.enc z (t129.data.toList.take i)).toArray⟩ : ByteArray).size ≤ 4000 := by
            have := numeral_digits.enc_le z (t129.data.toList.take i)
            rw [List.length_take] at this
            show (numeral_digits.enc z (t129.data.toList.take i)).length ≤ _
            omega
          have hx : (t129[i]'hi).toNat < 128 := by
            rw [hcx]
            rcases hcc with h | h
            · rw [h]; decide
            · omega
          have hnx := fun ty => Go.Lib.run_next_ascii_at (P := Tryd.prog) wr W7.heap.size t129 i ty hit hi hx
          have HN : Aside0 (Below w.heap.size w (wr.iterAt W7.heap.size t129 (i + 1))) := ⟨Go.Lib.below_iterAt HB.out (below_size HB7.out) _ _⟩
          have HK : Aside0 ((wr.iterAt W7.heap.size t129 (i + 1)).heap[W7.heap.size]? = some (.stringIter t129 (i + 1))) := ⟨Go.Lib.iterAt_heap _ _ _ _ _ hit⟩
          obtain ⟨x, hxe⟩ : ∃ x : Int, (((t129[i]'hi).toNat : Nat) : Int) = x := ⟨_, rfl⟩
          rw [hxe] at hnx
          rw [hcx] at hxe
          clear hit HB
          have hss : ∀ C : List UInt8, (⟨(numeral_digits.enc z (t129.data.toList.take i)).toArray⟩ : ByteArray) ++ (⟨C.toArray⟩ : ByteArray) = ⟨(numeral_digits.enc z (t129.data.toList.take i) ++ C).toArray⟩ := by
            intro C
            apply ByteArray.ext
            rw [ByteArray.data_append]
            simp
          have HSS := Aside0.mk hss
          clear hss
          by_cases h45 : c = 45
          · obtain rfl : x = 45 := by rw [← hxe, h45]; rfl
            have hone : numeral_digits.one z c = [45] := by unfold numeral_digits.one; rw [if_pos h45]
            rw [hone] at HE
            have hen : Utf8.encode 45 = (⟨#[45]⟩ : ByteArray) := rfl
            have hez : (⟨#[45]⟩ : ByteArray).size = 1 := rfl
            clear hone hx hcc hc hcx hxe h45
            go_wp2
            go_roundg (t129.size - (i + 1))
            case measure => omega
            case rel => exact ⟨i + 1, by rw [HE.out, ← HSS.out], by omega, HK.out, HN⟩
          · have hx2 : (48 : Int) ≤ x ∧ x ≤ 57 := by
              have : 48 ≤ c.toNat ∧ c.toNat ≤ 57 := by rcases hcc with h | h; · exact absurd h h45
                                                       · exact h
              omega
            have hone : numeral_digits.one z c = Go.Lib.encodeRune (z + x - 48) := by unfold numeral_digits.one; rw [if_neg h45, hxe]
            rw [hone] at HE
            have d1 : (x == 45) = false := beq_eq_false_iff_ne.2 (by omega)
            have d2 : (x != 45) = true := bne_iff_ne.2 (by omega)
            have v1 : IntKind.i32.wrap (z - 48) = z - 48 := numeral_digits.w32 (by omega) (by omega)
            have v2 : IntKind.i32.wrap (x + (z - 48)) = x + (z - 48) := numeral_digits.w32 (by omega) (by omega)
            have hen : Utf8.encode (x + (z - 48)) = ⟨(Go.Lib.encodeRune (z + x - 48)).toArray⟩ := HEN.out x hx2.1 hx2.2
            have hez : (⟨(Go.Lib.encodeRune (z + x - 48)).toArray⟩ : ByteArray).size ≤ 4 := by
              have := Go.Lib.runeCells_le (z + x - 48)
              rw [Go.Lib.runeCells_length] at this
              exact this.2
            generalize Go.Lib.encodeRune (z + x - 48) = C at HE hen hez
            have HX := Aside0.mk hx2
            clear hone hx hcc hc hcx hxe h45
            go_wp2_with (first
              | (go_at_call 51; refine (ephemerisref1_zero.calls a0 t130 _ A5.out).mono ?_; rintro e W8 ⟨rfl, hb⟩; have HK8 := Aside0.mk ((hb.block _ (Array.getElem?_eq_some_iff.1 HK.out).1).trans HK.out); have HB8 := Aside0.mk (below_step HN.out hb); clear hb; rw [HZ0.out]))
            go_roundg (t129.size - (i + 1))
            case measure => omega
            case rel => exact ⟨i + 1, by rw [HE.out, ← HSS.out], by omega, HK8.out, HB8⟩
        · obtain rfl : i = t129.size := by omega
          have hnx := fun ty => Go.Lib.run_next_end_at (P := Tryd.prog) wr W7.heap.size t129 t129.size ty hit hi
          rw [List.take_of_length_le (by rw [Array.length_toList]; exact Nat.le_refl _)]
          have hr := HR.out
          rw [hr]
          clear hit hi hr
          go_wp2
          go_ret
          exact ⟨rfl, HB.out⟩
    · rw [if_neg c0] at hA6; cases hA6
  · rw [if_neg c3] at H
    have c3b0 : decide (a0 < 9) = false := decide_eq_false c3
    clear c3
    by_cases c10 : a0 = 12
    · rw [if_pos c10] at H
      have c10b0 : (a0 == 12) = true := beq_iff_eq.mpr c10
      have c10b1 : (a0 != 12) = false := bne_eq_false_iff_eq.mpr c10
      clear c10
      obtain ⟨y132, hy132⟩ : ∃ y_ : List ByteArray, y_ = (([(⟨#[227, 128, 135]⟩ : ByteArray), (⟨#[228, 184, 128]⟩ : ByteArray), (⟨#[228, 186, 140]⟩ : ByteArray), (⟨#[228, 184, 137]⟩ : ByteArray), (⟨#[229, 155, 155]⟩ : ByteArray), (⟨#[228, 186, 148]⟩ : ByteArray), (⟨#[229, 133, 173]⟩ : ByteArray), (⟨#[228, 184, 131]⟩ : ByteArray), (⟨#[229, 133, 171]⟩ : ByteArray), (⟨#[228, 185, 157]⟩ : ByteArray)] : List ByteArray)) := ⟨_, rfl⟩
      replace H : (if a1 = 0 then (if 0 < (y132.length : Int) then (some (rdOf ByteArray.empty y132 0)) else (none)) else ((some (([(⟨1000, (⟨#[229, 141, 131]⟩ : ByteArray)⟩ : S113), (⟨100, (⟨#[231, 153, 190]⟩ : ByteArray)⟩ : S113), (⟨10, (⟨#[229, 141, 129]⟩ : ByteArray)⟩ : S113), (⟨1, (⟨#[]⟩ : ByteArray)⟩ : S113)] : List (S113)) : List (S113))).bind fun y136 => (ephemerisref1_NumeralText.l0 k a1 y132 (⟨#[]⟩ : ByteArray) y136 (y136.length : Int) 0))) = some r := by first | (rw [hy132]; with_reducible exact H) | (have H2_ := (Option.bind_some _ _).symm.trans H; rw [hy132]; with_reducible exact H2_) | (have H2_ := (Option.bind_some _ _).symm.trans H; with_reducible exact H2_) | with_reducible exact H | (rw [hy132]; exact H) | exact H
      have Ny132 := Aside0.mk hy132
      clear hy132
      by_cases c11 : a1 = 0
      · rw [if_pos c11] at H
        have c11b0 : (a1 == 0) = true := beq_iff_eq.mpr c11
        have c11b1 : (a1 != 0) = false := bne_eq_false_iff_eq.mpr c11
        clear c11
        by_cases c12 : 0 < (y132.length : Int)
        · rw [if_pos c12] at H
          have c12b0 : decide (0 < (y132.length : Int)) = true := decide_eq_true c12
          have c12b1 : decide (0 < y132.length) = true := decide_eq_true (by omega)
          clear c12
          obtain rfl := Option.some.inj H
          go_enter Tryd.func19, Tryd.ntmps19
          go_wp2_with (first | ((with_reducible refine gate_dst (N := 38) rfl ?_); refine Kd.R_lit Kd.string _ 9 ?hg (N := 38) ?hd (xs := ([(⟨#[227, 128, 135]⟩ : ByteArray), (⟨#[228, 184, 128]⟩ : ByteArray), (⟨#[228, 186, 140]⟩ : ByteArray), (⟨#[228, 184, 137]⟩ : ByteArray), (⟨#[229, 155, 155]⟩ : ByteArray), (⟨#[228, 186, 148]⟩ : ByteArray), (⟨#[229, 133, 173]⟩ : ByteArray), (⟨#[228, 184, 131]⟩ : ByteArray), (⟨#[229, 133, 171]⟩ : ByteArray), (⟨#[228, 185, 157]⟩ : ByteArray)] : List ByteArray)) (inner := [.string (⟨#[227, 128, 135]⟩ : ByteArray), .string (⟨#[228, 184, 128]⟩ : ByteArray), .string (⟨#[228, 186, 140]⟩ : ByteArray), .string (⟨#[228, 184, 137]⟩ : ByteArray), .string (⟨#[229, 155, 155]⟩ : ByteArray), .string (⟨#[228, 186, 148]⟩ : ByteArray), .string (⟨#[229, 133, 173]⟩ : ByteArray), .string (⟨#[228, 184, 131]⟩ : ByteArray), .string (⟨#[229, 133, 171]⟩ : ByteArray), .string (⟨#[228, 185, 157]⟩ : ByteArray)]) (ok := fun _ => True) (okp := fun _ => True) ?hr ?hp (fun _ hk => hk) trivial (Below.refl _ _) (Nat.le_refl _) (by simp) ?_; (case hd => rfl); (case hg => rfl); (case hr => first | (go_simp; done) | (go_simp; rfl)); (case hp => exact (Reps.one (show Kd.M Kd.string _ _ _ (⟨#[227, 128, 135]⟩ : ByteArray) [.string (⟨#[227, 128, 135]⟩ : ByteArray)] from rfl) (Reps.one (show Kd.M Kd.string _ _ _ (⟨#[228, 184, 128]⟩ : ByteArray) [.string (⟨#[228, 184, 128]⟩ : ByteArray)] from rfl) (Reps.one (show Kd.M Kd.string _ _ _ (⟨#[228, 186, 140]⟩ : ByteArray) [.string (⟨#[228, 186, 140]⟩ : ByteArray)] from rfl) (Reps.one (show Kd.M Kd.string _ _ _ (⟨#[228, 184, 137]⟩ : ByteArray) [.string (⟨#[228, 184, 137]⟩ : ByteArray)] from rfl) (Reps.one (show Kd.M Kd.string _ _ _ (⟨#[229, 155, 155]⟩ : ByteArray) [.string (⟨#[229, 155, 155]⟩ : ByteArray)] from rfl) (Reps.one (show Kd.M Kd.string _ _ _ (⟨#[228, 186, 148]⟩ : ByteArray) [.string (⟨#[228, 186, 148]⟩ : ByteArray)] from rfl) (Reps.one (show Kd.M Kd.string _ _ _ (⟨#[229, 133, 173]⟩ : ByteArray) [.string (⟨#[229, 133, 173]⟩ : ByteArray)] from rfl) (Reps.one (show Kd.M Kd.string _ _ _ (⟨#[228, 184, 131]⟩ : ByteArray) [.string (⟨#[228, 184, 131]⟩ : ByteArray)] from rfl) (Reps.one (show Kd.M Kd.string _ _ _ (⟨#[229, 133, 171]⟩ : ByteArray) [.string (⟨#[229, 133, 171]⟩ : ByteArray)] from rfl) (Reps.one (show Kd.M Kd.string _ _ _ (⟨#[228, 185, 157]⟩ : ByteArray) [.string (⟨#[228, 185, 157]⟩ : ByteArray)] from rfl) (Reps.none _ _)))))))))))); intro v133 w13 ho14 hb hg_ hnew_; clear hg_ hnew_; (first | rw [← Ny132.out] at ho14 | (simp only [Int.reduceToNat] at ho14; rw [← Ny132.out] at ho14)); have n0_ := Aside0.mk (Kd.R_lower ho14 (below_size (by repeat (first | (with_reducible first | exact HB.out | apply below_alloc | apply pw_below_drewN | apply below_drew1) | exact HB.out)))); have n1_ := Aside0.mk (below_step (by repeat (first | (with_reducible first | exact HB.out | apply below_alloc | apply pw_below_drewN | apply below_drew1) | exact HB.out)) hb); clear HB; have HO134 := n0_; have HB := n1_; clear n0_ n1_; clear hb ho14; obtain ⟨Ao15, co15, eo15⟩ := Kd.R_slice HO134.out; subst eo15; have p135 : 0 ≤ (0 : Int) := (by omega); have q135 : 0 < (y132.length : Int) := of_decide_eq_true (by first | (with_reducible assumption) | assumption); obtain ⟨ad135, e135, hx135_0⟩ := Kd.at_string (Kd.R_reads' HO134.out).2.2 0 p135 q135; cases e135; have qi135 : (0 < y132.length) = True := eq_true (by omega); (try rw [show ((0 : Int)).toNat = 0 from rfl] at hx135_0); (try rw [Addr.add_zero'] at hx135_0); replace p135 := eq_true p135; replace q135 := eq_true q135))
          repeat (go_quiet (first | ((with_reducible refine gate_dst (N := 38) rfl ?_); refine Kd.R_lit Kd.string _ 9 ?hg (N := 38) ?hd (xs := ([(⟨#[227, 128, 135]⟩ : ByteArray), (⟨#[228, 184, 128]⟩ : ByteArray), (⟨#[228, 186, 140]⟩ : ByteArray), (⟨#[228, 184, 137]⟩ : ByteArray), (⟨#[229, 155, 155]⟩ : ByteArray), (⟨#[228, 186, 148]⟩ : ByteArray), (⟨#[229, 133, 173]⟩ : ByteArray), (⟨#[228, 184, 131]⟩ : ByteArray), (⟨#[229, 133, 171]⟩ : ByteArray), (⟨#[228, 185, 157]⟩ : ByteArray)] : List ByteArray)) (inner := [.string (⟨#[227, 128, 135]⟩ : ByteArray), .string (⟨#[228, 184, 128]⟩ : ByteArray), .string (⟨#[228, 186, 140]⟩ : ByteArray), .string (⟨#[228, 184, 137]⟩ : ByteArray), .string (⟨#[229, 155, 155]⟩ : ByteArray), .string (⟨#[228, 186, 148]⟩ : ByteArray), .string (⟨#[229, 133, 173]⟩ : ByteArray), .string (⟨#[228, 184, 131]⟩ : ByteArray), .string (⟨#[229, 133, 171]⟩ : ByteArray), .string (⟨#[228, 185, 157]⟩ : ByteArray)]) (ok := fun _ => True) (okp := fun _ => True) ?hr ?hp (fun _ hk => hk) trivial (Below.refl _ _) (Nat.le_refl _) (by simp) ?_; (case hd => rfl); (case hg => rfl); (case hr => first | (go_simp; done) | (go_simp; rfl)); (case hp => exact (Reps.one (show Kd.M Kd.string _ _ _ (⟨#[227, 128, 135]⟩ : ByteArray) [.string (⟨#[227, 128, 135]⟩ : ByteArray)] from rfl) (Reps.one (show Kd.M Kd.string _ _ _ (⟨#[228, 184, 128]⟩ : ByteArray) [.string (⟨#[228, 184, 128]⟩ : ByteArray)] from rfl) (Reps.one (show Kd.M Kd.string _ _ _ (⟨#[228, 186, 140]⟩ : ByteArray) [.string (⟨#[228, 186, 140]⟩ : ByteArray)] from rfl) (Reps.one (show Kd.M Kd.string _ _ _ (⟨#[228, 184, 137]⟩ : ByteArray) [.string (⟨#[228, 184, 137]⟩ : ByteArray)] from rfl) (Reps.one (show Kd.M Kd.string _ _ _ (⟨#[229, 155, 155]⟩ : ByteArray) [.string (⟨#[229, 155, 155]⟩ : ByteArray)] from rfl) (Reps.one (show Kd.M Kd.string _ _ _ (⟨#[228, 186, 148]⟩ : ByteArray) [.string (⟨#[228, 186, 148]⟩ : ByteArray)] from rfl) (Reps.one (show Kd.M Kd.string _ _ _ (⟨#[229, 133, 173]⟩ : ByteArray) [.string (⟨#[229, 133, 173]⟩ : ByteArray)] from rfl) (Reps.one (show Kd.M Kd.string _ _ _ (⟨#[228, 184, 131]⟩ : ByteArray) [.string (⟨#[228, 184, 131]⟩ : ByteArray)] from rfl) (Reps.one (show Kd.M Kd.string _ _ _ (⟨#[229, 133, 171]⟩ : ByteArray) [.string (⟨#[229, 133, 171]⟩ : ByteArray)] from rfl) (Reps.one (show Kd.M Kd.string _ _ _ (⟨#[228, 185, 157]⟩ : ByteArray) [.string (⟨#[228, 185, 157]⟩ : ByteArray)] from rfl) (Reps.none _ _)))))))))))); intro v133 w13 ho14 hb hg_ hnew_; clear hg_ hnew_; (first | rw [← Ny132.out] at ho14 | (simp only [Int.reduceToNat] at ho14; rw [← Ny132.out] at ho14)); have n0_ := Aside0.mk (Kd.R_lower ho14 (below_size (by repeat (first | (with_reducible first | exact HB.out | apply below_alloc | apply pw_below_drewN | apply below_drew1) | exact HB.out)))); have n1_ := Aside0.mk (below_step (by repeat (first | (with_reducible first | exact HB.out | apply below_alloc | apply pw_below_drewN | apply below_drew1) | exact HB.out)) hb); clear HB; have HO134 := n0_; have HB := n1_; clear n0_ n1_; clear hb ho14; obtain ⟨Ao15, co15, eo15⟩ := Kd.R_slice HO134.out; subst eo15; have p135 : 0 ≤ (0 : Int) := (by omega); have q135 : 0 < (y132.length : Int) := of_decide_eq_true (by first | (with_reducible assumption) | assumption); obtain ⟨ad135, e135, hx135_0⟩ := Kd.at_string (Kd.R_reads' HO134.out).2.2 0 p135 q135; cases e135; have qi135 : (0 < y132.length) = True := eq_true (by omega); (try rw [show ((0 : Int)).toNat = 0 from rfl] at hx135_0); (try rw [Addr.add_zero'] at hx135_0); replace p135 := eq_true p135; replace q135 := eq_true q135)); try go_wp2_with (first | ((with_reducible refine gate_dst (N := 38) rfl ?_); refine Kd.R_lit Kd.string _ 9 ?hg (N := 38) ?hd (xs := ([(⟨#[227, 128, 135]⟩ : ByteArray), (⟨#[228, 184, 128]⟩ : ByteArray), (⟨#[228, 186, 140]⟩ : ByteArray), (⟨#[228, 184, 137]⟩ : ByteArray), (⟨#[229, 155, 155]⟩ : ByteArray), (⟨#[228, 186, 148]⟩ : ByteArray), (⟨#[229, 133, 173]⟩ : ByteArray), (⟨#[228, 184, 131]⟩ : ByteArray), (⟨#[229, 133, 171]⟩ : ByteArray), (⟨#[228, 185, 157]⟩ : ByteArray)] : List ByteArray)) (inner := [.string (⟨#[227, 128, 135]⟩ : ByteArray), .string (⟨#[228, 184, 128]⟩ : ByteArray), .string (⟨#[228, 186, 140]⟩ : ByteArray), .string (⟨#[228, 184, 137]⟩ : ByteArray), .string (⟨#[229, 155, 155]⟩ : ByteArray), .string (⟨#[228, 186, 148]⟩ : ByteArray), .string (⟨#[229, 133, 173]⟩ : ByteArray), .string (⟨#[228, 184, 131]⟩ : ByteArray), .string (⟨#[229, 133, 171]⟩ : ByteArray), .string (⟨#[228, 185, 157]⟩ : ByteArray)]) (ok := fun _ => True) (okp := fun _ => True) ?hr ?hp (fun _ hk => hk) trivial (Below.refl _ _) (Nat.le_refl _) (by simp) ?_; (case hd => rfl); (case hg => rfl); (case hr => first | (go_simp; done) | (go_simp; rfl)); (case hp => exact (Reps.one (show Kd.M Kd.string _ _ _ (⟨#[227, 128, 135]⟩ : ByteArray) [.string (⟨#[227, 128, 135]⟩ : ByteArray)] from rfl) (Reps.one (show Kd.M Kd.string _ _ _ (⟨#[228, 184, 128]⟩ : ByteArray) [.string (⟨#[228, 184, 128]⟩ : ByteArray)] from rfl) (Reps.one (show Kd.M Kd.string _ _ _ (⟨#[228, 186, 140]⟩ : ByteArray) [.string (⟨#[228, 186, 140]⟩ : ByteArray)] from rfl) (Reps.one (show Kd.M Kd.string _ _ _ (⟨#[228, 184, 137]⟩ : ByteArray) [.string (⟨#[228, 184, 137]⟩ : ByteArray)] from rfl) (Reps.one (show Kd.M Kd.string _ _ _ (⟨#[229, 155, 155]⟩ : ByteArray) [.string (⟨#[229, 155, 155]⟩ : ByteArray)] from rfl) (Reps.one (show Kd.M Kd.string _ _ _ (⟨#[228, 186, 148]⟩ : ByteArray) [.string (⟨#[228, 186, 148]⟩ : ByteArray)] from rfl) (Reps.one (show Kd.M Kd.string _ _ _ (⟨#[229, 133, 173]⟩ : ByteArray) [.string (⟨#[229, 133, 173]⟩ : ByteArray)] from rfl) (Reps.one (show Kd.M Kd.string _ _ _ (⟨#[228, 184, 131]⟩ : ByteArray) [.string (⟨#[228, 184, 131]⟩ : ByteArray)] from rfl) (Reps.one (show Kd.M Kd.string _ _ _ (⟨#[229, 133, 171]⟩ : ByteArray) [.string (⟨#[229, 133, 171]⟩ : ByteArray)] from rfl) (Reps.one (show Kd.M Kd.string _ _ _ (⟨#[228, 185, 157]⟩ : ByteArray) [.string (⟨#[228, 185, 157]⟩ : ByteArray)] from rfl) (Reps.none _ _)))))))))))); intro v133 w13 ho14 hb hg_ hnew_; clear hg_ hnew_; (first | rw [← Ny132.out] at ho14 | (simp only [Int.reduceToNat] at ho14; rw [← Ny132.out] at ho14)); have n0_ := Aside0.mk (Kd.R_lower ho14 (below_size (by repeat (first | (with_reducible first | exact HB.out | apply below_alloc | apply pw_below_drewN | apply below_drew1) | exact HB.out)))); have n1_ := Aside0.mk (below_step (by repeat (first | (with_reducible first | exact HB.out | apply below_alloc | apply pw_below_drewN | apply below_drew1) | exact HB.out)) hb); clear HB; have HO134 := n0_; have HB := n1_; clear n0_ n1_; clear hb ho14; obtain ⟨Ao15, co15, eo15⟩ := Kd.R_slice HO134.out; subst eo15; have p135 : 0 ≤ (0 : Int) := (by omega); have q135 : 0 < (y132.length : Int) := of_decide_eq_true (by first | (with_reducible assumption) | assumption); obtain ⟨ad135, e135, hx135_0⟩ := Kd.at_string (Kd.R_reads' HO134.out).2.2 0 p135 q135; cases e135; have qi135 : (0 < y132.length) = True := eq_true (by omega); (try rw [show ((0 : Int)).toNat = 0 from rfl] at hx135_0); (try rw [Addr.add_zero'] at hx135_0); replace p135 := eq_true p135; replace q135 := eq_true q135)))
          go_ret
          exact ⟨by first | rfl | (simp [errW_none, errW_some] <;> rfl) | (simp [*, errW_none, errW_some] <;> rfl), by repeat (first | (with_reducible first | exact HB.out | apply below_alloc | apply pw_below_drewN | apply below_drew1) | exact HB.out)⟩
        · rw [if_neg c12] at H
          exact absurd H (by simp)
      · rw [if_neg c11] at H
        have c11b0 : (a1 == 0) = false := beq_eq_false_iff_ne.mpr c11
        have c11b1 : (a1 != 0) = true := bne_iff_ne.mpr c11
        obtain ⟨y136, hy136⟩ : ∃ y_ : List (S113), y_ = (([(⟨1000, (⟨#[229, 141, 131]⟩ : ByteArray)⟩ : S113), (⟨100, (⟨#[231, 153, 190]⟩ : ByteArray)⟩ : S113), (⟨10, (⟨#[229, 141, 129]⟩ : ByteArray)⟩ : S113), (⟨1, (⟨#[]⟩ : ByteArray)⟩ : S113)] : List (S113))) := ⟨_, rfl⟩
        replace H : (ephemerisref1_NumeralText.l0 k a1 y132 (⟨#[]⟩ : ByteArray) y136 (y136.length : Int) 0) = some r := by first | (rw [hy136]; with_reducible exact H) | (have H2_ := (Option.bind_some _ _).symm.trans H; rw [hy136]; with_reducible exact H2_) | (have H2_ := (Option.bind_some _ _).symm.trans H; with_reducible exact H2_) | with_reducible exact H | (rw [hy136]; exact H) | exact H
        have Ny136 := Aside0.mk hy136
        clear hy136
        have H' := Aside0.mk H
        clear H
        go_enter Tryd.func19, Tryd.ntmps19
        go_wp2_with (first | ((with_reducible refine gate_dst (N := 38) rfl ?_); refine Kd.R_lit Kd.string _ 9 ?hg (N := 38) ?hd (xs := ([(⟨#[227, 128, 135]⟩ : ByteArray), (⟨#[228, 184, 128]⟩ : ByteArray), (⟨#[228, 186, 140]⟩ : ByteArray), (⟨#[228, 184, 137]⟩ : ByteArray), (⟨#[229, 155, 155]⟩ : ByteArray), (⟨#[228, 186, 148]⟩ : ByteArray), (⟨#[229, 133, 173]⟩ : ByteArray), (⟨#[228, 184, 131]⟩ : ByteArray), (⟨#[229, 133, 171]⟩ : ByteArray), (⟨#[228, 185, 157]⟩ : ByteArray)] : List ByteArray)) (inner := [.string (⟨#[227, 128, 135]⟩ : ByteArray), .string (⟨#[228, 184, 128]⟩ : ByteArray), .string (⟨#[228, 186, 140]⟩ : ByteArray), .string (⟨#[228, 184, 137]⟩ : ByteArray), .string (⟨#[229, 155, 155]⟩ : ByteArray), .string (⟨#[228, 186, 148]⟩ : ByteArray), .string (⟨#[229, 133, 173]⟩ : ByteArray), .string (⟨#[228, 184, 131]⟩ : ByteArray), .string (⟨#[229, 133, 171]⟩ : ByteArray), .string (⟨#[228, 185, 157]⟩ : ByteArray)]) (ok := fun _ => True) (okp := fun _ => True) ?hr ?hp (fun _ hk => hk) trivial (Below.refl _ _) (Nat.le_refl _) (by simp) ?_; (case hd => rfl); (case hg => rfl); (case hr => first | (go_simp; done) | (go_simp; rfl)); (case hp => exact (Reps.one (show Kd.M Kd.string _ _ _ (⟨#[227, 128, 135]⟩ : ByteArray) [.string (⟨#[227, 128, 135]⟩ : ByteArray)] from rfl) (Reps.one (show Kd.M Kd.string _ _ _ (⟨#[228, 184, 128]⟩ : ByteArray) [.string (⟨#[228, 184, 128]⟩ : ByteArray)] from rfl) (Reps.one (show Kd.M Kd.string _ _ _ (⟨#[228, 186, 140]⟩ : ByteArray) [.string (⟨#[228, 186, 140]⟩ : ByteArray)] from rfl) (Reps.one (show Kd.M Kd.string _ _ _ (⟨#[228, 184, 137]⟩ : ByteArray) [.string (⟨#[228, 184, 137]⟩ : ByteArray)] from rfl) (Reps.one (show Kd.M Kd.string _ _ _ (⟨#[229, 155, 155]⟩ : ByteArray) [.string (⟨#[229, 155, 155]⟩ : ByteArray)] from rfl) (Reps.one (show Kd.M Kd.string _ _ _ (⟨#[228, 186, 148]⟩ : ByteArray) [.string (⟨#[228, 186, 148]⟩ : ByteArray)] from rfl) (Reps.one (show Kd.M Kd.string _ _ _ (⟨#[229, 133, 173]⟩ : ByteArray) [.string (⟨#[229, 133, 173]⟩ : ByteArray)] from rfl) (Reps.one (show Kd.M Kd.string _ _ _ (⟨#[228, 184, 131]⟩ : ByteArray) [.string (⟨#[228, 184, 131]⟩ : ByteArray)] from rfl) (Reps.one (show Kd.M Kd.string _ _ _ (⟨#[229, 133, 171]⟩ : ByteArray) [.string (⟨#[229, 133, 171]⟩ : ByteArray)] from rfl) (Reps.one (show Kd.M Kd.string _ _ _ (⟨#[228, 185, 157]⟩ : ByteArray) [.string (⟨#[228, 185, 157]⟩ : ByteArray)] from rfl) (Reps.none _ _)))))))))))); intro v133 w16 ho17 hb hg_ hnew_; clear hg_ hnew_; (first | rw [← Ny132.out] at ho17 | (simp only [Int.reduceToNat] at ho17; rw [← Ny132.out] at ho17)); have n0_ := Aside0.mk (Kd.R_lower ho17 (below_size (by repeat (first | (with_reducible first | exact HB.out | apply below_alloc | apply pw_below_drewN | apply below_drew1) | exact HB.out)))); have n1_ := Aside0.mk (below_step (by repeat (first | (with_reducible first | exact HB.out | apply below_alloc | apply pw_below_drewN | apply below_drew1) | exact HB.out)) hb); clear HB; have HO134 := n0_; have HB := n1_; clear n0_ n1_; clear hb ho17) | ((with_reducible refine gate_dst (N := 48) rfl ?_); refine Kd.R_lit k113 _ 113 ?hg (N := 48) ?hd (xs := ([(⟨1000, (⟨#[229, 141, 131]⟩ : ByteArray)⟩ : S113), (⟨100, (⟨#[231, 153, 190]⟩ : ByteArray)⟩ : S113), (⟨10, (⟨#[229, 141, 129]⟩ : ByteArray)⟩ : S113), (⟨1, (⟨#[]⟩ : ByteArray)⟩ : S113)] : List (S113))) (inner := [.int .i64 1000, .string (⟨#[229, 141, 131]⟩ : ByteArray), .int .i64 100, .string (⟨#[231, 153, 190]⟩ : ByteArray), .int .i64 10, .string (⟨#[229, 141, 129]⟩ : ByteArray), .int .i64 1, .string (⟨#[]⟩ : ByteArray)]) (ok := fun _ => True) (okp := fun _ => True) ?hr ?hp (fun _ hk => hk) trivial (Below.refl _ _) (Nat.le_refl _) (by simp) ?_; (case hd => rfl); (case hg => rfl); (case hr => first | (go_simp; done) | (go_simp; rfl)); (case hp => exact (Reps.c2 (show Kd.M k113 _ _ _ (⟨1000, (⟨#[229, 141, 131]⟩ : ByteArray)⟩ : S113) [.int .i64 1000, .string (⟨#[229, 141, 131]⟩ : ByteArray)] from (k113_mkM _ _ _ (⟨1000, (⟨#[229, 141, 131]⟩ : ByteArray)⟩ : S113) )) (Reps.c2 (show Kd.M k113 _ _ _ (⟨100, (⟨#[231, 153, 190]⟩ : ByteArray)⟩ : S113) [.int .i64 100, .string (⟨#[231, 153, 190]⟩ : ByteArray)] from (k113_mkM _ _ _ (⟨100, (⟨#[231, 153, 190]⟩ : ByteArray)⟩ : S113) )) (Reps.c2 (show Kd.M k113 _ _ _ (⟨10, (⟨#[229, 141, 129]⟩ : ByteArray)⟩ : S113) [.int .i64 10, .string (⟨#[229, 141, 129]⟩ : ByteArray)] from (k113_mkM _ _ _ (⟨10, (⟨#[229, 141, 129]⟩ : ByteArray)⟩ : S113) )) (Reps.c2 (show Kd.M k113 _ _ _ (⟨1, (⟨#[]⟩ : ByteArray)⟩ : S113) [.int .i64 1, .string (⟨#[]⟩ : ByteArray)] from (k113_mkM _ _ _ (⟨1, (⟨#[]⟩ : ByteArray)⟩ : S113) )) (Reps.none _ _)))))); intro v137 w18 ho19 hb hg_ hnew_; clear hg_ hnew_; (first | rw [← Ny136.out] at ho19 | (simp only [Int.reduceToNat] at ho19; rw [← Ny136.out] at ho19)); have n0_ := Aside0.mk (Kd.R_below (by (with_reducible repeat (first | apply Kd.R_alloc | apply Kd.R_drewN | apply Kd.R_drew)); exact HO134.out) hb); have n1_ := Aside0.mk (Kd.R_lower ho19 (below_size (by repeat (first | (with_reducible first | exact HB.out | apply below_alloc | apply pw_below_drewN | apply below_drew1) | exact HB.out)))); have n2_ := Aside0.mk (below_step (by repeat (first | (with_reducible first | exact HB.out | apply below_alloc | apply pw_below_drewN | apply below_drew1) | exact HB.out)) hb); clear HO134; clear HB; have HO134 := n0_; have HO138 := n1_; have HB := n2_; clear n0_ n1_ n2_; clear hb ho19; obtain ⟨Ao20, co20, eo20⟩ := Kd.R_slice HO138.out; subst eo20))
        repeat (go_quiet (first | ((with_reducible refine gate_dst (N := 38) rfl ?_); refine Kd.R_lit Kd.string _ 9 ?hg (N := 38) ?hd (xs := ([(⟨#[227, 128, 135]⟩ : ByteArray), (⟨#[228, 184, 128]⟩ : ByteArray), (⟨#[228, 186, 140]⟩ : ByteArray), (⟨#[228, 184, 137]⟩ : ByteArray), (⟨#[229, 155, 155]⟩ : ByteArray), (⟨#[228, 186, 148]⟩ : ByteArray), (⟨#[229, 133, 173]⟩ : ByteArray), (⟨#[228, 184, 131]⟩ : ByteArray), (⟨#[229, 133, 171]⟩ : ByteArray), (⟨#[228, 185, 157]⟩ : ByteArray)] : List ByteArray)) (inner := [.string (⟨#[227, 128, 135]⟩ : ByteArray), .string (⟨#[228, 184, 128]⟩ : ByteArray), .string (⟨#[228, 186, 140]⟩ : ByteArray), .string (⟨#[228, 184, 137]⟩ : ByteArray), .string (⟨#[229, 155, 155]⟩ : ByteArray), .string (⟨#[228, 186, 148]⟩ : ByteArray), .string (⟨#[229, 133, 173]⟩ : ByteArray), .string (⟨#[228, 184, 131]⟩ : ByteArray), .string (⟨#[229, 133, 171]⟩ : ByteArray), .string (⟨#[228, 185, 157]⟩ : ByteArray)]) (ok := fun _ => True) (okp := fun _ => True) ?hr ?hp (fun _ hk => hk) trivial (Below.refl _ _) (Nat.le_refl _) (by simp) ?_; (case hd => rfl); (case hg => rfl); (case hr => first | (go_simp; done) | (go_simp; rfl)); (case hp => exact (Reps.one (show Kd.M Kd.string _ _ _ (⟨#[227, 128, 135]⟩ : ByteArray) [.string (⟨#[227, 128, 135]⟩ : ByteArray)] from rfl) (Reps.one (show Kd.M Kd.string _ _ _ (⟨#[228, 184, 128]⟩ : ByteArray) [.string (⟨#[228, 184, 128]⟩ : ByteArray)] from rfl) (Reps.one (show Kd.M Kd.string _ _ _ (⟨#[228, 186, 140]⟩ : ByteArray) [.string (⟨#[228, 186, 140]⟩ : ByteArray)] from rfl) (Reps.one (show Kd.M Kd.string _ _ _ (⟨#[228, 184, 137]⟩ : ByteArray) [.string (⟨#[228, 184, 137]⟩ : ByteArray)] from rfl) (Reps.one (show Kd.M Kd.string _ _ _ (⟨#[229, 155, 155]⟩ : ByteArray) [.string (⟨#[229, 155, 155]⟩ : ByteArray)] from rfl) (Reps.one (show Kd.M Kd.string _ _ _ (⟨#[228, 186, 148]⟩ : ByteArray) [.string (⟨#[228, 186, 148]⟩ : ByteArray)] from rfl) (Reps.one (show Kd.M Kd.string _ _ _ (⟨#[229, 133, 173]⟩ : ByteArray) [.string (⟨#[229, 133, 173]⟩ : ByteArray)] from rfl) (Reps.one (show Kd.M Kd.string _ _ _ (⟨#[228, 184, 131]⟩ : ByteArray) [.string (⟨#[228, 184, 131]⟩ : ByteArray)] from rfl) (Reps.one (show Kd.M Kd.string _ _ _ (⟨#[229, 133, 171]⟩ : ByteArray) [.string (⟨#[229, 133, 171]⟩ : ByteArray)] from rfl) (Reps.one (show Kd.M Kd.string _ _ _ (⟨#[228, 185, 157]⟩ : ByteArray) [.string (⟨#[228, 185, 157]⟩ : ByteArray)] from rfl) (Reps.none _ _)))))))))))); intro v133 w16 ho17 hb hg_ hnew_; clear hg_ hnew_; (first | rw [← Ny132.out] at ho17 | (simp only [Int.reduceToNat] at ho17; rw [← Ny132.out] at ho17)); have n0_ := Aside0.mk (Kd.R_lower ho17 (below_size (by repeat (first | (with_reducible first | exact HB.out | apply below_alloc | apply pw_below_drewN | apply below_drew1) | exact HB.out)))); have n1_ := Aside0.mk (below_step (by repeat (first | (with_reducible first | exact HB.out | apply below_alloc | apply pw_below_drewN | apply below_drew1) | exact HB.out)) hb); clear HB; have HO134 := n0_; have HB := n1_; clear n0_ n1_; clear hb ho17) | ((with_reducible refine gate_dst (N := 48) rfl ?_); refine Kd.R_lit k113 _ 113 ?hg (N := 48) ?hd (xs := ([(⟨1000, (⟨#[229, 141, 131]⟩ : ByteArray)⟩ : S113), (⟨100, (⟨#[231, 153, 190]⟩ : ByteArray)⟩ : S113), (⟨10, (⟨#[229, 141, 129]⟩ : ByteArray)⟩ : S113), (⟨1, (⟨#[]⟩ : ByteArray)⟩ : S113)] : List (S113))) (inner := [.int .i64 1000, .string (⟨#[229, 141, 131]⟩ : ByteArray), .int .i64 100, .string (⟨#[231, 153, 190]⟩ : ByteArray), .int .i64 10, .string (⟨#[229, 141, 129]⟩ : ByteArray), .int .i64 1, .string (⟨#[]⟩ : ByteArray)]) (ok := fun _ => True) (okp := fun _ => True) ?hr ?hp (fun _ hk => hk) trivial (Below.refl _ _) (Nat.le_refl _) (by simp) ?_; (case hd => rfl); (case hg => rfl); (case hr => first | (go_simp; done) | (go_simp; rfl)); (case hp => exact (Reps.c2 (show Kd.M k113 _ _ _ (⟨1000, (⟨#[229, 141, 131]⟩ : ByteArray)⟩ : S113) [.int .i64 1000, .string (⟨#[229, 141, 131]⟩ : ByteArray)] from (k113_mkM _ _ _ (⟨1000, (⟨#[229, 141, 131]⟩ : ByteArray)⟩ : S113) )) (Reps.c2 (show Kd.M k113 _ _ _ (⟨100, (⟨#[231, 153, 190]⟩ : ByteArray)⟩ : S113) [.int .i64 100, .string (⟨#[231, 153, 190]⟩ : ByteArray)] from (k113_mkM _ _ _ (⟨100, (⟨#[231, 153, 190]⟩ : ByteArray)⟩ : S113) )) (Reps.c2 (show Kd.M k113 _ _ _ (⟨10, (⟨#[229, 141, 129]⟩ : ByteArray)⟩ : S113) [.int .i64 10, .string (⟨#[229, 141, 129]⟩ : ByteArray)] from (k113_mkM _ _ _ (⟨10, (⟨#[229, 141, 129]⟩ : ByteArray)⟩ : S113) )) (Reps.c2 (show Kd.M k113 _ _ _ (⟨1, (⟨#[]⟩ : ByteArray)⟩ : S113) [.int .i64 1, .string (⟨#[]⟩ : ByteArray)] from (k113_mkM _ _ _ (⟨1, (⟨#[]⟩ : ByteArray)⟩ : S113) )) (Reps.none _ _)))))); intro v137 w18 ho19 hb hg_ hnew_; clear hg_ hnew_; (first | rw [← Ny136.out] at ho19 | (simp only [Int.reduceToNat] at ho19; rw [← Ny136.out] at ho19)); have n0_ := Aside0.mk (Kd.R_below (by (with_reducible repeat (first | apply Kd.R_alloc | apply Kd.R_drewN | apply Kd.R_drew)); exact HO134.out) hb); have n1_ := Aside0.mk (Kd.R_lower ho19 (below_size (by repeat (first | (with_reducible first | exact HB.out | apply below_alloc | apply pw_below_drewN | apply below_drew1) | exact HB.out)))); have n2_ := Aside0.mk (below_step (by repeat (first | (with_reducible first | exact HB.out | apply below_alloc | apply pw_below_drewN | apply below_drew1) | exact HB.out)) hb); clear HO134; clear HB; have HO134 := n0_; have HO138 := n1_; have HB := n2_; clear n0_ n1_ n2_; clear hb ho19; obtain ⟨Ao20, co20, eo20⟩ := Kd.R_slice HO138.out; subst eo20)); try go_wp2_with (first | ((with_reducible refine gate_dst (N := 38) rfl ?_); refine Kd.R_lit Kd.string _ 9 ?hg (N := 38) ?hd (xs := ([(⟨#[227, 128, 135]⟩ : ByteArray), (⟨#[228, 184, 128]⟩ : ByteArray), (⟨#[228, 186, 140]⟩ : ByteArray), (⟨#[228, 184, 137]⟩ : ByteArray), (⟨#[229, 155, 155]⟩ : ByteArray), (⟨#[228, 186, 148]⟩ : ByteArray), (⟨#[229, 133, 173]⟩ : ByteArray), (⟨#[228, 184, 131]⟩ : ByteArray), (⟨#[229, 133, 171]⟩ : ByteArray), (⟨#[228, 185, 157]⟩ : ByteArray)] : List ByteArray)) (inner := [.string (⟨#[227, 128, 135]⟩ : ByteArray), .string (⟨#[228, 184, 128]⟩ : ByteArray), .string (⟨#[228, 186, 140]⟩ : ByteArray), .string (⟨#[228, 184, 137]⟩ : ByteArray), .string (⟨#[229, 155, 155]⟩ : ByteArray), .string (⟨#[228, 186, 148]⟩ : ByteArray), .string (⟨#[229, 133, 173]⟩ : ByteArray), .string (⟨#[228, 184, 131]⟩ : ByteArray), .string (⟨#[229, 133, 171]⟩ : ByteArray), .string (⟨#[228, 185, 157]⟩ : ByteArray)]) (ok := fun _ => True) (okp := fun _ => True) ?hr ?hp (fun _ hk => hk) trivial (Below.refl _ _) (Nat.le_refl _) (by simp) ?_; (case hd => rfl); (case hg => rfl); (case hr => first | (go_simp; done) | (go_simp; rfl)); (case hp => exact (Reps.one (show Kd.M Kd.string _ _ _ (⟨#[227, 128, 135]⟩ : ByteArray) [.string (⟨#[227, 128, 135]⟩ : ByteArray)] from rfl) (Reps.one (show Kd.M Kd.string _ _ _ (⟨#[228, 184, 128]⟩ : ByteArray) [.string (⟨#[228, 184, 128]⟩ : ByteArray)] from rfl) (Reps.one (show Kd.M Kd.string _ _ _ (⟨#[228, 186, 140]⟩ : ByteArray) [.string (⟨#[228, 186, 140]⟩ : ByteArray)] from rfl) (Reps.one (show Kd.M Kd.string _ _ _ (⟨#[228, 184, 137]⟩ : ByteArray) [.string (⟨#[228, 184, 137]⟩ : ByteArray)] from rfl) (Reps.one (show Kd.M Kd.string _ _ _ (⟨#[229, 155, 155]⟩ : ByteArray) [.string (⟨#[229, 155, 155]⟩ : ByteArray)] from rfl) (Reps.one (show Kd.M Kd.string _ _ _ (⟨#[228, 186, 148]⟩ : ByteArray) [.string (⟨#[228, 186, 148]⟩ : ByteArray)] from rfl) (Reps.one (show Kd.M Kd.string _ _ _ (⟨#[229, 133, 173]⟩ : ByteArray) [.string (⟨#[229, 133, 173]⟩ : ByteArray)] from rfl) (Reps.one (show Kd.M Kd.string _ _ _ (⟨#[228, 184, 131]⟩ : ByteArray) [.string (⟨#[228, 184, 131]⟩ : ByteArray)] from rfl) (Reps.one (show Kd.M Kd.string _ _ _ (⟨#[229, 133, 171]⟩ : ByteArray) [.string (⟨#[229, 133, 171]⟩ : ByteArray)] from rfl) (Reps.one (show Kd.M Kd.string _ _ _ (⟨#[228, 185, 157]⟩ : ByteArray) [.string (⟨#[228, 185, 157]⟩ : ByteArray)] from rfl) (Reps.none _ _)))))))))))); intro v133 w16 ho17 hb hg_ hnew_; clear hg_ hnew_; (first | rw [← Ny132.out] at ho17 | (simp only [Int.reduceToNat] at ho17; rw [← Ny132.out] at ho17)); have n0_ := Aside0.mk (Kd.R_lower ho17 (below_size (by repeat (first | (with_reducible first | exact HB.out | apply below_alloc | apply pw_below_drewN | apply below_drew1) | exact HB.out)))); have n1_ := Aside0.mk (below_step (by repeat (first | (with_reducible first | exact HB.out | apply below_alloc | apply pw_below_drewN | apply below_drew1) | exact HB.out)) hb); clear HB; have HO134 := n0_; have HB := n1_; clear n0_ n1_; clear hb ho17) | ((with_reducible refine gate_dst (N := 48) rfl ?_); refine Kd.R_lit k113 _ 113 ?hg (N := 48) ?hd (xs := ([(⟨1000, (⟨#[229, 141, 131]⟩ : ByteArray)⟩ : S113), (⟨100, (⟨#[231, 153, 190]⟩ : ByteArray)⟩ : S113), (⟨10, (⟨#[229, 141, 129]⟩ : ByteArray)⟩ : S113), (⟨1, (⟨#[]⟩ : ByteArray)⟩ : S113)] : List (S113))) (inner := [.int .i64 1000, .string (⟨#[229, 141, 131]⟩ : ByteArray), .int .i64 100, .string (⟨#[231, 153, 190]⟩ : ByteArray), .int .i64 10, .string (⟨#[229, 141, 129]⟩ : ByteArray), .int .i64 1, .string (⟨#[]⟩ : ByteArray)]) (ok := fun _ => True) (okp := fun _ => True) ?hr ?hp (fun _ hk => hk) trivial (Below.refl _ _) (Nat.le_refl _) (by simp) ?_; (case hd => rfl); (case hg => rfl); (case hr => first | (go_simp; done) | (go_simp; rfl)); (case hp => exact (Reps.c2 (show Kd.M k113 _ _ _ (⟨1000, (⟨#[229, 141, 131]⟩ : ByteArray)⟩ : S113) [.int .i64 1000, .string (⟨#[229, 141, 131]⟩ : ByteArray)] from (k113_mkM _ _ _ (⟨1000, (⟨#[229, 141, 131]⟩ : ByteArray)⟩ : S113) )) (Reps.c2 (show Kd.M k113 _ _ _ (⟨100, (⟨#[231, 153, 190]⟩ : ByteArray)⟩ : S113) [.int .i64 100, .string (⟨#[231, 153, 190]⟩ : ByteArray)] from (k113_mkM _ _ _ (⟨100, (⟨#[231, 153, 190]⟩ : ByteArray)⟩ : S113) )) (Reps.c2 (show Kd.M k113 _ _ _ (⟨10, (⟨#[229, 141, 129]⟩ : ByteArray)⟩ : S113) [.int .i64 10, .string (⟨#[229, 141, 129]⟩ : ByteArray)] from (k113_mkM _ _ _ (⟨10, (⟨#[229, 141, 129]⟩ : ByteArray)⟩ : S113) )) (Reps.c2 (show Kd.M k113 _ _ _ (⟨1, (⟨#[]⟩ : ByteArray)⟩ : S113) [.int .i64 1, .string (⟨#[]⟩ : ByteArray)] from (k113_mkM _ _ _ (⟨1, (⟨#[]⟩ : ByteArray)⟩ : S113) )) (Reps.none _ _)))))); intro v137 w18 ho19 hb hg_ hnew_; clear hg_ hnew_; (first | rw [← Ny136.out] at ho19 | (simp only [Int.reduceToNat] at ho19; rw [← Ny136.out] at ho19)); have n0_ := Aside0.mk (Kd.R_below (by (with_reducible repeat (first | apply Kd.R_alloc | apply Kd.R_drewN | apply Kd.R_drew)); exact HO134.out) hb); have n1_ := Aside0.mk (Kd.R_lower ho19 (below_size (by repeat (first | (with_reducible first | exact HB.out | apply below_alloc | apply pw_below_drewN | apply below_drew1) | exact HB.out)))); have n2_ := Aside0.mk (below_step (by repeat (first | (with_reducible first | exact HB.out | apply below_alloc | apply pw_below_drewN | apply below_drew1) | exact HB.out)) hb); clear HO134; clear HB; have HO134 := n0_; have HO138 := n1_; have HB := n2_; clear n0_ n1_ n2_; clear hb ho19; obtain ⟨Ao20, co20, eo20⟩ := Kd.R_slice HO138.out; subst eo20)))
        go_loopg [9, 50] k (fun kq v9 v50 w' => ∃ (x9_1 : ByteArray) (x50_1 : Int), v9 = .string x9_1 ∧ v50 = .int .i64 x50_1 ∧ Aside0 (ephemerisref1_NumeralText.l0 kq a1 y132 x9_1 y136 (y136.length : Int) x50_1 = some r) ∧ Aside0 (kq ≤ k) ∧ Aside0 (Kd.R Kd.string 9 w' w.heap.size (fun _ => True) v133 y132) ∧ Aside0 (Kd.R k113 113 w' w.heap.size (fun _ => True) (.slice Ao20 y136.length co20) y136) ∧ Aside0 (Below w.heap.size w w'))
        case atStart => exact ⟨((⟨#[]⟩ : ByteArray)), (0), (by first | rfl | (simp; done) | (simp [*]; done)), (by first | rfl | (simp; done) | (simp [*]; done)), H', ⟨Nat.le_refl _⟩, ⟨by (with_reducible repeat (first | apply Kd.R_alloc | apply Kd.R_drewN | apply Kd.R_drew)); exact HO134.out⟩, ⟨by (with_reducible repeat (first | apply Kd.R_alloc | apply Kd.R_drewN | apply Kd.R_drew)); exact HO138.out⟩, ⟨by repeat (first | (with_reducible first | exact HB.out | apply below_alloc | apply pw_below_drewN | apply below_drew1) | exact HB.out)⟩⟩
        case round =>
          clear H'
          try clear c1
          try clear p1
          try clear q1
          try clear hx1
          try clear qi1
          try clear c2
          try clear p2
          try clear c3
          try clear c3b0
          try clear c10
          try clear c10b0
          try clear c10b1
          try clear c11
          try clear c11b0
          try clear c11b1
          try clear c12
          try clear c12b0
          try clear c12b1
          try clear p13
          try clear q13
          try clear hx13
          try clear qi13
          try clear c19
          try clear hx135_0
          try clear p135
          try clear q135
          obtain ⟨x9_1, x50_1, rfl, rfl, HA, HK1, HO_8, HO_48, HB⟩ := hrel
          cases gk with
          | zero => exact absurd HA.out (by simp [ephemerisref1_NumeralText.l0])
          | succ k1 =>
            have H := HA.out
            clear HA
            simp only [ephemerisref1_NumeralText.l0] at H
            by_cases c21 : x50_1 < (y136.length : Int)
            · rw [if_pos c21] at H
              have c21b0 : decide (x50_1 < (y136.length : Int)) = true := decide_eq_true c21
              clear c21
              by_cases c22 : 0 ≤ x50_1
              · rw [if_pos c22] at H
                have c22b0 : decide (0 ≤ x50_1) = true := decide_eq_true c22
                clear c22
                by_cases c23 : x50_1 < (y136.length : Int)
                · rw [if_pos c23] at H
                  have c23b0 : decide (x50_1 < (y136.length : Int)) = true := decide_eq_true c23
                  clear c23
                  by_cases c24 : ((rd_T113 y136 x50_1).f0) = 0
                  · rw [if_pos c24] at H
                    exact absurd H (by simp)
                  · rw [if_neg c24] at H
                    have c24b0 : (((rd_T113 y136 x50_1).f0) == 0) = false := beq_eq_false_iff_ne.mpr c24
                    have c24b1 : (((rd_T113 y136 x50_1).f0) != 0) = true := bne_iff_ne.mpr c24
                    by_cases c25 : (Int.tmod (wrap64 (Int.tdiv a1 ((rd_T113 y136 x50_1).f0))) 10) = 0
                    · rw [if_pos c25] at H
                      have c25b0 : ((Int.tmod (wrap64 (Int.tdiv a1 ((rd_T113 y136 x50_1).f0))) 10) == 0) = true := beq_iff_eq.mpr c25
                      have c25b1 : ((Int.tmod (wrap64 (Int.tdiv a1 ((rd_T113 y136 x50_1).f0))) 10) != 0) = false := bne_eq_false_iff_eq.mpr c25
                      clear c25
                      by_cases c26 : x9_1.toList = ([] : List UInt8)
                      · rw [if_pos c26] at H
                        have c26b0 : (x9_1.toList == ([] : List UInt8)) = true := beq_iff_eq.mpr c26
                        have c26b1 : (x9_1.toList != ([] : List UInt8)) = false := bne_eq_false_iff_eq.mpr c26
                        clear c26
                        have H' := Aside0.mk H
                        clear H
                        have p139 : 0 ≤ (x50_1 : Int) := of_decide_eq_true (by first | (with_reducible assumption) | assumption)
                        have q139 : x50_1 < (y136.length : Int) := of_decide_eq_true (by first | (with_reducible assumption) | assumption)
                        obtain ⟨ad139, e139, hx139_0, hx139_1⟩ := at_T113 (Kd.R_reads' HO_48.out).2.2 x50_1 p139 q139
                        cases e139
                        replace p139 := eq_true p139
                        replace q139 := eq_true q139
                        go_wp2_with (first | ((with_reducible refine gate_dst (N := 11) rfl ?_); refine box_event ?hg (N := 11) ?hd (cs := #[.int .i64 0, .string (⟨#[]⟩ : ByteArray)]) (t := 113) ?hr ?_; (case hd => rfl); (case hg => rfl); (case hr => first | (go_simp; done) | (go_simp; rfl)); intro gb140 hg w27 hbox hb; have n0_ := Aside0.mk (Kd.R_below (by (with_reducible repeat (first | apply Kd.R_alloc | apply Kd.R_drewN | apply Kd.R_drew)); exact HO_8.out) hb); have n1_ := Aside0.mk (Kd.R_below (Kd.R_elderB (by (with_reducible repeat (first | apply Kd.R_alloc | apply Kd.R_drewN | apply Kd.R_drew)); exact HO_48.out) gb140 (Nat.le_of_eq hg.symm)) hb); have n2_ := Aside0.mk (below_step (by repeat (first | (with_reducible first | exact HB.out | apply below_alloc | apply pw_below_drewN | apply below_drew1) | exact HB.out)) hb); have n3_ := Aside0.mk (hbox); have n4_ := Aside0.mk ((by rw [hg]; exact (below_size (by repeat (first | (with_reducible first | exact HB.out | apply below_alloc | apply pw_below_drewN | apply below_drew1) | exact HB.out))) : w.heap.size ≤ gb140)); have n5_ := Aside0.mk ((by rw [hg]; exact (below_size (by repeat (first | (with_reducible first | exact HB.out | apply below_alloc | apply pw_below_drewN | apply below_drew1) | exact HB.out))) : w.heap.size ≤ gb140)); clear HO_8; clear HO_48; clear HB; have HO_8 := n0_; have HO_48 := n1_; have HB := n2_; have BK140 := n3_; have GW140 := n4_; have GE140 := n5_; clear n0_ n1_ n2_ n3_ n4_ n5_; clear hb hbox hg; have hcz28_0 : w27.cell? ⟨gb140, 0, none⟩ = some (.int .i64 0) := (blk_cell BK140.out 0).trans rfl; have hcz28_1 : w27.cell? ⟨gb140, 1, none⟩ = some (.string (⟨#[]⟩ : ByteArray)) := (blk_cell BK140.out 1).trans rfl; have hfz28_0 := blk_frozen BK140.out 0; have hfz28_1 := blk_frozen BK140.out 1))
                        repeat (go_quiet (first | ((with_reducible refine gate_dst (N := 11) rfl ?_); refine box_event ?hg (N := 11) ?hd (cs := #[.int .i64 0, .string (⟨#[]⟩ : ByteArray)]) (t := 113) ?hr ?_; (case hd => rfl); (case hg => rfl); (case hr => first | (go_simp; done) | (go_simp; rfl)); intro gb140 hg w27 hbox hb; have n0_ := Aside0.mk (Kd.R_below (by (with_reducible repeat (first | apply Kd.R_alloc | apply Kd.R_drewN | apply Kd.R_drew)); exact HO_8.out) hb); have n1_ := Aside0.mk (Kd.R_below (Kd.R_elderB (by (with_reducible repeat (first | apply Kd.R_alloc | apply Kd.R_drewN | apply Kd.R_drew)); exact HO_48.out) gb140 (Nat.le_of_eq hg.symm)) hb); have n2_ := Aside0.mk (below_step (by repeat (first | (with_reducible first | exact HB.out | apply below_alloc | apply pw_below_drewN | apply below_drew1) | exact HB.out)) hb); have n3_ := Aside0.mk (hbox); have n4_ := Aside0.mk ((by rw [hg]; exact (below_size (by repeat (first | (with_reducible first | exact HB.out | apply below_alloc | apply pw_below_drewN | apply below_drew1) | exact HB.out))) : w.heap.size ≤ gb140)); have n5_ := Aside0.mk ((by rw [hg]; exact (below_size (by repeat (first | (with_reducible first | exact HB.out | apply below_alloc | apply pw_below_drewN | apply below_drew1) | exact HB.out))) : w.heap.size ≤ gb140)); clear HO_8; clear HO_48; clear HB; have HO_8 := n0_; have HO_48 := n1_; have HB := n2_; have BK140 := n3_; have GW140 := n4_; have GE140 := n5_; clear n0_ n1_ n2_ n3_ n4_ n5_; clear hb hbox hg; have hcz28_0 : w27.cell? ⟨gb140, 0, none⟩ = some (.int .i64 0) := (blk_cell BK140.out 0).trans rfl; have hcz28_1 : w27.cell? ⟨gb140, 1, none⟩ = some (.string (⟨#[]⟩ : ByteArray)) := (blk_cell BK140.out 1).trans rfl; have hfz28_0 := blk_frozen BK140.out 0; have hfz28_1 := blk_frozen BK140.out 1)); try go_wp2_with (first | ((with_reducible refine gate_dst (N := 11) rfl ?_); refine box_event ?hg (N := 11) ?hd (cs := #[.int .i64 0, .string (⟨#[]⟩ : ByteArray)]) (t := 113) ?hr ?_; (case hd => rfl); (case hg => rfl); (case hr => first | (go_simp; done) | (go_simp; rfl)); intro gb140 hg w27 hbox hb; have n0_ := Aside0.mk (Kd.R_below (by (with_reducible repeat (first | apply Kd.R_alloc | apply Kd.R_drewN | apply Kd.R_drew)); exact HO_8.out) hb); have n1_ := Aside0.mk (Kd.R_below (Kd.R_elderB (by (with_reducible repeat (first | apply Kd.R_alloc | apply Kd.R_drewN | apply Kd.R_drew)); exact HO_48.out) gb140 (Nat.le_of_eq hg.symm)) hb); have n2_ := Aside0.mk (below_step (by repeat (first | (with_reducible first | exact HB.out | apply below_alloc | apply pw_below_drewN | apply below_drew1) | exact HB.out)) hb); have n3_ := Aside0.mk (hbox); have n4_ := Aside0.mk ((by rw [hg]; exact (below_size (by repeat (first | (with_reducible first | exact HB.out | apply below_alloc | apply pw_below_drewN | apply below_drew1) | exact HB.out))) : w.heap.size ≤ gb140)); have n5_ := Aside0.mk ((by rw [hg]; exact (below_size (by repeat (first | (with_reducible first | exact HB.out | apply below_alloc | apply pw_below_drewN | apply below_drew1) | exact HB.out))) : w.heap.size ≤ gb140)); clear HO_8; clear HO_48; clear HB; have HO_8 := n0_; have HO_48 := n1_; have HB := n2_; have BK140 := n3_; have GW140 := n4_; have GE140 := n5_; clear n0_ n1_ n2_ n3_ n4_ n5_; clear hb hbox hg; have hcz28_0 : w27.cell? ⟨gb140, 0, none⟩ = some (.int .i64 0) := (blk_cell BK140.out 0).trans rfl; have hcz28_1 : w27.cell? ⟨gb140, 1, none⟩ = some (.string (⟨#[]⟩ : ByteArray)) := (blk_cell BK140.out 1).trans rfl; have hfz28_0 := blk_frozen BK140.out 0; have hfz28_1 := blk_frozen BK140.out 1)))
                        go_roundg k1
                        case measure => have := HK1.out; omega
                        case rel => exact ⟨(x9_1), (wrap64 (x50_1 + 1)), (by first | rfl | (simp; done) | (simp [*]; done)), (by first | rfl | (simp; done) | (simp [*]; done)), H', ⟨by have := HK1.out; omega⟩, ⟨by (with_reducible repeat (first | apply Kd.R_alloc | apply Kd.R_drewN | apply Kd.R_drew)); exact Kd.R_mono (Kd.R_far (p := ⟨gb140, 1, none⟩) (Kd.R_far (p := ⟨gb140, 0, none⟩) (Kd.R_types HO_8.out BK140.out (by decide)) (fun _ hk => hk.2) (.int .i64 ((rd_T113 y136 x50_1).f0))) (fun _ hk => hk.2) (.string ((rd_T113 y136 x50_1).f1))) (fun _ hk => trivial)⟩, ⟨by (with_reducible repeat (first | apply Kd.R_alloc | apply Kd.R_drewN | apply Kd.R_drew)); exact Kd.R_mono (Kd.R_far (p := ⟨gb140, 1, none⟩) (Kd.R_far (p := ⟨gb140, 0, none⟩) (Kd.R_mono HO_48.out (fun k_ hk => (⟨hk, hk.2⟩ : _ ∧ k_ ≠ gb140))) (fun _ hk => hk.2) (.int .i64 ((rd_T113 y136 x50_1).f0))) (fun _ hk => hk.2) (.string ((rd_T113 y136 x50_1).f1))) (fun _ hk => trivial)⟩, ⟨by repeat (first | (with_reducible first | exact HB.out | apply below_alloc | apply pw_below_drewN | apply below_drew1 | refine below_set ?_ GE140.out) | exact HB.out)⟩⟩
                      · rw [if_neg c26] at H
                        have c26b0 : (x9_1.toList == ([] : List UInt8)) = false := beq_eq_false_iff_ne.mpr c26
                        have c26b1 : (x9_1.toList != ([] : List UInt8)) = true := bne_iff_ne.mpr c26
                        by_cases c29 : (Int.tmod a1 ((rd_T113 y136 x50_1).f0)) = 0
                        · rw [if_pos c29] at H
                          have c29b0 : ((Int.tmod a1 ((rd_T113 y136 x50_1).f0)) == 0) = true := beq_iff_eq.mpr c29
                          have c29b1 : ((Int.tmod a1 ((rd_T113 y136 x50_1).f0)) != 0) = false := bne_eq_false_iff_eq.mpr c29
                          clear c29
                          have H' := Aside0.mk H
                          clear H
                          have p139 : 0 ≤ (x50_1 : Int) := of_decide_eq_true (by first | (with_reducible assumption) | assumption)
                          have q139 : x50_1 < (y136.length : Int) := of_decide_eq_true (by first | (with_reducible assumption) | assumption)
                          obtain ⟨ad139, e139, hx139_0, hx139_1⟩ := at_T113 (Kd.R_reads' HO_48.out).2.2 x50_1 p139 q139
                          cases e139
                          replace p139 := eq_true p139
                          replace q139 := eq_true q139
                          go_wp2_with (first | ((with_reducible refine gate_dst (N := 11) rfl ?_); refine box_event ?hg (N := 11) ?hd (cs := #[.int .i64 0, .string (⟨#[]⟩ : ByteArray)]) (t := 113) ?hr ?_; (case hd => rfl); (case hg => rfl); (case hr => first | (go_simp; done) | (go_simp; rfl)); intro gb140 hg w30 hbox hb; have n0_ := Aside0.mk (Kd.R_below (by (with_reducible repeat (first | apply Kd.R_alloc | apply Kd.R_drewN | apply Kd.R_drew)); exact HO_8.out) hb); have n1_ := Aside0.mk (Kd.R_below (Kd.R_elderB (by (with_reducible repeat (first | apply Kd.R_alloc | apply Kd.R_drewN | apply Kd.R_drew)); exact HO_48.out) gb140 (Nat.le_of_eq hg.symm)) hb); have n2_ := Aside0.mk (below_step (by repeat (first | (with_reducible first | exact HB.out | apply below_alloc | apply pw_below_drewN | apply below_drew1) | exact HB.out)) hb); have n3_ := Aside0.mk (hbox); have n4_ := Aside0.mk ((by rw [hg]; exact (below_size (by repeat (first | (with_reducible first | exact HB.out | apply below_alloc | apply pw_below_drewN | apply below_drew1) | exact HB.out))) : w.heap.size ≤ gb140)); have n5_ := Aside0.mk ((by rw [hg]; exact (below_size (by repeat (first | (with_reducible first | exact HB.out | apply below_alloc | apply pw_below_drewN | apply below_drew1) | exact HB.out))) : w.heap.size ≤ gb140)); clear HO_8; clear HO_48; clear HB; have HO_8 := n0_; have HO_48 := n1_; have HB := n2_; have BK140 := n3_; have GW140 := n4_; have GE140 := n5_; clear n0_ n1_ n2_ n3_ n4_ n5_; clear hb hbox hg; have hcz31_0 : w30.cell? ⟨gb140, 0, none⟩ = some (.int .i64 0) := (blk_cell BK140.out 0).trans rfl; have hcz31_1 : w30.cell? ⟨gb140, 1, none⟩ = some (.string (⟨#[]⟩ : ByteArray)) := (blk_cell BK140.out 1).trans rfl; have hfz31_0 := blk_frozen BK140.out 0; have hfz31_1 := blk_frozen BK140.out 1))
                          repeat (go_quiet (first | ((with_reducible refine gate_dst (N := 11) rfl ?_); refine box_event ?hg (N := 11) ?hd (cs := #[.int .i64 0, .string (⟨#[]⟩ : ByteArray)]) (t := 113) ?hr ?_; (case hd => rfl); (case hg => rfl); (case hr => first | (go_simp; done) | (go_simp; rfl)); intro gb140 hg w30 hbox hb; have n0_ := Aside0.mk (Kd.R_below (by (with_reducible repeat (first | apply Kd.R_alloc | apply Kd.R_drewN | apply Kd.R_drew)); exact HO_8.out) hb); have n1_ := Aside0.mk (Kd.R_below (Kd.R_elderB (by (with_reducible repeat (first | apply Kd.R_alloc | apply Kd.R_drewN | apply Kd.R_drew)); exact HO_48.out) gb140 (Nat.le_of_eq hg.symm)) hb); have n2_ := Aside0.mk (below_step (by repeat (first | (with_reducible first | exact HB.out | apply below_alloc | apply pw_below_drewN | apply below_drew1) | exact HB.out)) hb); have n3_ := Aside0.mk (hbox); have n4_ := Aside0.mk ((by rw [hg]; exact (below_size (by repeat (first | (with_reducible first | exact HB.out | apply below_alloc | apply pw_below_drewN | apply below_drew1) | exact HB.out))) : w.heap.size ≤ gb140)); have n5_ := Aside0.mk ((by rw [hg]; exact (below_size (by repeat (first | (with_reducible first | exact HB.out | apply below_alloc | apply pw_below_drewN | apply below_drew1) | exact HB.out))) : w.heap.size ≤ gb140)); clear HO_8; clear HO_48; clear HB; have HO_8 := n0_; have HO_48 := n1_; have HB := n2_; have BK140 := n3_; have GW140 := n4_; have GE140 := n5_; clear n0_ n1_ n2_ n3_ n4_ n5_; clear hb hbox hg; have hcz31_0 : w30.cell? ⟨gb140, 0, none⟩ = some (.int .i64 0) := (blk_cell BK140.out 0).trans rfl; have hcz31_1 : w30.cell? ⟨gb140, 1, none⟩ = some (.string (⟨#[]⟩ : ByteArray)) := (blk_cell BK140.out 1).trans rfl; have hfz31_0 := blk_frozen BK140.out 0; have hfz31_1 := blk_frozen BK140.out 1)); try go_wp2_with (first | ((with_reducible refine gate_dst (N := 11) rfl ?_); refine box_event ?hg (N := 11) ?hd (cs := #[.int .i64 0, .string (⟨#[]⟩ : ByteArray)]) (t := 113) ?hr ?_; (case hd => rfl); (case hg => rfl); (case hr => first | (go_simp; done) | (go_simp; rfl)); intro gb140 hg w30 hbox hb; have n0_ := Aside0.mk (Kd.R_below (by (with_reducible repeat (first | apply Kd.R_alloc | apply Kd.R_drewN | apply Kd.R_drew)); exact HO_8.out) hb); have n1_ := Aside0.mk (Kd.R_below (Kd.R_elderB (by (with_reducible repeat (first | apply Kd.R_alloc | apply Kd.R_drewN | apply Kd.R_drew)); exact HO_48.out) gb140 (Nat.le_of_eq hg.symm)) hb); have n2_ := Aside0.mk (below_step (by repeat (first | (with_reducible first | exact HB.out | apply below_alloc | apply pw_below_drewN | apply below_drew1) | exact HB.out)) hb); have n3_ := Aside0.mk (hbox); have n4_ := Aside0.mk ((by rw [hg]; exact (below_size (by repeat (first | (with_reducible first | exact HB.out | apply below_alloc | apply pw_below_drewN | apply below_drew1) | exact HB.out))) : w.heap.size ≤ gb140)); have n5_ := Aside0.mk ((by rw [hg]; exact (below_size (by repeat (first | (with_reducible first | exact HB.out | apply below_alloc | apply pw_below_drewN | apply below_drew1) | exact HB.out))) : w.heap.size ≤ gb140)); clear HO_8; clear HO_48; clear HB; have HO_8 := n0_; have HO_48 := n1_; have HB := n2_; have BK140 := n3_; have GW140 := n4_; have GE140 := n5_; clear n0_ n1_ n2_ n3_ n4_ n5_; clear hb hbox hg; have hcz31_0 : w30.cell? ⟨gb140, 0, none⟩ = some (.int .i64 0) := (blk_cell BK140.out 0).trans rfl; have hcz31_1 : w30.cell? ⟨gb140, 1, none⟩ = some (.string (⟨#[]⟩ : ByteArray)) := (blk_cell BK140.out 1).trans rfl; have hfz31_0 := blk_frozen BK140.out 0; have hfz31_1 := blk_frozen BK140.out 1)))
                          go_roundg k1
                          case measure => have := HK1.out; omega
                          case rel => exact ⟨(x9_1), (wrap64 (x50_1 + 1)), (by first | rfl | (simp; done) | (simp [*]; done)), (by first | rfl | (simp; done) | (simp [*]; done)), H', ⟨by have := HK1.out; omega⟩, ⟨by (with_reducible repeat (first | apply Kd.R_alloc | apply Kd.R_drewN | apply Kd.R_drew)); exact Kd.R_mono (Kd.R_far (p := ⟨gb140, 1, none⟩) (Kd.R_far (p := ⟨gb140, 0, none⟩) (Kd.R_types HO_8.out BK140.out (by decide)) (fun _ hk => hk.2) (.int .i64 ((rd_T113 y136 x50_1).f0))) (fun _ hk => hk.2) (.string ((rd_T113 y136 x50_1).f1))) (fun _ hk => trivial)⟩, ⟨by (with_reducible repeat (first | apply Kd.R_alloc | apply Kd.R_drewN | apply Kd.R_drew)); exact Kd.R_mono (Kd.R_far (p := ⟨gb140, 1, none⟩) (Kd.R_far (p := ⟨gb140, 0, none⟩) (Kd.R_mono HO_48.out (fun k_ hk => (⟨hk, hk.2⟩ : _ ∧ k_ ≠ gb140))) (fun _ hk => hk.2) (.int .i64 ((rd_T113 y136 x50_1).f0))) (fun _ hk => hk.2) (.string ((rd_T113 y136 x50_1).f1))) (fun _ hk => trivial)⟩, ⟨by repeat (first | (with_reducible first | exact HB.out | apply below_alloc | apply pw_below_drewN | apply below_drew1 | refine below_set ?_ GE140.out) | exact HB.out)⟩⟩
                        · rw [if_neg c29] at H
                          have c29b0 : ((Int.tmod a1 ((rd_T113 y136 x50_1).f0)) == 0) = false := beq_eq_false_iff_ne.mpr c29
                          have c29b1 : ((Int.tmod a1 ((rd_T113 y136 x50_1).f0)) != 0) = true := bne_iff_ne.mpr c29
                          by_cases c32 : 0 < (y132.length : Int)
                          · rw [if_pos c32] at H
                            have c32b0 : decide (0 < (y132.length : Int)) = true := decide_eq_true c32
                            have c32b1 : decide (0 < y132.length) = true := decide_eq_true (by omega)
                            clear c32
                            replace H := Option.bind_eq_some_iff.mp H
                            obtain ⟨t142, A330, H⟩ := H
                            replace H : (if t142 = true then (ephemerisref1_NumeralText.l0 k1 a1 y132 x9_1 y136 (y136.length : Int) (wrap64 (x50_1 + 1))) else (if x9_1.size + (rdOf ByteArray.empty y132 0).size ≤ 9223372036854775807 then (ephemerisref1_NumeralText.l0 k1 a1 y132 (x9_1 ++ (rdOf ByteArray.empty y132 0)) y136 (y136.length : Int) (wrap64 (x50_1 + 1))) else (none))) = some r := H
                            have A33 := Aside0.mk A330
                            clear A330
                            by_cases c34 : t142 = true
                            · subst c34
                              have H1 : (ephemerisref1_NumeralText.l0 k1 a1 y132 x9_1 y136 (y136.length : Int) (wrap64 (x50_1 + 1))) = some r := by rw [if_pos rfl] at H; exact H
                              clear H
                              have H := H1
                              clear H1
                              have H' := Aside0.mk H
                              clear H
                              have p139 : 0 ≤ (x50_1 : Int) := of_decide_eq_true (by first | (with_reducible assumption) | assumption)
                              have q139 : x50_1 < (y136.length : Int) := of_decide_eq_true (by first | (with_reducible assumption) | assumption)
                              obtain ⟨ad139, e139, hx139_0, hx139_1⟩ := at_T113 (Kd.R_reads' HO_48.out).2.2 x50_1 p139 q139
                              cases e139
                              replace p139 := eq_true p139
                              replace q139 := eq_true q139
                              go_wp2_with (first | ((with_reducible refine gate_dst (N := 11) rfl ?_); refine box_event ?hg (N := 11) ?hd (cs := #[.int .i64 0, .string (⟨#[]⟩ : ByteArray)]) (t := 113) ?hr ?_; (case hd => rfl); (case hg => rfl); (case hr => first | (go_simp; done) | (go_simp; rfl)); intro gb140 hg w35 hbox hb; have n0_ := Aside0.mk (Kd.R_below (by (with_reducible repeat (first | apply Kd.R_alloc | apply Kd.R_drewN | apply Kd.R_drew)); exact HO_8.out) hb); have n1_ := Aside0.mk (Kd.R_below (Kd.R_elderB (by (with_reducible repeat (first | apply Kd.R_alloc | apply Kd.R_drewN | apply Kd.R_drew)); exact HO_48.out) gb140 (Nat.le_of_eq hg.symm)) hb); have n2_ := Aside0.mk (below_step (by repeat (first | (with_reducible first | exact HB.out | apply below_alloc | apply pw_below_drewN | apply below_drew1) | exact HB.out)) hb); have n3_ := Aside0.mk (hbox); have n4_ := Aside0.mk ((by rw [hg]; exact (below_size (by repeat (first | (with_reducible first | exact HB.out | apply below_alloc | apply pw_below_drewN | apply below_drew1) | exact HB.out))) : w.heap.size ≤ gb140)); have n5_ := Aside0.mk ((by rw [hg]; exact (below_size (by repeat (first | (with_reducible first | exact HB.out | apply below_alloc | apply pw_below_drewN | apply below_drew1) | exact HB.out))) : w.heap.size ≤ gb140)); clear HO_8; clear HO_48; clear HB; have HO_8 := n0_; have HO_48 := n1_; have HB := n2_; have BK140 := n3_; have GW140 := n4_; have GE140 := n5_; clear n0_ n1_ n2_ n3_ n4_ n5_; clear hb hbox hg; have hcz36_0 : w35.cell? ⟨gb140, 0, none⟩ = some (.int .i64 0) := (blk_cell BK140.out 0).trans rfl; have hcz36_1 : w35.cell? ⟨gb140, 1, none⟩ = some (.string (⟨#[]⟩ : ByteArray)) := (blk_cell BK140.out 1).trans rfl; have hfz36_0 := blk_frozen BK140.out 0; have hfz36_1 := blk_frozen BK140.out 1; obtain ⟨Ao37, co37, eo37⟩ := Kd.R_slice HO_8.out; subst eo37; have p141 : 0 ≤ (0 : Int) := (by omega); have q141 : 0 < (y132.length : Int) := of_decide_eq_true (by first | (with_reducible assumption) | assumption); obtain ⟨ad141, e141, hx141_0⟩ := Kd.at_string (Kd.R_reads' HO_8.out).2.2 0 p141 q141; cases e141; have qi141 : (0 < y132.length) = True := eq_true (by omega); (try rw [show ((0 : Int)).toNat = 0 from rfl] at hx141_0); (try rw [Addr.add_zero'] at hx141_0); have hn141_0 : ad141.block ≠ gb140 := Kd.own_blk (Kd.R_ne HO_8.out BK140.out (by decide)); have hn141_1 : ad141.block ≠ gb140 := Kd.own_blk (Kd.R_ne HO_8.out BK140.out (by decide)); replace hx141_0 := (cell_far (p := ⟨gb140, 0, none⟩) (by first | (rw [add_block]; exact hn141_0) | (show (Addr.add _ _).block ≠ _; rw [add_block]; exact hn141_0) | exact hn141_0) (.int .i64 ((rd_T113 y136 x50_1).f0))).trans hx141_0; replace hx141_0 := (cell_far (p := ⟨gb140, 1, none⟩) (by first | (rw [add_block]; exact hn141_1) | (show (Addr.add _ _).block ≠ _; rw [add_block]; exact hn141_1) | exact hn141_1) (.string ((rd_T113 y136 x50_1).f1))).trans hx141_0; (try have hy141_0 := fun (n_ : Nat) => (show ((((w35.drewN n_).setCell ⟨gb140, 0, none⟩ (.int .i64 ((rd_T113 y136 x50_1).f0))).setCell ⟨gb140, 1, none⟩ (.string ((rd_T113 y136 x50_1).f1)))).cell? _ = some _ from hx141_0)); clear hn141_0; clear hn141_1; replace p141 := eq_true p141; replace q141 := eq_true q141) | (go_at_call 52; (with_reducible refine (strings_HasSuffix.calls x9_1 (rdOf ByteArray.empty y132 0) true _ A33.out).mono ?_); rintro e w' ⟨rfl, ⟨nd, rfl⟩⟩; (try first | exact ⟨rfl, _, World.drewN_drewN _ _ _⟩ | exact ⟨rfl, _, Eq.trans (World.drewN_drewN _ _ _) (congrArg (World.drewN _) (Nat.add_assoc _ _ _))⟩)))
                              repeat (go_quiet (first | ((with_reducible refine gate_dst (N := 11) rfl ?_); refine box_event ?hg (N := 11) ?hd (cs := #[.int .i64 0, .string (⟨#[]⟩ : ByteArray)]) (t := 113) ?hr ?_; (case hd => rfl); (case hg => rfl); (case hr => first | (go_simp; done) | (go_simp; rfl)); intro gb140 hg w35 hbox hb; have n0_ := Aside0.mk (Kd.R_below (by (with_reducible repeat (first | apply Kd.R_alloc | apply Kd.R_drewN | apply Kd.R_drew)); exact HO_8.out) hb); have n1_ := Aside0.mk (Kd.R_below (Kd.R_elderB (by (with_reducible repeat (first | apply Kd.R_alloc | apply Kd.R_drewN | apply Kd.R_drew)); exact HO_48.out) gb140 (Nat.le_of_eq hg.symm)) hb); have n2_ := Aside0.mk (below_step (by repeat (first | (with_reducible first | exact HB.out | apply below_alloc | apply pw_below_drewN | apply below_drew1) | exact HB.out)) hb); have n3_ := Aside0.mk (hbox); have n4_ := Aside0.mk ((by rw [hg]; exact (below_size (by repeat (first | (with_reducible first | exact HB.out | apply below_alloc | apply pw_below_drewN | apply below_drew1) | exact HB.out))) : w.heap.size ≤ gb140)); have n5_ := Aside0.mk ((by rw [hg]; exact (below_size (by repeat (first | (with_reducible first | exact HB.out | apply below_alloc | apply pw_below_drewN | apply below_drew1) | exact HB.out))) : w.heap.size ≤ gb140)); clear HO_8; clear HO_48; clear HB; have HO_8 := n0_; have HO_48 := n1_; have HB := n2_; have BK140 := n3_; have GW140 := n4_; have GE140 := n5_; clear n0_ n1_ n2_ n3_ n4_ n5_; clear hb hbox hg; have hcz36_0 : w35.cell? ⟨gb140, 0, none⟩ = some (.int .i64 0) := (blk_cell BK140.out 0).trans rfl; have hcz36_1 : w35.cell? ⟨gb140, 1, none⟩ = some (.string (⟨#[]⟩ : ByteArray)) := (blk_cell BK140.out 1).trans rfl; have hfz36_0 := blk_frozen BK140.out 0; have hfz36_1 := blk_frozen BK140.out 1; obtain ⟨Ao37, co37, eo37⟩ := Kd.R_slice HO_8.out; subst eo37; have p141 : 0 ≤ (0 : Int) := (by omega); have q141 : 0 < (y132.length : Int) := of_decide_eq_true (by first | (with_reducible assumption) | assumption); obtain ⟨ad141, e141, hx141_0⟩ := Kd.at_string (Kd.R_reads' HO_8.out).2.2 0 p141 q141; cases e141; have qi141 : (0 < y132.length) = True := eq_true (by omega); (try rw [show ((0 : Int)).toNat = 0 from rfl] at hx141_0); (try rw [Addr.add_zero'] at hx141_0); have hn141_0 : ad141.block ≠ gb140 := Kd.own_blk (Kd.R_ne HO_8.out BK140.out (by decide)); have hn141_1 : ad141.block ≠ gb140 := Kd.own_blk (Kd.R_ne HO_8.out BK140.out (by decide)); replace hx141_0 := (cell_far (p := ⟨gb140, 0, none⟩) (by first | (rw [add_block]; exact hn141_0) | (show (Addr.add _ _).block ≠ _; rw [add_block]; exact hn141_0) | exact hn141_0) (.int .i64 ((rd_T113 y136 x50_1).f0))).trans hx141_0; replace hx141_0 := (cell_far (p := ⟨gb140, 1, none⟩) (by first | (rw [add_block]; exact hn141_1) | (show (Addr.add _ _).block ≠ _; rw [add_block]; exact hn141_1) | exact hn141_1) (.string ((rd_T113 y136 x50_1).f1))).trans hx141_0; (try have hy141_0 := fun (n_ : Nat) => (show ((((w35.drewN n_).setCell ⟨gb140, 0, none⟩ (.int .i64 ((rd_T113 y136 x50_1).f0))).setCell ⟨gb140, 1, none⟩ (.string ((rd_T113 y136 x50_1).f1)))).cell? _ = some _ from hx141_0)); clear hn141_0; clear hn141_1; replace p141 := eq_true p141; replace q141 := eq_true q141) | (go_at_call 52; (with_reducible refine (strings_HasSuffix.calls x9_1 (rdOf ByteArray.empty y132 0) true _ A33.out).mono ?_); rintro e w' ⟨rfl, ⟨nd, rfl⟩⟩; (try first | exact ⟨rfl, _, World.drewN_drewN _ _ _⟩ | exact ⟨rfl, _, Eq.trans (World.drewN_drewN _ _ _) (congrArg (World.drewN _) (Nat.add_assoc _ _ _))⟩))); try go_wp2_with (first | ((with_reducible refine gate_dst (N := 11) rfl ?_); refine box_event ?hg (N := 11) ?hd (cs := #[.int .i64 0, .string (⟨#[]⟩ : ByteArray)]) (t := 113) ?hr ?_; (case hd => rfl); (case hg => rfl); (case hr => first | (go_simp; done) | (go_simp; rfl)); intro gb140 hg w35 hbox hb; have n0_ := Aside0.mk (Kd.R_below (by (with_reducible repeat (first | apply Kd.R_alloc | apply Kd.R_drewN | apply Kd.R_drew)); exact HO_8.out) hb); have n1_ := Aside0.mk (Kd.R_below (Kd.R_elderB (by (with_reducible repeat (first | apply Kd.R_alloc | apply Kd.R_drewN | apply Kd.R_drew)); exact HO_48.out) gb140 (Nat.le_of_eq hg.symm)) hb); have n2_ := Aside0.mk (below_step (by repeat (first | (with_reducible first | exact HB.out | apply below_alloc | apply pw_below_drewN | apply below_drew1) | exact HB.out)) hb); have n3_ := Aside0.mk (hbox); have n4_ := Aside0.mk ((by rw [hg]; exact (below_size (by repeat (first | (with_reducible first | exact HB.out | apply below_alloc | apply pw_below_drewN | apply below_drew1) | exact HB.out))) : w.heap.size ≤ gb140)); have n5_ := Aside0.mk ((by rw [hg]; exact (below_size (by repeat (first | (with_reducible first | exact HB.out | apply below_alloc | apply pw_below_drewN | apply below_drew1) | exact HB.out))) : w.heap.size ≤ gb140)); clear HO_8; clear HO_48; clear HB; have HO_8 := n0_; have HO_48 := n1_; have HB := n2_; have BK140 := n3_; have GW140 := n4_; have GE140 := n5_; clear n0_ n1_ n2_ n3_ n4_ n5_; clear hb hbox hg; have hcz36_0 : w35.cell? ⟨gb140, 0, none⟩ = some (.int .i64 0) := (blk_cell BK140.out 0).trans rfl; have hcz36_1 : w35.cell? ⟨gb140, 1, none⟩ = some (.string (⟨#[]⟩ : ByteArray)) := (blk_cell BK140.out 1).trans rfl; have hfz36_0 := blk_frozen BK140.out 0; have hfz36_1 := blk_frozen BK140.out 1; obtain ⟨Ao37, co37, eo37⟩ := Kd.R_slice HO_8.out; subst eo37; have p141 : 0 ≤ (0 : Int) := (by omega); have q141 : 0 < (y132.length : Int) := of_decide_eq_true (by first | (with_reducible assumption) | assumption); obtain ⟨ad141, e141, hx141_0⟩ := Kd.at_string (Kd.R_reads' HO_8.out).2.2 0 p141 q141; cases e141; have qi141 : (0 < y132.length) = True := eq_true (by omega); (try rw [show ((0 : Int)).toNat = 0 from rfl] at hx141_0); (try rw [Addr.add_zero'] at hx141_0); have hn141_0 : ad141.block ≠ gb140 := Kd.own_blk (Kd.R_ne HO_8.out BK140.out (by decide)); have hn141_1 : ad141.block ≠ gb140 := Kd.own_blk (Kd.R_ne HO_8.out BK140.out (by decide)); replace hx141_0 := (cell_far (p := ⟨gb140, 0, none⟩) (by first | (rw [add_block]; exact hn141_0) | (show (Addr.add _ _).block ≠ _; rw [add_block]; exact hn141_0) | exact hn141_0) (.int .i64 ((rd_T113 y136 x50_1).f0))).trans hx141_0; replace hx141_0 := (cell_far (p := ⟨gb140, 1, none⟩) (by first | (rw [add_block]; exact hn141_1) | (show (Addr.add _ _).block ≠ _; rw [add_block]; exact hn141_1) | exact hn141_1) (.string ((rd_T113 y136 x50_1).f1))).trans hx141_0; (try have hy141_0 := fun (n_ : Nat) => (show ((((w35.drewN n_).setCell ⟨gb140, 0, none⟩ (.int .i64 ((rd_T113 y136 x50_1).f0))).setCell ⟨gb140, 1, none⟩ (.string ((rd_T113 y136 x50_1).f1)))).cell? _ = some _ from hx141_0)); clear hn141_0; clear hn141_1; replace p141 := eq_true p141; replace q141 := eq_true q141) | (go_at_call 52; (with_reducible refine (strings_HasSuffix.calls x9_1 (rdOf ByteArray.empty y132 0) true _ A33.out).mono ?_); rintro e w' ⟨rfl, ⟨nd, rfl⟩⟩; (try first | exact ⟨rfl, _, World.drewN_drewN _ _ _⟩ | exact ⟨rfl, _, Eq.trans (World.drewN_drewN _ _ _) (congrArg (World.drewN _) (Nat.add_assoc _ _ _))⟩))))
                              go_roundg k1
                              case measure => have := HK1.out; omega
                              case rel => exact ⟨(x9_1), (wrap64 (x50_1 + 1)), (by first | rfl | (simp; done) | (simp [*]; done)), (by first | rfl | (simp; done) | (simp [*]; done)), H', ⟨by have := HK1.out; omega⟩, ⟨by (with_reducible repeat (first | apply Kd.R_alloc | apply Kd.R_drewN | apply Kd.R_drew)); exact Kd.R_mono (Kd.R_far (p := ⟨gb140, 1, none⟩) (Kd.R_far (p := ⟨gb140, 0, none⟩) (Kd.R_types HO_8.out BK140.out (by decide)) (fun _ hk => hk.2) (.int .i64 ((rd_T113 y136 x50_1).f0))) (fun _ hk => hk.2) (.string ((rd_T113 y136 x50_1).f1))) (fun _ hk => trivial)⟩, ⟨by (with_reducible repeat (first | apply Kd.R_alloc | apply Kd.R_drewN | apply Kd.R_drew)); exact Kd.R_mono (Kd.R_far (p := ⟨gb140, 1, none⟩) (Kd.R_far (p := ⟨gb140, 0, none⟩) (Kd.R_mono HO_48.out (fun k_ hk => (⟨hk, hk.2⟩ : _ ∧ k_ ≠ gb140))) (fun _ hk => hk.2) (.int .i64 ((rd_T113 y136 x50_1).f0))) (fun _ hk => hk.2) (.string ((rd_T113 y136 x50_1).f1))) (fun _ hk => trivial)⟩, ⟨by repeat (first | (with_reducible first | exact HB.out | apply below_alloc | apply pw_below_drewN | apply below_drew1 | refine below_set ?_ GE140.out) | exact HB.out)⟩⟩
                            · replace c34 := Bool.eq_false_iff.mpr c34
                              subst c34
                              have H1 : (if x9_1.size + (rdOf ByteArray.empty y132 0).size ≤ 9223372036854775807 then (ephemerisref1_NumeralText.l0 k1 a1 y132 (x9_1 ++ (rdOf ByteArray.empty y132 0)) y136 (y136.length : Int) (wrap64 (x50_1 + 1))) else (none)) = some r := by rw [if_neg (show ¬ (false = true) by decide)] at H; exact H
                              clear H
                              have H := H1
                              clear H1
                              by_cases c38 : x9_1.size + (rdOf ByteArray.empty y132 0).size ≤ 9223372036854775807
                              · rw [if_pos c38] at H
                                have c38b0 := eq_true c38
                                have c38b1 : decide (x9_1.size + (rdOf ByteArray.empty y132 0).size ≤ 9223372036854775807) = true := decide_eq_true c38
                                try have c38b2 : (9223372036854775807 < x9_1.size + (rdOf ByteArray.empty y132 0).size) = False := eq_false (Nat.not_lt.2 c38)
                                have H' := Aside0.mk H
                                clear H
                                have p139 : 0 ≤ (x50_1 : Int) := of_decide_eq_true (by first | (with_reducible assumption) | assumption)
                                have q139 : x50_1 < (y136.length : Int) := of_decide_eq_true (by first | (with_reducible assumption) | assumption)
                                obtain ⟨ad139, e139, hx139_0, hx139_1⟩ := at_T113 (Kd.R_reads' HO_48.out).2.2 x50_1 p139 q139
                                cases e139
                                replace p139 := eq_true p139
                                replace q139 := eq_true q139
                                go_wp2_with (first | ((with_reducible refine gate_dst (N := 11) rfl ?_); refine box_event ?hg (N := 11) ?hd (cs := #[.int .i64 0, .string (⟨#[]⟩ : ByteArray)]) (t := 113) ?hr ?_; (case hd => rfl); (case hg => rfl); (case hr => first | (go_simp; done) | (go_simp; rfl)); intro gb140 hg w39 hbox hb; have n0_ := Aside0.mk (Kd.R_below (by (with_reducible repeat (first | apply Kd.R_alloc | apply Kd.R_drewN | apply Kd.R_drew)); exact HO_8.out) hb); have n1_ := Aside0.mk (Kd.R_below (Kd.R_elderB (by (with_reducible repeat (first | apply Kd.R_alloc | apply Kd.R_drewN | apply Kd.R_drew)); exact HO_48.out) gb140 (Nat.le_of_eq hg.symm)) hb); have n2_ := Aside0.mk (below_step (by repeat (first | (with_reducible first | exact HB.out | apply below_alloc | apply pw_below_drewN | apply below_drew1) | exact HB.out)) hb); have n3_ := Aside0.mk (hbox); have n4_ := Aside0.mk ((by rw [hg]; exact (below_size (by repeat (first | (with_reducible first | exact HB.out | apply below_alloc | apply pw_below_drewN | apply below_drew1) | exact HB.out))) : w.heap.size ≤ gb140)); have n5_ := Aside0.mk ((by rw [hg]; exact (below_size (by repeat (first | (with_reducible first | exact HB.out | apply below_alloc | apply pw_below_drewN | apply below_drew1) | exact HB.out))) : w.heap.size ≤ gb140)); clear HO_8; clear HO_48; clear HB; have HO_8 := n0_; have HO_48 := n1_; have HB := n2_; have BK140 := n3_; have GW140 := n4_; have GE140 := n5_; clear n0_ n1_ n2_ n3_ n4_ n5_; clear hb hbox hg; have hcz40_0 : w39.cell? ⟨gb140, 0, none⟩ = some (.int .i64 0) := (blk_cell BK140.out 0).trans rfl; have hcz40_1 : w39.cell? ⟨gb140, 1, none⟩ = some (.string (⟨#[]⟩ : ByteArray)) := (blk_cell BK140.out 1).trans rfl; have hfz40_0 := blk_frozen BK140.out 0; have hfz40_1 := blk_frozen BK140.out 1; obtain ⟨Ao41, co41, eo41⟩ := Kd.R_slice HO_8.out; subst eo41; have p141 : 0 ≤ (0 : Int) := (by omega); have q141 : 0 < (y132.length : Int) := of_decide_eq_true (by first | (with_reducible assumption) | assumption); obtain ⟨ad141, e141, hx141_0⟩ := Kd.at_string (Kd.R_reads' HO_8.out).2.2 0 p141 q141; cases e141; have qi141 : (0 < y132.length) = True := eq_true (by omega); (try rw [show ((0 : Int)).toNat = 0 from rfl] at hx141_0); (try rw [Addr.add_zero'] at hx141_0); have hn141_0 : ad141.block ≠ gb140 := Kd.own_blk (Kd.R_ne HO_8.out BK140.out (by decide)); have hn141_1 : ad141.block ≠ gb140 := Kd.own_blk (Kd.R_ne HO_8.out BK140.out (by decide)); replace hx141_0 := (cell_far (p := ⟨gb140, 0, none⟩) (by first | (rw [add_block]; exact hn141_0) | (show (Addr.add _ _).block ≠ _; rw [add_block]; exact hn141_0) | exact hn141_0) (.int .i64 ((rd_T113 y136 x50_1).f0))).trans hx141_0; replace hx141_0 := (cell_far (p := ⟨gb140, 1, none⟩) (by first | (rw [add_block]; exact hn141_1) | (show (Addr.add _ _).block ≠ _; rw [add_block]; exact hn141_1) | exact hn141_1) (.string ((rd_T113 y136 x50_1).f1))).trans hx141_0; (try have hy141_0 := fun (n_ : Nat) => (show ((((w39.drewN n_).setCell ⟨gb140, 0, none⟩ (.int .i64 ((rd_T113 y136 x50_1).f0))).setCell ⟨gb140, 1, none⟩ (.string ((rd_T113 y136 x50_1).f1)))).cell? _ = some _ from hx141_0)); clear hn141_0; clear hn141_1; replace p141 := eq_true p141; replace q141 := eq_true q141) | (go_at_call 52; (with_reducible refine (strings_HasSuffix.calls x9_1 (rdOf ByteArray.empty y132 0) false _ A33.out).mono ?_); rintro e w' ⟨rfl, ⟨nd, rfl⟩⟩; (try first | exact ⟨rfl, _, World.drewN_drewN _ _ _⟩ | exact ⟨rfl, _, Eq.trans (World.drewN_drewN _ _ _) (congrArg (World.drewN _) (Nat.add_assoc _ _ _))⟩); have p143 : 0 ≤ (0 : Int) := (by omega); have q143 : 0 < (y132.length : Int) := of_decide_eq_true (by first | (with_reducible assumption) | assumption); obtain ⟨ad143, e143, hx143_0⟩ := Kd.at_string (Kd.R_reads' HO_8.out).2.2 0 p143 q143; obtain rfl : ad141 = ad143 := (by injection e143); have qi143 : (0 < y132.length) = True := eq_true (by omega); (try rw [show ((0 : Int)).toNat = 0 from rfl] at hx143_0); (try rw [Addr.add_zero'] at hx143_0); have hn143_0 : ad141.block ≠ gb140 := Kd.own_blk (Kd.R_ne HO_8.out BK140.out (by decide)); have hn143_1 : ad141.block ≠ gb140 := Kd.own_blk (Kd.R_ne HO_8.out BK140.out (by decide)); replace hx143_0 := (cell_far (p := ⟨gb140, 0, none⟩) (by first | (rw [add_block]; exact hn143_0) | (show (Addr.add _ _).block ≠ _; rw [add_block]; exact hn143_0) | exact hn143_0) (.int .i64 ((rd_T113 y136 x50_1).f0))).trans hx143_0; replace hx143_0 := (cell_far (p := ⟨gb140, 1, none⟩) (by first | (rw [add_block]; exact hn143_1) | (show (Addr.add _ _).block ≠ _; rw [add_block]; exact hn143_1) | exact hn143_1) (.string ((rd_T113 y136 x50_1).f1))).trans hx143_0; (try have hy143_0 := fun (n_ : Nat) => (show ((((w39.drewN n_).setCell ⟨gb140, 0, none⟩ (.int .i64 ((rd_T113 y136 x50_1).f0))).setCell ⟨gb140, 1, none⟩ (.string ((rd_T113 y136 x50_1).f1)))).cell? _ = some _ from hx143_0)); clear hn143_0; clear hn143_1; replace p143 := eq_true p143; replace q143 := eq_true q143))
                                repeat (go_quiet (first | ((with_reducible refine gate_dst (N := 11) rfl ?_); refine box_event ?hg (N := 11) ?hd (cs := #[.int .i64 0, .string (⟨#[]⟩ : ByteArray)]) (t := 113) ?hr ?_; (case hd => rfl); (case hg => rfl); (case hr => first | (go_simp; done) | (go_simp; rfl)); intro gb140 hg w39 hbox hb; have n0_ := Aside0.mk (Kd.R_below (by (with_reducible repeat (first | apply Kd.R_alloc | apply Kd.R_drewN | apply Kd.R_drew)); exact HO_8.out) hb); have n1_ := Aside0.mk (Kd.R_below (Kd.R_elderB (by (with_reducible repeat (first | apply Kd.R_alloc | apply Kd.R_drewN | apply Kd.R_drew)); exact HO_48.out) gb140 (Nat.le_of_eq hg.symm)) hb); have n2_ := Aside0.mk (below_step (by repeat (first | (with_reducible first | exact HB.out | apply below_alloc | apply pw_below_drewN | apply below_drew1) | exact HB.out)) hb); have n3_ := Aside0.mk (hbox); have n4_ := Aside0.mk ((by rw [hg]; exact (below_size (by repeat (first | (with_reducible first | exact HB.out | apply below_alloc | apply pw_below_drewN | apply below_drew1) | exact HB.out))) : w.heap.size ≤ gb140)); have n5_ := Aside0.mk ((by rw [hg]; exact (below_size (by repeat (first | (with_reducible first | exact HB.out | apply below_alloc | apply pw_below_drewN | apply below_drew1) | exact HB.out))) : w.heap.size ≤ gb140)); clear HO_8; clear HO_48; clear HB; have HO_8 := n0_; have HO_48 := n1_; have HB := n2_; have BK140 := n3_; have GW140 := n4_; have GE140 := n5_; clear n0_ n1_ n2_ n3_ n4_ n5_; clear hb hbox hg; have hcz40_0 : w39.cell? ⟨gb140, 0, none⟩ = some (.int .i64 0) := (blk_cell BK140.out 0).trans rfl; have hcz40_1 : w39.cell? ⟨gb140, 1, none⟩ = some (.string (⟨#[]⟩ : ByteArray)) := (blk_cell BK140.out 1).trans rfl; have hfz40_0 := blk_frozen BK140.out 0; have hfz40_1 := blk_frozen BK140.out 1; obtain ⟨Ao41, co41, eo41⟩ := Kd.R_slice HO_8.out; subst eo41; have p141 : 0 ≤ (0 : Int) := (by omega); have q141 : 0 < (y132.length : Int) := of_decide_eq_true (by first | (with_reducible assumption) | assumption); obtain ⟨ad141, e141, hx141_0⟩ := Kd.at_string (Kd.R_reads' HO_8.out).2.2 0 p141 q141; cases e141; have qi141 : (0 < y132.length) = True := eq_true (by omega); (try rw [show ((0 : Int)).toNat = 0 from rfl] at hx141_0); (try rw [Addr.add_zero'] at hx141_0); have hn141_0 : ad141.block ≠ gb140 := Kd.own_blk (Kd.R_ne HO_8.out BK140.out (by decide)); have hn141_1 : ad141.block ≠ gb140 := Kd.own_blk (Kd.R_ne HO_8.out BK140.out (by decide)); replace hx141_0 := (cell_far (p := ⟨gb140, 0, none⟩) (by first | (rw [add_block]; exact hn141_0) | (show (Addr.add _ _).block ≠ _; rw [add_block]; exact hn141_0) | exact hn141_0) (.int .i64 ((rd_T113 y136 x50_1).f0))).trans hx141_0; replace hx141_0 := (cell_far (p := ⟨gb140, 1, none⟩) (by first | (rw [add_block]; exact hn141_1) | (show (Addr.add _ _).block ≠ _; rw [add_block]; exact hn141_1) | exact hn141_1) (.string ((rd_T113 y136 x50_1).f1))).trans hx141_0; (try have hy141_0 := fun (n_ : Nat) => (show ((((w39.drewN n_).setCell ⟨gb140, 0, none⟩ (.int .i64 ((rd_T113 y136 x50_1).f0))).setCell ⟨gb140, 1, none⟩ (.string ((rd_T113 y136 x50_1).f1)))).cell? _ = some _ from hx141_0)); clear hn141_0; clear hn141_1; replace p141 := eq_true p141; replace q141 := eq_true q141) | (go_at_call 52; (with_reducible refine (strings_HasSuffix.calls x9_1 (rdOf ByteArray.empty y132 0) false _ A33.out).mono ?_); rintro e w' ⟨rfl, ⟨nd, rfl⟩⟩; (try first | exact ⟨rfl, _, World.drewN_drewN _ _ _⟩ | exact ⟨rfl, _, Eq.trans (World.drewN_drewN _ _ _) (congrArg (World.drewN _) (Nat.add_assoc _ _ _))⟩); have p143 : 0 ≤ (0 : Int) := (by omega); have q143 : 0 < (y132.length : Int) := of_decide_eq_true (by first | (with_reducible assumption) | assumption); obtain ⟨ad143, e143, hx143_0⟩ := Kd.at_string (Kd.R_reads' HO_8.out).2.2 0 p143 q143; obtain rfl : ad141 = ad143 := (by injection e143); have qi143 : (0 < y132.length) = True := eq_true (by omega); (try rw [show ((0 : Int)).toNat = 0 from rfl] at hx143_0); (try rw [Addr.add_zero'] at hx143_0); have hn143_0 : ad141.block ≠ gb140 := Kd.own_blk (Kd.R_ne HO_8.out BK140.out (by decide)); have hn143_1 : ad141.block ≠ gb140 := Kd.own_blk (Kd.R_ne HO_8.out BK140.out (by decide)); replace hx143_0 := (cell_far (p := ⟨gb140, 0, none⟩) (by first | (rw [add_block]; exact hn143_0) | (show (Addr.add _ _).block ≠ _; rw [add_block]; exact hn143_0) | exact hn143_0) (.int .i64 ((rd_T113 y136 x50_1).f0))).trans hx143_0; replace hx143_0 := (cell_far (p := ⟨gb140, 1, none⟩) (by first | (rw [add_block]; exact hn143_1) | (show (Addr.add _ _).block ≠ _; rw [add_block]; exact hn143_1) | exact hn143_1) (.string ((rd_T113 y136 x50_1).f1))).trans hx143_0; (try have hy143_0 := fun (n_ : Nat) => (show ((((w39.drewN n_).setCell ⟨gb140, 0, none⟩ (.int .i64 ((rd_T113 y136 x50_1).f0))).setCell ⟨gb140, 1, none⟩ (.string ((rd_T113 y136 x50_1).f1)))).cell? _ = some _ from hx143_0)); clear hn143_0; clear hn143_1; replace p143 := eq_true p143; replace q143 := eq_true q143)); try go_wp2_with (first | ((with_reducible refine gate_dst (N := 11) rfl ?_); refine box_event ?hg (N := 11) ?hd (cs := #[.int .i64 0, .string (⟨#[]⟩ : ByteArray)]) (t := 113) ?hr ?_; (case hd => rfl); (case hg => rfl); (case hr => first | (go_simp; done) | (go_simp; rfl)); intro gb140 hg w39 hbox hb; have n0_ := Aside0.mk (Kd.R_below (by (with_reducible repeat (first | apply Kd.R_alloc | apply Kd.R_drewN | apply Kd.R_drew)); exact HO_8.out) hb); have n1_ := Aside0.mk (Kd.R_below (Kd.R_elderB (by (with_reducible repeat (first | apply Kd.R_alloc | apply Kd.R_drewN | apply Kd.R_drew)); exact HO_48.out) gb140 (Nat.le_of_eq hg.symm)) hb); have n2_ := Aside0.mk (below_step (by repeat (first | (with_reducible first | exact HB.out | apply below_alloc | apply pw_below_drewN | apply below_drew1) | exact HB.out)) hb); have n3_ := Aside0.mk (hbox); have n4_ := Aside0.mk ((by rw [hg]; exact (below_size (by repeat (first | (with_reducible first | exact HB.out | apply below_alloc | apply pw_below_drewN | apply below_drew1) | exact HB.out))) : w.heap.size ≤ gb140)); have n5_ := Aside0.mk ((by rw [hg]; exact (below_size (by repeat (first | (with_reducible first | exact HB.out | apply below_alloc | apply pw_below_drewN | apply below_drew1) | exact HB.out))) : w.heap.size ≤ gb140)); clear HO_8; clear HO_48; clear HB; have HO_8 := n0_; have HO_48 := n1_; have HB := n2_; have BK140 := n3_; have GW140 := n4_; have GE140 := n5_; clear n0_ n1_ n2_ n3_ n4_ n5_; clear hb hbox hg; have hcz40_0 : w39.cell? ⟨gb140, 0, none⟩ = some (.int .i64 0) := (blk_cell BK140.out 0).trans rfl; have hcz40_1 : w39.cell? ⟨gb140, 1, none⟩ = some (.string (⟨#[]⟩ : ByteArray)) := (blk_cell BK140.out 1).trans rfl; have hfz40_0 := blk_frozen BK140.out 0; have hfz40_1 := blk_frozen BK140.out 1; obtain ⟨Ao41, co41, eo41⟩ := Kd.R_slice HO_8.out; subst eo41; have p141 : 0 ≤ (0 : Int) := (by omega); have q141 : 0 < (y132.length : Int) := of_decide_eq_true (by first | (with_reducible assumption) | assumption); obtain ⟨ad141, e141, hx141_0⟩ := Kd.at_string (Kd.R_reads' HO_8.out).2.2 0 p141 q141; cases e141; have qi141 : (0 < y132.length) = True := eq_true (by omega); (try rw [show ((0 : Int)).toNat = 0 from rfl] at hx141_0); (try rw [Addr.add_zero'] at hx141_0); have hn141_0 : ad141.block ≠ gb140 := Kd.own_blk (Kd.R_ne HO_8.out BK140.out (by decide)); have hn141_1 : ad141.block ≠ gb140 := Kd.own_blk (Kd.R_ne HO_8.out BK140.out (by decide)); replace hx141_0 := (cell_far (p := ⟨gb140, 0, none⟩) (by first | (rw [add_block]; exact hn141_0) | (show (Addr.add _ _).block ≠ _; rw [add_block]; exact hn141_0) | exact hn141_0) (.int .i64 ((rd_T113 y136 x50_1).f0))).trans hx141_0; replace hx141_0 := (cell_far (p := ⟨gb140, 1, none⟩) (by first | (rw [add_block]; exact hn141_1) | (show (Addr.add _ _).block ≠ _; rw [add_block]; exact hn141_1) | exact hn141_1) (.string ((rd_T113 y136 x50_1).f1))).trans hx141_0; (try have hy141_0 := fun (n_ : Nat) => (show ((((w39.drewN n_).setCell ⟨gb140, 0, none⟩ (.int .i64 ((rd_T113 y136 x50_1).f0))).setCell ⟨gb140, 1, none⟩ (.string ((rd_T113 y136 x50_1).f1)))).cell? _ = some _ from hx141_0)); clear hn141_0; clear hn141_1; replace p141 := eq_true p141; replace q141 := eq_true q141) | (go_at_call 52; (with_reducible refine (strings_HasSuffix.calls x9_1 (rdOf ByteArray.empty y132 0) false _ A33.out).mono ?_); rintro e w' ⟨rfl, ⟨nd, rfl⟩⟩; (try first | exact ⟨rfl, _, World.drewN_drewN _ _ _⟩ | exact ⟨rfl, _, Eq.trans (World.drewN_drewN _ _ _) (congrArg (World.drewN _) (Nat.add_assoc _ _ _))⟩); have p143 : 0 ≤ (0 : Int) := (by omega); have q143 : 0 < (y132.length : Int) := of_decide_eq_true (by first | (with_reducible assumption) | assumption); obtain ⟨ad143, e143, hx143_0⟩ := Kd.at_string (Kd.R_reads' HO_8.out).2.2 0 p143 q143; obtain rfl : ad141 = ad143 := (by injection e143); have qi143 : (0 < y132.length) = True := eq_true (by omega); (try rw [show ((0 : Int)).toNat = 0 from rfl] at hx143_0); (try rw [Addr.add_zero'] at hx143_0); have hn143_0 : ad141.block ≠ gb140 := Kd.own_blk (Kd.R_ne HO_8.out BK140.out (by decide)); have hn143_1 : ad141.block ≠ gb140 := Kd.own_blk (Kd.R_ne HO_8.out BK140.out (by decide)); replace hx143_0 := (cell_far (p := ⟨gb140, 0, none⟩) (by first | (rw [add_block]; exact hn143_0) | (show (Addr.add _ _).block ≠ _; rw [add_block]; exact hn143_0) | exact hn143_0) (.int .i64 ((rd_T113 y136 x50_1).f0))).trans hx143_0; replace hx143_0 := (cell_far (p := ⟨gb140, 1, none⟩) (by first | (rw [add_block]; exact hn143_1) | (show (Addr.add _ _).block ≠ _; rw [add_block]; exact hn143_1) | exact hn143_1) (.string ((rd_T113 y136 x50_1).f1))).trans hx143_0; (try have hy143_0 := fun (n_ : Nat) => (show ((((w39.drewN n_).setCell ⟨gb140, 0, none⟩ (.int .i64 ((rd_T113 y136 x50_1).f0))).setCell ⟨gb140, 1, none⟩ (.string ((rd_T113 y136 x50_1).f1)))).cell? _ = some _ from hx143_0)); clear hn143_0; clear hn143_1; replace p143 := eq_true p143; replace q143 := eq_true q143)))
                                go_roundg k1
                                case measure => have := HK1.out; omega
                                case rel => exact ⟨(x9_1 ++ (rdOf ByteArray.empty y132 0)), (wrap64 (x50_1 + 1)), (by first | rfl | (simp; done) | (simp [*]; done)), (by first | rfl | (simp; done) | (simp [*]; done)), H', ⟨by have := HK1.out; omega⟩, ⟨by (with_reducible repeat (first | apply Kd.R_alloc | apply Kd.R_drewN | apply Kd.R_drew)); exact Kd.R_mono (Kd.R_far (p := ⟨gb140, 1, none⟩) (Kd.R_far (p := ⟨gb140, 0, none⟩) (Kd.R_types HO_8.out BK140.out (by decide)) (fun _ hk => hk.2) (.int .i64 ((rd_T113 y136 x50_1).f0))) (fun _ hk => hk.2) (.string ((rd_T113 y136 x50_1).f1))) (fun _ hk => trivial)⟩, ⟨by (with_reducible repeat (first | apply Kd.R_alloc | apply Kd.R_drewN | apply Kd.R_drew)); exact Kd.R_mono (Kd.R_far (p := ⟨gb140, 1, none⟩) (Kd.R_far (p := ⟨gb140, 0, none⟩) (Kd.R_mono HO_48.out (fun k_ hk => (⟨hk, hk.2⟩ : _ ∧ k_ ≠ gb140))) (fun _ hk => hk.2) (.int .i64 ((rd_T113 y136 x50_1).f0))) (fun _ hk => hk.2) (.string ((rd_T113 y136 x50_1).f1))) (fun _ hk => trivial)⟩, ⟨by repeat (first | (with_reducible first | exact HB.out | apply below_alloc | apply pw_below_drewN | apply below_drew1 | refine below_set ?_ GE140.out) | exact HB.out)⟩⟩
                              · rw [if_neg c38] at H
                                exact absurd H (by simp)
                          · rw [if_neg c32] at H
                            exact absurd H (by simp)
                    · rw [if_neg c25] at H
                      have c25b0 : ((Int.tmod (wrap64 (Int.tdiv a1 ((rd_T113 y136 x50_1).f0))) 10) == 0) = false := beq_eq_false_iff_ne.mpr c25
                      have c25b1 : ((Int.tmod (wrap64 (Int.tdiv a1 ((rd_T113 y136 x50_1).f0))) 10) != 0) = true := bne_iff_ne.mpr c25
                      obtain ⟨ji42, hji42⟩ : ∃ j_ : Int, (Int.tmod (wrap64 (Int.tdiv a1 ((rd_T113 y136 x50_1).f0))) 10) = j_ := ⟨_, rfl⟩
                      replace H : (if 0 ≤ (ji42) then (if (ji42) < (y132.length : Int) then (if (rdOf ByteArray.empty y132 (ji42)).size + ((rd_T113 y136 x50_1).f1).size ≤ 9223372036854775807 then (if x9_1.size + ((rdOf ByteArray.empty y132 (ji42)) ++ ((rd_T113 y136 x50_1).f1)).size ≤ 9223372036854775807 then (ephemerisref1_NumeralText.l0 k1 a1 y132 (x9_1 ++ ((rdOf ByteArray.empty y132 (ji42)) ++ ((rd_T113 y136 x50_1).f1))) y136 (y136.length : Int) (wrap64 (x50_1 + 1))) else (none)) else (none)) else (none)) else (none)) = some r := by first | (rw [hji42] at H; exact H) | (simp only [hji42] at H ⊢; exact H)
                      (try rw [hji42] at c25b0)
                      (try rw [hji42] at c25b1)
                      by_cases c43 : 0 ≤ (ji42)
                      · rw [if_pos c43] at H
                        have c43b0 : decide (0 ≤ (ji42)) = true := decide_eq_true c43
                        clear c43
                        by_cases c44 : (ji42) < (y132.length : Int)
                        · rw [if_pos c44] at H
                          have c44b0 : decide ((ji42) < (y132.length : Int)) = true := decide_eq_true c44
                          clear c44
                          by_cases c45 : (rdOf ByteArray.empty y132 (ji42)).size + ((rd_T113 y136 x50_1).f1).size ≤ 9223372036854775807
                          · rw [if_pos c45] at H
                            have c45b0 := eq_true c45
                            have c45b1 : decide ((rdOf ByteArray.empty y132 (ji42)).size + ((rd_T113 y136 x50_1).f1).size ≤ 9223372036854775807) = true := decide_eq_true c45
                            try have c45b2 : (9223372036854775807 < (rdOf ByteArray.empty y132 (ji42)).size + ((rd_T113 y136 x50_1).f1).size) = False := eq_false (Nat.not_lt.2 c45)
                            by_cases c46 : x9_1.size + ((rdOf ByteArray.empty y132 (ji42)) ++ ((rd_T113 y136 x50_1).f1)).size ≤ 9223372036854775807
                            · rw [if_pos c46] at H
                              have c46b0 := eq_true c46
                              have c46b1 : decide (x9_1.size + ((rdOf ByteArray.empty y132 (ji42)) ++ ((rd_T113 y136 x50_1).f1)).size ≤ 9223372036854775807) = true := decide_eq_true c46
                              try have c46b2 : (9223372036854775807 < x9_1.size + ((rdOf ByteArray.empty y132 (ji42)) ++ ((rd_T113 y136 x50_1).f1)).size) = False := eq_false (Nat.not_lt.2 c46)
                              have H' := Aside0.mk H
                              clear H
                              have p139 : 0 ≤ (x50_1 : Int) := of_decide_eq_true (by first | (with_reducible assumption) | assumption)
                              have q139 : x50_1 < (y136.length : Int) := of_decide_eq_true (by first | (with_reducible assumption) | assumption)
                              obtain ⟨ad139, e139, hx139_0, hx139_1⟩ := at_T113 (Kd.R_reads' HO_48.out).2.2 x50_1 p139 q139
                              cases e139
                              replace p139 := eq_true p139
                              replace q139 := eq_true q139
                              go_wp2_with (first | ((with_reducible refine gate_dst (N := 11) rfl ?_); refine box_event ?hg (N := 11) ?hd (cs := #[.int .i64 0, .string (⟨#[]⟩ : ByteArray)]) (t := 113) ?hr ?_; (case hd => rfl); (case hg => rfl); (case hr => first | (go_simp; done) | (go_simp; rfl)); intro gb140 hg w47 hbox hb; have n0_ := Aside0.mk (Kd.R_below (by (with_reducible repeat (first | apply Kd.R_alloc | apply Kd.R_drewN | apply Kd.R_drew)); exact HO_8.out) hb); have n1_ := Aside0.mk (Kd.R_below (Kd.R_elderB (by (with_reducible repeat (first | apply Kd.R_alloc | apply Kd.R_drewN | apply Kd.R_drew)); exact HO_48.out) gb140 (Nat.le_of_eq hg.symm)) hb); have n2_ := Aside0.mk (below_step (by repeat (first | (with_reducible first | exact HB.out | apply below_alloc | apply pw_below_drewN | apply below_drew1) | exact HB.out)) hb); have n3_ := Aside0.mk (hbox); have n4_ := Aside0.mk ((by rw [hg]; exact (below_size (by repeat (first | (with_reducible first | exact HB.out | apply below_alloc | apply pw_below_drewN | apply below_drew1) | exact HB.out))) : w.heap.size ≤ gb140)); have n5_ := Aside0.mk ((by rw [hg]; exact (below_size (by repeat (first | (with_reducible first | exact HB.out | apply below_alloc | apply pw_below_drewN | apply below_drew1) | exact HB.out))) : w.heap.size ≤ gb140)); clear HO_8; clear HO_48; clear HB; have HO_8 := n0_; have HO_48 := n1_; have HB := n2_; have BK140 := n3_; have GW140 := n4_; have GE140 := n5_; clear n0_ n1_ n2_ n3_ n4_ n5_; clear hb hbox hg; have hcz48_0 : w47.cell? ⟨gb140, 0, none⟩ = some (.int .i64 0) := (blk_cell BK140.out 0).trans rfl; have hcz48_1 : w47.cell? ⟨gb140, 1, none⟩ = some (.string (⟨#[]⟩ : ByteArray)) := (blk_cell BK140.out 1).trans rfl; have hfz48_0 := blk_frozen BK140.out 0; have hfz48_1 := blk_frozen BK140.out 1; obtain ⟨Ao49, co49, eo49⟩ := Kd.R_slice HO_8.out; subst eo49; have p144 : 0 ≤ ((ji42) : Int) := of_decide_eq_true (by first | (with_reducible assumption) | assumption); have q144 : (ji42) < (y132.length : Int) := of_decide_eq_true (by first | (with_reducible assumption) | assumption); obtain ⟨ad144, e144, hx144_0⟩ := Kd.at_string (Kd.R_reads' HO_8.out).2.2 (ji42) p144 q144; cases e144; have hn144_0 : ad144.block ≠ gb140 := Kd.own_blk (Kd.R_ne HO_8.out BK140.out (by decide)); have hn144_1 : ad144.block ≠ gb140 := Kd.own_blk (Kd.R_ne HO_8.out BK140.out (by decide)); replace hx144_0 := (cell_far (p := ⟨gb140, 0, none⟩) (by first | (rw [add_block]; exact hn144_0) | (show (Addr.add _ _).block ≠ _; rw [add_block]; exact hn144_0) | exact hn144_0) (.int .i64 ((rd_T113 y136 x50_1).f0))).trans hx144_0; replace hx144_0 := (cell_far (p := ⟨gb140, 1, none⟩) (by first | (rw [add_block]; exact hn144_1) | (show (Addr.add _ _).block ≠ _; rw [add_block]; exact hn144_1) | exact hn144_1) (.string ((rd_T113 y136 x50_1).f1))).trans hx144_0; (try have hy144_0 := fun (n_ : Nat) => (show ((((w47.drewN n_).setCell ⟨gb140, 0, none⟩ (.int .i64 ((rd_T113 y136 x50_1).f0))).setCell ⟨gb140, 1, none⟩ (.string ((rd_T113 y136 x50_1).f1)))).cell? _ = some _ from hx144_0)); clear hn144_0; clear hn144_1; replace p144 := eq_true p144; replace q144 := eq_true q144))
                              repeat (go_quiet (first | ((with_reducible refine gate_dst (N := 11) rfl ?_); refine box_event ?hg (N := 11) ?hd (cs := #[.int .i64 0, .string (⟨#[]⟩ : ByteArray)]) (t := 113) ?hr ?_; (case hd => rfl); (case hg => rfl); (case hr => first | (go_simp; done) | (go_simp; rfl)); intro gb140 hg w47 hbox hb; have n0_ := Aside0.mk (Kd.R_below (by (with_reducible repeat (first | apply Kd.R_alloc | apply Kd.R_drewN | apply Kd.R_drew)); exact HO_8.out) hb); have n1_ := Aside0.mk (Kd.R_below (Kd.R_elderB (by (with_reducible repeat (first | apply Kd.R_alloc | apply Kd.R_drewN | apply Kd.R_drew)); exact HO_48.out) gb140 (Nat.le_of_eq hg.symm)) hb); have n2_ := Aside0.mk (below_step (by repeat (first | (with_reducible first | exact HB.out | apply below_alloc | apply pw_below_drewN | apply below_drew1) | exact HB.out)) hb); have n3_ := Aside0.mk (hbox); have n4_ := Aside0.mk ((by rw [hg]; exact (below_size (by repeat (first | (with_reducible first | exact HB.out | apply below_alloc | apply pw_below_drewN | apply below_drew1) | exact HB.out))) : w.heap.size ≤ gb140)); have n5_ := Aside0.mk ((by rw [hg]; exact (below_size (by repeat (first | (with_reducible first | exact HB.out | apply below_alloc | apply pw_below_drewN | apply below_drew1) | exact HB.out))) : w.heap.size ≤ gb140)); clear HO_8; clear HO_48; clear HB; have HO_8 := n0_; have HO_48 := n1_; have HB := n2_; have BK140 := n3_; have GW140 := n4_; have GE140 := n5_; clear n0_ n1_ n2_ n3_ n4_ n5_; clear hb hbox hg; have hcz48_0 : w47.cell? ⟨gb140, 0, none⟩ = some (.int .i64 0) := (blk_cell BK140.out 0).trans rfl; have hcz48_1 : w47.cell? ⟨gb140, 1, none⟩ = some (.string (⟨#[]⟩ : ByteArray)) := (blk_cell BK140.out 1).trans rfl; have hfz48_0 := blk_frozen BK140.out 0; have hfz48_1 := blk_frozen BK140.out 1; obtain ⟨Ao49, co49, eo49⟩ := Kd.R_slice HO_8.out; subst eo49; have p144 : 0 ≤ ((ji42) : Int) := of_decide_eq_true (by first | (with_reducible assumption) | assumption); have q144 : (ji42) < (y132.length : Int) := of_decide_eq_true (by first | (with_reducible assumption) | assumption); obtain ⟨ad144, e144, hx144_0⟩ := Kd.at_string (Kd.R_reads' HO_8.out).2.2 (ji42) p144 q144; cases e144; have hn144_0 : ad144.block ≠ gb140 := Kd.own_blk (Kd.R_ne HO_8.out BK140.out (by decide)); have hn144_1 : ad144.block ≠ gb140 := Kd.own_blk (Kd.R_ne HO_8.out BK140.out (by decide)); replace hx144_0 := (cell_far (p := ⟨gb140, 0, none⟩) (by first | (rw [add_block]; exact hn144_0) | (show (Addr.add _ _).block ≠ _; rw [add_block]; exact hn144_0) | exact hn144_0) (.int .i64 ((rd_T113 y136 x50_1).f0))).trans hx144_0; replace hx144_0 := (cell_far (p := ⟨gb140, 1, none⟩) (by first | (rw [add_block]; exact hn144_1) | (show (Addr.add _ _).block ≠ _; rw [add_block]; exact hn144_1) | exact hn144_1) (.string ((rd_T113 y136 x50_1).f1))).trans hx144_0; (try have hy144_0 := fun (n_ : Nat) => (show ((((w47.drewN n_).setCell ⟨gb140, 0, none⟩ (.int .i64 ((rd_T113 y136 x50_1).f0))).setCell ⟨gb140, 1, none⟩ (.string ((rd_T113 y136 x50_1).f1)))).cell? _ = some _ from hx144_0)); clear hn144_0; clear hn144_1; replace p144 := eq_true p144; replace q144 := eq_true q144)); try go_wp2_with (first | ((with_reducible refine gate_dst (N := 11) rfl ?_); refine box_event ?hg (N := 11) ?hd (cs := #[.int .i64 0, .string (⟨#[]⟩ : ByteArray)]) (t := 113) ?hr ?_; (case hd => rfl); (case hg => rfl); (case hr => first | (go_simp; done) | (go_simp; rfl)); intro gb140 hg w47 hbox hb; have n0_ := Aside0.mk (Kd.R_below (by (with_reducible repeat (first | apply Kd.R_alloc | apply Kd.R_drewN | apply Kd.R_drew)); exact HO_8.out) hb); have n1_ := Aside0.mk (Kd.R_below (Kd.R_elderB (by (with_reducible repeat (first | apply Kd.R_alloc | apply Kd.R_drewN | apply Kd.R_drew)); exact HO_48.out) gb140 (Nat.le_of_eq hg.symm)) hb); have n2_ := Aside0.mk (below_step (by repeat (first | (with_reducible first | exact HB.out | apply below_alloc | apply pw_below_drewN | apply below_drew1) | exact HB.out)) hb); have n3_ := Aside0.mk (hbox); have n4_ := Aside0.mk ((by rw [hg]; exact (below_size (by repeat (first | (with_reducible first | exact HB.out | apply below_alloc | apply pw_below_drewN | apply below_drew1) | exact HB.out))) : w.heap.size ≤ gb140)); have n5_ := Aside0.mk ((by rw [hg]; exact (below_size (by repeat (first | (with_reducible first | exact HB.out | apply below_alloc | apply pw_below_drewN | apply below_drew1) | exact HB.out))) : w.heap.size ≤ gb140)); clear HO_8; clear HO_48; clear HB; have HO_8 := n0_; have HO_48 := n1_; have HB := n2_; have BK140 := n3_; have GW140 := n4_; have GE140 := n5_; clear n0_ n1_ n2_ n3_ n4_ n5_; clear hb hbox hg; have hcz48_0 : w47.cell? ⟨gb140, 0, none⟩ = some (.int .i64 0) := (blk_cell BK140.out 0).trans rfl; have hcz48_1 : w47.cell? ⟨gb140, 1, none⟩ = some (.string (⟨#[]⟩ : ByteArray)) := (blk_cell BK140.out 1).trans rfl; have hfz48_0 := blk_frozen BK140.out 0; have hfz48_1 := blk_frozen BK140.out 1; obtain ⟨Ao49, co49, eo49⟩ := Kd.R_slice HO_8.out; subst eo49; have p144 : 0 ≤ ((ji42) : Int) := of_decide_eq_true (by first | (with_reducible assumption) | assumption); have q144 : (ji42) < (y132.length : Int) := of_decide_eq_true (by first | (with_reducible assumption) | assumption); obtain ⟨ad144, e144, hx144_0⟩ := Kd.at_string (Kd.R_reads' HO_8.out).2.2 (ji42) p144 q144; cases e144; have hn144_0 : ad144.block ≠ gb140 := Kd.own_blk (Kd.R_ne HO_8.out BK140.out (by decide)); have hn144_1 : ad144.block ≠ gb140 := Kd.own_blk (Kd.R_ne HO_8.out BK140.out (by decide)); replace hx144_0 := (cell_far (p := ⟨gb140, 0, none⟩) (by first | (rw [add_block]; exact hn144_0) | (show (Addr.add _ _).block ≠ _; rw [add_block]; exact hn144_0) | exact hn144_0) (.int .i64 ((rd_T113 y136 x50_1).f0))).trans hx144_0; replace hx144_0 := (cell_far (p := ⟨gb140, 1, none⟩) (by first | (rw [add_block]; exact hn144_1) | (show (Addr.add _ _).block ≠ _; rw [add_block]; exact hn144_1) | exact hn144_1) (.string ((rd_T113 y136 x50_1).f1))).trans hx144_0; (try have hy144_0 := fun (n_ : Nat) => (show ((((w47.drewN n_).setCell ⟨gb140, 0, none⟩ (.int .i64 ((rd_T113 y136 x50_1).f0))).setCell ⟨gb140, 1, none⟩ (.string ((rd_T113 y136 x50_1).f1)))).cell? _ = some _ from hx144_0)); clear hn144_0; clear hn144_1; replace p144 := eq_true p144; replace q144 := eq_true q144)))
                              go_roundg k1
                              case measure => have := HK1.out; omega
                              case rel => exact ⟨(x9_1 ++ ((rdOf ByteArray.empty y132 (ji42)) ++ ((rd_T113 y136 x50_1).f1))), (wrap64 (x50_1 + 1)), (by first | rfl | (simp; done) | (simp only [← hji42] <;> (first | rfl | simp)) | (simp [*]; done)), (by first | rfl | (simp; done) | (simp [*]; done)), H', ⟨by have := HK1.out; omega⟩, ⟨by (with_reducible repeat (first | apply Kd.R_alloc | apply Kd.R_drewN | apply Kd.R_drew)); exact Kd.R_mono (Kd.R_far (p := ⟨gb140, 1, none⟩) (Kd.R_far (p := ⟨gb140, 0, none⟩) (Kd.R_types HO_8.out BK140.out (by decide)) (fun _ hk => hk.2) (.int .i64 ((rd_T113 y136 x50_1).f0))) (fun _ hk => hk.2) (.string ((rd_T113 y136 x50_1).f1))) (fun _ hk => trivial)⟩, ⟨by (with_reducible repeat (first | apply Kd.R_alloc | apply Kd.R_drewN | apply Kd.R_drew)); exact Kd.R_mono (Kd.R_far (p := ⟨gb140, 1, none⟩) (Kd.R_far (p := ⟨gb140, 0, none⟩) (Kd.R_mono HO_48.out (fun k_ hk => (⟨hk, hk.2⟩ : _ ∧ k_ ≠ gb140))) (fun _ hk => hk.2) (.int .i64 ((rd_T113 y136 x50_1).f0))) (fun _ hk => hk.2) (.string ((rd_T113 y136 x50_1).f1))) (fun _ hk => trivial)⟩, ⟨by repeat (first | (with_reducible first | exact HB.out | apply below_alloc | apply pw_below_drewN | apply below_drew1 | refine below_set ?_ GE140.out) | exact HB.out)⟩⟩
                            · rw [if_neg c46] at H
                              exact absurd H (by simp)
                          · rw [if_neg c45] at H
                            exact absurd H (by simp)
                        · rw [if_neg c44] at H
                          exact absurd H (by simp)
                      · rw [if_neg c43] at H
                        exact absurd H (by simp)
                · rw [if_neg c23] at H
                  exact absurd H (by simp)
              · rw [if_neg c22] at H
                exact absurd H (by simp)
            · rw [if_neg c21] at H
              have c21b0 : decide (x50_1 < (y136.length : Int)) = false := decide_eq_false c21
              clear c21
              obtain rfl := Option.some.inj H
              go_wp2
              repeat (go_quiet (fail); try go_wp2)
              go_ret
              exact ⟨by first | rfl | (simp [errW_none, errW_some] <;> rfl) | (simp [*, errW_none, errW_some] <;> rfl), by repeat (first | (with_reducible first | exact HB.out | apply below_alloc | apply pw_below_drewN | apply below_drew1) | exact HB.out)⟩
    · rw [if_neg c10] at H
      have c10b0 : (a0 == 12) = false := beq_eq_false_iff_ne.mpr c10
      have c10b1 : (a0 != 12) = true := bne_iff_ne.mpr c10
      replace H := Option.bind_eq_some_iff.mp H
      obtain ⟨t145, A500, H⟩ := H
      replace H : (ephemerisref1_NumeralText.l1 k a0 a1 (⟨#[]⟩ : ByteArray) t145 (t145.length : Int) 0) = some r := H
      have A50 := Aside0.mk A500
      clear A500
      have H' := Aside0.mk H
      clear H
      go_enter Tryd.func19, Tryd.ntmps19
      go_wp2_with (first | (go_at_call 53; (with_reducible refine (ephemerisref1_list.calls a0 t145 _ A50.out).mono ?_); rintro e w51 ⟨v146, rfl, ho0, hb⟩; have n0_ := Aside0.mk (Kd.R_lower ho0 (below_size (by repeat (first | (with_reducible first | exact HB.out | apply below_alloc | apply pw_below_drewN | apply below_drew1) | exact HB.out)))); have n1_ := Aside0.mk (below_step (by repeat (first | (with_reducible first | exact HB.out | apply below_alloc | apply pw_below_drewN | apply below_drew1) | exact HB.out)) hb); clear HB; have HO147 := n0_; have HB := n1_; clear n0_ n1_; (try clear hb); (try clear hb2); (try clear hk); (try clear hi); (try clear ho0); obtain ⟨Ao52, co52, eo52⟩ := Kd.R_slice HO147.out; subst eo52))
      repeat (go_quiet (first | (go_at_call 53; (with_reducible refine (ephemerisref1_list.calls a0 t145 _ A50.out).mono ?_); rintro e w51 ⟨v146, rfl, ho0, hb⟩; have n0_ := Aside0.mk (Kd.R_lower ho0 (below_size (by repeat (first | (with_reducible first | exact HB.out | apply below_alloc | apply pw_below_drewN | apply below_drew1) | exact HB.out)))); have n1_ := Aside0.mk (below_step (by repeat (first | (with_reducible first | exact HB.out | apply below_alloc | apply pw_below_drewN | apply below_drew1) | exact HB.out)) hb); clear HB; have HO147 := n0_; have HB := n1_; clear n0_ n1_; (try clear hb); (try clear hb2); (try clear hk); (try clear hi); (try clear ho0); obtain ⟨Ao52, co52, eo52⟩ := Kd.R_slice HO147.out; subst eo52)); try go_wp2_with (first | (go_at_call 53; (with_reducible refine (ephemerisref1_list.calls a0 t145 _ A50.out).mono ?_); rintro e w51 ⟨v146, rfl, ho0, hb⟩; have n0_ := Aside0.mk (Kd.R_lower ho0 (below_size (by repeat (first | (with_reducible first | exact HB.out | apply below_alloc | apply pw_below_drewN | apply below_drew1) | exact HB.out)))); have n1_ := Aside0.mk (below_step (by repeat (first | (with_reducible first | exact HB.out | apply below_alloc | apply pw_below_drewN | apply below_drew1) | exact HB.out)) hb); clear HB; have HO147 := n0_; have HB := n1_; clear n0_ n1_; (try clear hb); (try clear hb2); (try clear hk); (try clear hi); (try clear ho0); obtain ⟨Ao52, co52, eo52⟩ := Kd.R_slice HO147.out; subst eo52)))
      go_loopg [1, 13, 97] k (fun kq v1 v13 v97 w' => ∃ (x1_1 : Int) (x13_1 : ByteArray) (x97_1 : Int), v1 = .int .i64 x1_1 ∧ v13 = .string x13_1 ∧ v97 = .int .i64 x97_1 ∧ Aside0 (ephemerisref1_NumeralText.l1 kq a0 x1_1 x13_1 t145 (t145.length : Int) x97_1 = some r) ∧ Aside0 (kq ≤ k) ∧ Aside0 (Kd.R k113 113 w' w.heap.size (fun _ => True) (.slice Ao52 t145.length co52) t145) ∧ Aside0 (Below w.heap.size w w'))
      case atStart => exact ⟨(a1), ((⟨#[]⟩ : ByteArray)), (0), (by first | rfl | (simp; done) | (simp [*]; done)), (by first | rfl | (simp; done) | (simp [*]; done)), (by first | rfl | (simp; done) | (simp [*]; done)), H', ⟨Nat.le_refl _⟩, ⟨by (with_reducible repeat (first | apply Kd.R_alloc | apply Kd.R_drewN | apply Kd.R_drew)); exact HO147.out⟩, ⟨by repeat (first | (with_reducible first | exact HB.out | apply below_alloc | apply pw_below_drewN | apply below_drew1) | exact HB.out)⟩⟩
      case round =>
        clear H'
        try clear c1
        try clear p1
        try clear q1
        try clear hx1
        try clear qi1
        try clear c2
        try clear p2
        try clear c3
        try clear c3b0
        try clear c4
        try clear p6
        try clear c10
        try clear c10b0
        try clear c10b1
        try clear c11
        try clear c11b0
        try clear c11b1
        try clear c12
        try clear c12b0
        try clear c12b1
        try clear p13
        try clear q13
        try clear hx13
        try clear qi13
        try clear p14
        try clear q14
        try clear hx14
        try clear qi14
        try clear c19
        try clear c21
        try clear c21b0
        try clear c22
        try clear c22b0
        try clear c23
        try clear c23b0
        try clear c24
        try clear c24b0
        try clear c24b1
        try clear c25
        try clear c25b0
        try clear c25b1
        try clear c26
        try clear c26b0
        try clear c26b1
        try clear c29
        try clear c29b0
        try clear c29b1
        try clear c32
        try clear c32b0
        try clear c32b1
        try clear c34
        try clear c38
        try clear c38b0
        try clear c38b1
        try clear c38b2
        try clear c43
        try clear c43b0
        try clear c44
        try clear c44b0
        try clear c45
        try clear c45b0
        try clear c45b1
        try clear c45b2
        try clear c46
        try clear c46b0
        try clear c46b1
        try clear c46b2
        try clear hcz28_0
        try clear hcz28_1
        try clear hcz31_0
        try clear hcz31_1
        try clear hcz36_0
        try clear hcz36_1
        try clear hcz40_0
        try clear hcz40_1
        try clear hcz48_0
        try clear hcz48_1
        try clear hfz28_0
        try clear hfz28_1
        try clear hfz31_0
        try clear hfz31_1
        try clear hfz36_0
        try clear hfz36_1
        try clear hfz40_0
        try clear hfz40_1
        try clear hfz48_0
        try clear hfz48_1
        try clear hx135_0
        try clear hx139_0
        try clear hx139_1
        try clear hx141_0
        try clear hx143_0
        try clear hx144_0
        try clear p1
        try clear p13
        try clear p135
        try clear p139
        try clear p141
        try clear p143
        try clear p144
        try clear p2
        try clear q1
        try clear q13
        try clear q135
        try clear q139
        try clear q141
        try clear q143
        try clear q144
        obtain ⟨x1_1, x13_1, x97_1, rfl, rfl, rfl, HA, HK1, HO_95, HB⟩ := hrel
        cases gk with
        | zero => exact absurd HA.out (by simp [ephemerisref1_NumeralText.l1])
        | succ k1 =>
          have H := HA.out
          clear HA
          simp only [ephemerisref1_NumeralText.l1] at H
          by_cases c53 : x97_1 < (t145.length : Int)
          · rw [if_pos c53] at H
            have c53b0 : decide (x97_1 < (t145.length : Int)) = true := decide_eq_true c53
            clear c53
            by_cases c54 : 0 ≤ x97_1
            · rw [if_pos c54] at H
              have c54b0 : decide (0 ≤ x97_1) = true := decide_eq_true c54
              clear c54
              by_cases c55 : x97_1 < (t145.length : Int)
              · rw [if_pos c55] at H
                have c55b0 : decide (x97_1 < (t145.length : Int)) = true := decide_eq_true c55
                clear c55
                have H' := Aside0.mk H
                clear H
                have p148 : 0 ≤ (x97_1 : Int) := of_decide_eq_true (by first | (with_reducible assumption) | assumption)
                have q148 : x97_1 < (t145.length : Int) := of_decide_eq_true (by first | (with_reducible assumption) | assumption)
                obtain ⟨ad148, e148, hx148_0, hx148_1⟩ := at_T113 (Kd.R_reads' HO_95.out).2.2 x97_1 p148 q148
                cases e148
                replace p148 := eq_true p148
                replace q148 := eq_true q148
                go_wp2_with (first | ((with_reducible refine gate_dst (N := 15) rfl ?_); refine box_event ?hg (N := 15) ?hd (cs := #[.int .i64 0, .string (⟨#[]⟩ : ByteArray)]) (t := 113) ?hr ?_; (case hd => rfl); (case hg => rfl); (case hr => first | (go_simp; done) | (go_simp; rfl)); intro gb149 hg w56 hbox hb; have n0_ := Aside0.mk (Kd.R_below (Kd.R_elderB (by (with_reducible repeat (first | apply Kd.R_alloc | apply Kd.R_drewN | apply Kd.R_drew)); exact HO_95.out) gb149 (Nat.le_of_eq hg.symm)) hb); have n1_ := Aside0.mk (below_step (by repeat (first | (with_reducible first | exact HB.out | apply below_alloc | apply pw_below_drewN | apply below_drew1) | exact HB.out)) hb); have n2_ := Aside0.mk (hbox); have n3_ := Aside0.mk ((by rw [hg]; exact (below_size (by repeat (first | (with_reducible first | exact HB.out | apply below_alloc | apply pw_below_drewN | apply below_drew1) | exact HB.out))) : w.heap.size ≤ gb149)); have n4_ := Aside0.mk ((by rw [hg]; exact (below_size (by repeat (first | (with_reducible first | exact HB.out | apply below_alloc | apply pw_below_drewN | apply below_drew1) | exact HB.out))) : w.heap.size ≤ gb149)); clear HO_95; clear HB; have HO_95 := n0_; have HB := n1_; have BK149 := n2_; have GW149 := n3_; have GE149 := n4_; clear n0_ n1_ n2_ n3_ n4_; clear hb hbox hg; have hcz57_0 : w56.cell? ⟨gb149, 0, none⟩ = some (.int .i64 0) := (blk_cell BK149.out 0).trans rfl; have hcz57_1 : w56.cell? ⟨gb149, 1, none⟩ = some (.string (⟨#[]⟩ : ByteArray)) := (blk_cell BK149.out 1).trans rfl; have hfz57_0 := blk_frozen BK149.out 0; have hfz57_1 := blk_frozen BK149.out 1))
                repeat (go_quiet (first | ((with_reducible refine gate_dst (N := 15) rfl ?_); refine box_event ?hg (N := 15) ?hd (cs := #[.int .i64 0, .string (⟨#[]⟩ : ByteArray)]) (t := 113) ?hr ?_; (case hd => rfl); (case hg => rfl); (case hr => first | (go_simp; done) | (go_simp; rfl)); intro gb149 hg w56 hbox hb; have n0_ := Aside0.mk (Kd.R_below (Kd.R_elderB (by (with_reducible repeat (first | apply Kd.R_alloc | apply Kd.R_drewN | apply Kd.R_drew)); exact HO_95.out) gb149 (Nat.le_of_eq hg.symm)) hb); have n1_ := Aside0.mk (below_step (by repeat (first | (with_reducible first | exact HB.out | apply below_alloc | apply pw_below_drewN | apply below_drew1) | exact HB.out)) hb); have n2_ := Aside0.mk (hbox); have n3_ := Aside0.mk ((by rw [hg]; exact (below_size (by repeat (first | (with_reducible first | exact HB.out | apply below_alloc | apply pw_below_drewN | apply below_drew1) | exact HB.out))) : w.heap.size ≤ gb149)); have n4_ := Aside0.mk ((by rw [hg]; exact (below_size (by repeat (first | (with_reducible first | exact HB.out | apply below_alloc | apply pw_below_drewN | apply below_drew1) | exact HB.out))) : w.heap.size ≤ gb149)); clear HO_95; clear HB; have HO_95 := n0_; have HB := n1_; have BK149 := n2_; have GW149 := n3_; have GE149 := n4_; clear n0_ n1_ n2_ n3_ n4_; clear hb hbox hg; have hcz57_0 : w56.cell? ⟨gb149, 0, none⟩ = some (.int .i64 0) := (blk_cell BK149.out 0).trans rfl; have hcz57_1 : w56.cell? ⟨gb149, 1, none⟩ = some (.string (⟨#[]⟩ : ByteArray)) := (blk_cell BK149.out 1).trans rfl; have hfz57_0 := blk_frozen BK149.out 0; have hfz57_1 := blk_frozen BK149.out 1)); try go_wp2_with (first | ((with_reducible refine gate_dst (N := 15) rfl ?_); refine box_event ?hg (N := 15) ?hd (cs := #[.int .i64 0, .string (⟨#[]⟩ : ByteArray)]) (t := 113) ?hr ?_; (case hd => rfl); (case hg => rfl); (case hr => first | (go_simp; done) | (go_simp; rfl)); intro gb149 hg w56 hbox hb; have n0_ := Aside0.mk (Kd.R_below (Kd.R_elderB (by (with_reducible repeat (first | apply Kd.R_alloc | apply Kd.R_drewN | apply Kd.R_drew)); exact HO_95.out) gb149 (Nat.le_of_eq hg.symm)) hb); have n1_ := Aside0.mk (below_step (by repeat (first | (with_reducible first | exact HB.out | apply below_alloc | apply pw_below_drewN | apply below_drew1) | exact HB.out)) hb); have n2_ := Aside0.mk (hbox); have n3_ := Aside0.mk ((by rw [hg]; exact (below_size (by repeat (first | (with_reducible first | exact HB.out | apply below_alloc | apply pw_below_drewN | apply below_drew1) | exact HB.out))) : w.heap.size ≤ gb149)); have n4_ := Aside0.mk ((by rw [hg]; exact (below_size (by repeat (first | (with_reducible first | exact HB.out | apply below_alloc | apply pw_below_drewN | apply below_drew1) | exact HB.out))) : w.heap.size ≤ gb149)); clear HO_95; clear HB; have HO_95 := n0_; have HB := n1_; have BK149 := n2_; have GW149 := n3_; have GE149 := n4_; clear n0_ n1_ n2_ n3_ n4_; clear hb hbox hg; have hcz57_0 : w56.cell? ⟨gb149, 0, none⟩ = some (.int .i64 0) := (blk_cell BK149.out 0).trans rfl; have hcz57_1 : w56.cell? ⟨gb149, 1, none⟩ = some (.string (⟨#[]⟩ : ByteArray)) := (blk_cell BK149.out 1).trans rfl; have hfz57_0 := blk_frozen BK149.out 0; have hfz57_1 := blk_frozen BK149.out 1)))
                go_loopg [1, 13] k1 (fun kq v1 v13 w' => ∃ (x1_2 : Int) (x13_2 : ByteArray), v1 = .int .i64 x1_2 ∧ v13 = .string x13_2 ∧ Aside0 (ephemerisref1_NumeralText.l2 kq a0 x1_2 x13_2 t145 (t145.length : Int) x97_1 ((rd_T113 t145 x97_1).f0) ((rd_T113 t145 x97_1).f1) = some r) ∧ Aside0 (kq ≤ k1) ∧ Aside0 (Kd.R k113 113 w' w.heap.size (fun k_ => k_ ≠ gb149) (.slice (some ad148) t145.length co52) t145) ∧ Aside0 (w'.heap[gb149]? = some (.cells #[.int .i64 ((rd_T113 t145 x97_1).f0), .string ((rd_T113 t145 x97_1).f1)] 113 (0, 0))) ∧ Aside0 (Below w.heap.size w w'))
                case atStart => exact ⟨(x1_1), (x13_1), (by first | rfl | (simp; done) | (simp [*]; done)), (by first | rfl | (simp; done) | (simp [*]; done)), H', ⟨Nat.le_refl _⟩, ⟨by (with_reducible repeat (first | apply Kd.R_alloc | apply Kd.R_drewN | apply Kd.R_drew)); exact Kd.R_mono (Kd.R_far (p := ⟨gb149, 1, none⟩) (Kd.R_far (p := ⟨gb149, 0, none⟩) (Kd.R_mono HO_95.out (fun k_ hk => (⟨hk, hk.2⟩ : _ ∧ k_ ≠ gb149))) (fun _ hk => hk.2) (.int .i64 ((rd_T113 t145 x97_1).f0))) (fun _ hk => hk.2) (.string ((rd_T113 t145 x97_1).f1))) (fun _ hk => hk.1.2)⟩, ⟨by (with_reducible repeat (first | refine blk_drewN ?_ _ | refine blk_drew ?_ | refine blk_alloc ?_ _)); refine blk_put (cs := #[.int .i64 ((rd_T113 t145 x97_1).f0), .string (⟨#[]⟩ : ByteArray)]) ?_ 1 _ rfl; (with_reducible repeat (first | refine blk_drewN ?_ _ | refine blk_drew ?_ | refine blk_alloc ?_ _)); refine blk_put (cs := #[.int .i64 0, .string (⟨#[]⟩ : ByteArray)]) ?_ 0 _ rfl; (with_reducible repeat (first | refine blk_drewN ?_ _ | refine blk_drew ?_ | refine blk_alloc ?_ _)); exact BK149.out⟩, ⟨by repeat (first | (with_reducible first | exact HB.out | apply below_alloc | apply pw_below_drewN | apply below_drew1 | refine below_set ?_ GE149.out) | exact HB.out)⟩⟩
                case round =>
                  clear H'
                  try clear c1
                  try clear p1
                  try clear q1
                  try clear hx1
                  try clear qi1
                  try clear c2
                  try clear p2
                  try clear c3
                  try clear c3b0
                  try clear c4
                  try clear c5
                  try clear p6
                  try clear c10
                  try clear c10b0
                  try clear c10b1
                  try clear c11
                  try clear c11b0
                  try clear c11b1
                  try clear c12
                  try clear c12b0
                  try clear c12b1
                  try clear p13
                  try clear q13
                  try clear hx13
                  try clear qi13
                  try clear p14
                  try clear q14
                  try clear hx14
                  try clear qi14
                  try clear c19
                  try clear c21
                  try clear c21b0
                  try clear c22
                  try clear c22b0
                  try clear c23
                  try clear c23b0
                  try clear c24
                  try clear c24b0
                  try clear c24b1
                  try clear c25
                  try clear c25b0
                  try clear c25b1
                  try clear c26
                  try clear c26b0
                  try clear c26b1
                  try clear c29
                  try clear c29b0
                  try clear c29b1
                  try clear c32
                  try clear c32b0
                  try clear c32b1
                  try clear c34
                  try clear c38
                  try clear c38b0
                  try clear c38b1
                  try clear c38b2
                  try clear c43
                  try clear c43b0
                  try clear c44
                  try clear c44b0
                  try clear c45
                  try clear c45b0
                  try clear c45b1
                  try clear c45b2
                  try clear c46
                  try clear c46b0
                  try clear c46b1
                  try clear c46b2
                  try clear c53
                  try clear c53b0
                  try clear c54
                  try clear c54b0
                  try clear c55
                  try clear c55b0
                  try clear hcz28_0
                  try clear hcz28_1
                  try clear hcz31_0
                  try clear hcz31_1
                  try clear hcz36_0
                  try clear hcz36_1
                  try clear hcz40_0
                  try clear hcz40_1
                  try clear hcz48_0
                  try clear hcz48_1
                  try clear hcz57_0
                  try clear hcz57_1
                  try clear hfz28_0
                  try clear hfz28_1
                  try clear hfz31_0
                  try clear hfz31_1
                  try clear hfz36_0
                  try clear hfz36_1
                  try clear hfz40_0
                  try clear hfz40_1
                  try clear hfz48_0
                  try clear hfz48_1
                  try clear hfz57_0
                  try clear hfz57_1
                  try clear hx135_0
                  try clear hx139_0
                  try clear hx139_1
                  try clear hx141_0
                  try clear hx143_0
                  try clear hx144_0
                  try clear hx148_0
                  try clear hx148_1
                  try clear p1
                  try clear p13
                  try clear p135
                  try clear p139
                  try clear p14
                  try clear p141
                  try clear p143
                  try clear p144
                  try clear p148
                  try clear p2
                  try clear p6
                  try clear q1
                  try clear q13
                  try clear q135
                  try clear q139
                  try clear q14
                  try clear q141
                  try clear q143
                  try clear q144
                  try clear q148
                  obtain ⟨x1_2, x13_2, rfl, rfl, HA, HK2, HO_95, BK149, HB⟩ := hrel
                  cases gk with
                  | zero => exact absurd HA.out (by simp [ephemerisref1_NumeralText.l2])
                  | succ k2 =>
                    have H := HA.out
                    clear HA
                    simp only [ephemerisref1_NumeralText.l2] at H
                    by_cases c58 : x1_2 ≥ ((rd_T113 t145 x97_1).f0)
                    · rw [if_pos c58] at H
                      have c58b0 : decide (((rd_T113 t145 x97_1).f0) ≤ x1_2) = true := decide_eq_true c58
                      clear c58
                      by_cases c59 : a0 = 11
                      · rw [if_pos c59] at H
                        have c59b0 : (a0 == 11) = true := beq_iff_eq.mpr c59
                        have c59b1 : (a0 != 11) = false := bne_eq_false_iff_eq.mpr c59
                        clear c59
                        by_cases c60 : ((rd_T113 t145 x97_1).f0) = 15
                        · rw [if_pos c60] at H
                          have c60b0 : (((rd_T113 t145 x97_1).f0) == 15) = true := beq_iff_eq.mpr c60
                          have c60b1 : (((rd_T113 t145 x97_1).f0) != 15) = false := bne_eq_false_iff_eq.mpr c60
                          clear c60
                          by_cases c61 : x1_2 = ((rd_T113 t145 x97_1).f0)
                          · rw [if_pos c61] at H
                            have c61b0 : (x1_2 == ((rd_T113 t145 x97_1).f0)) = true := beq_iff_eq.mpr c61
                            have c61b1 : (x1_2 != ((rd_T113 t145 x97_1).f0)) = false := bne_eq_false_iff_eq.mpr c61
                            clear c61
                            by_cases c62 : x13_2.size + ((rd_T113 t145 x97_1).f1).size ≤ 9223372036854775807
                            · rw [if_pos c62] at H
                              have c62b0 := eq_true c62
                              have c62b1 : decide (x13_2.size + ((rd_T113 t145 x97_1).f1).size ≤ 9223372036854775807) = true := decide_eq_true c62
                              try have c62b2 : (9223372036854775807 < x13_2.size + ((rd_T113 t145 x97_1).f1).size) = False := eq_false (Nat.not_lt.2 c62)
                              have H' := Aside0.mk H
                              clear H
                              have hcz63_0 : wr.cell? ⟨gb149, 0, none⟩ = some (.int .i64 ((rd_T113 t145 x97_1).f0)) := (blk_cell BK149.out 0).trans rfl
                              have hcz63_1 : wr.cell? ⟨gb149, 1, none⟩ = some (.string ((rd_T113 t145 x97_1).f1)) := (blk_cell BK149.out 1).trans rfl
                              have hfz63_0 := blk_frozen BK149.out 0
                              have hfz63_1 := blk_frozen BK149.out 1
                              go_wp2
                              repeat (go_quiet (fail); try go_wp2)
                              go_roundg k2
                              case measure => have := HK1.out; have := HK2.out; omega
                              case rel => exact ⟨(wrap64 (x1_2 - ((rd_T113 t145 x97_1).f0))), (x13_2 ++ ((rd_T113 t145 x97_1).f1)), (by first | rfl | (simp; done) | (simp [*]; done)), (by first | rfl | (simp; done) | (simp [*]; done)), H', ⟨by have := HK1.out; have := HK2.out; omega⟩, ⟨by (with_reducible repeat (first | apply Kd.R_alloc | apply Kd.R_drewN | apply Kd.R_drew)); exact HO_95.out⟩, ⟨by (with_reducible repeat (first | refine blk_drewN ?_ _ | refine blk_drew ?_ | refine blk_alloc ?_ _)); exact BK149.out⟩, ⟨by repeat (first | (with_reducible first | exact HB.out | apply below_alloc | apply pw_below_drewN | apply below_drew1 | refine below_set ?_ GE149.out) | exact HB.out)⟩⟩
                            · rw [if_neg c62] at H
                              exact absurd H (by simp)
                          · rw [if_neg c61] at H
                            have c61b0 : (x1_2 == ((rd_T113 t145 x97_1).f0)) = false := beq_eq_false_iff_ne.mpr c61
                            have c61b1 : (x1_2 != ((rd_T113 t145 x97_1).f0)) = true := bne_iff_ne.mpr c61
                            have H' := Aside0.mk H
                            clear H
                            have hcz64_0 : wr.cell? ⟨gb149, 0, none⟩ = some (.int .i64 ((rd_T113 t145 x97_1).f0)) := (blk_cell BK149.out 0).trans rfl
                            have hcz64_1 : wr.cell? ⟨gb149, 1, none⟩ = some (.string ((rd_T113 t145 x97_1).f1)) := (blk_cell BK149.out 1).trans rfl
                            have hfz64_0 := blk_frozen BK149.out 0
                            have hfz64_1 := blk_frozen BK149.out 1
                            go_wp2
                            repeat (go_quiet (fail); try go_wp2)
                            go_roundg k2
                            case measure => have := HK1.out; have := HK2.out; omega
                            case rel => exact ⟨(x1_2), (x13_2), (wrap64 (x97_1 + 1)), (by first | rfl | (simp; done) | (simp [*]; done)), (by first | rfl | (simp; done) | (simp [*]; done)), (by first | rfl | (simp; done) | (simp [*]; done)), H', ⟨by have := HK1.out; have := HK2.out; omega⟩, ⟨by (with_reducible repeat (first | apply Kd.R_alloc | apply Kd.R_drewN | apply Kd.R_drew)); exact Kd.R_mono HO_95.out (fun _ hk => trivial)⟩, ⟨by repeat (first | (with_reducible first | exact HB.out | apply below_alloc | apply pw_below_drewN | apply below_drew1 | refine below_set ?_ GE149.out) | exact HB.out)⟩⟩
                        · rw [if_neg c60] at H
                          have c60b0 : (((rd_T113 t145 x97_1).f0) == 15) = false := beq_eq_false_iff_ne.mpr c60
                          have c60b1 : (((rd_T113 t145 x97_1).f0) != 15) = true := bne_iff_ne.mpr c60
                          by_cases c65 : ((rd_T113 t145 x97_1).f0) = 16
                          · rw [if_pos c65] at H
                            have c65b0 : (((rd_T113 t145 x97_1).f0) == 16) = true := beq_iff_eq.mpr c65
                            have c65b1 : (((rd_T113 t145 x97_1).f0) != 16) = false := bne_eq_false_iff_eq.mpr c65
                            clear c65
                            by_cases c66 : x1_2 = ((rd_T113 t145 x97_1).f0)
                            · rw [if_pos c66] at H
                              have c66b0 : (x1_2 == ((rd_T113 t145 x97_1).f0)) = true := beq_iff_eq.mpr c66
                              have c66b1 : (x1_2 != ((rd_T113 t145 x97_1).f0)) = false := bne_eq_false_iff_eq.mpr c66
                              clear c66
                              by_cases c67 : x13_2.size + ((rd_T113 t145 x97_1).f1).size ≤ 9223372036854775807
                              · rw [if_pos c67] at H
                                have c67b0 := eq_true c67
                                have c67b1 : decide (x13_2.size + ((rd_T113 t145 x97_1).f1).size ≤ 9223372036854775807) = true := decide_eq_true c67
                                try have c67b2 : (9223372036854775807 < x13_2.size + ((rd_T113 t145 x97_1).f1).size) = False := eq_false (Nat.not_lt.2 c67)
                                have H' := Aside0.mk H
                                clear H
                                have hcz68_0 : wr.cell? ⟨gb149, 0, none⟩ = some (.int .i64 ((rd_T113 t145 x97_1).f0)) := (blk_cell BK149.out 0).trans rfl
                                have hcz68_1 : wr.cell? ⟨gb149, 1, none⟩ = some (.string ((rd_T113 t145 x97_1).f1)) := (blk_cell BK149.out 1).trans rfl
                                have hfz68_0 := blk_frozen BK149.out 0
                                have hfz68_1 := blk_frozen BK149.out 1
                                go_wp2
                                repeat (go_quiet (fail); try go_wp2)
                                go_roundg k2
                                case measure => have := HK1.out; have := HK2.out; omega
                                case rel => exact ⟨(wrap64 (x1_2 - ((rd_T113 t145 x97_1).f0))), (x13_2 ++ ((rd_T113 t145 x97_1).f1)), (by first | rfl | (simp; done) | (simp [*]; done)), (by first | rfl | (simp; done) | (simp [*]; done)), H', ⟨by have := HK1.out; have := HK2.out; omega⟩, ⟨by (with_reducible repeat (first | apply Kd.R_alloc | apply Kd.R_drewN | apply Kd.R_drew)); exact HO_95.out⟩, ⟨by (with_reducible repeat (first | refine blk_drewN ?_ _ | refine blk_drew ?_ | refine blk_alloc ?_ _)); exact BK149.out⟩, ⟨by repeat (first | (with_reducible first | exact HB.out | apply below_alloc | apply pw_below_drewN | apply below_drew1 | refine below_set ?_ GE149.out) | exact HB.out)⟩⟩
                              · rw [if_neg c67] at H
                                exact absurd H (by simp)
                            · rw [if_neg c66] at H
                              have c66b0 : (x1_2 == ((rd_T113 t145 x97_1).f0)) = false := beq_eq_false_iff_ne.mpr c66
                              have c66b1 : (x1_2 != ((rd_T113 t145 x97_1).f0)) = true := bne_iff_ne.mpr c66
                              have H' := Aside0.mk H
                              clear H
                              have hcz69_0 : wr.cell? ⟨gb149, 0, none⟩ = some (.int .i64 ((rd_T113 t145 x97_1).f0)) := (blk_cell BK149.out 0).trans rfl
                              have hcz69_1 : wr.cell? ⟨gb149, 1, none⟩ = some (.string ((rd_T113 t145 x97_1).f1)) := (blk_cell BK149.out 1).trans rfl
                              have hfz69_0 := blk_frozen BK149.out 0
                              have hfz69_1 := blk_frozen BK149.out 1
                              go_wp2
                              repeat (go_quiet (fail); try go_wp2)
                              go_roundg k2
                              case measure => have := HK1.out; have := HK2.out; omega
                              case rel => exact ⟨(x1_2), (x13_2), (wrap64 (x97_1 + 1)), (by first | rfl | (simp; done) | (simp [*]; done)), (by first | rfl | (simp; done) | (simp [*]; done)), (by first | rfl | (simp; done) | (simp [*]; done)), H', ⟨by have := HK1.out; have := HK2.out; omega⟩, ⟨by (with_reducible repeat (first | apply Kd.R_alloc | apply Kd.R_drewN | apply Kd.R_drew)); exact Kd.R_mono HO_95.out (fun _ hk => trivial)⟩, ⟨by repeat (first | (with_reducible first | exact HB.out | apply below_alloc | apply pw_below_drewN | apply below_drew1 | refine below_set ?_ GE149.out) | exact HB.out)⟩⟩
                          · rw [if_neg c65] at H
                            have c65b0 : (((rd_T113 t145 x97_1).f0) == 16) = false := beq_eq_false_iff_ne.mpr c65
                            have c65b1 : (((rd_T113 t145 x97_1).f0) != 16) = true := bne_iff_ne.mpr c65
                            by_cases c70 : x13_2.size + ((rd_T113 t145 x97_1).f1).size ≤ 9223372036854775807
                            · rw [if_pos c70] at H
                              have c70b0 := eq_true c70
                              have c70b1 : decide (x13_2.size + ((rd_T113 t145 x97_1).f1).size ≤ 9223372036854775807) = true := decide_eq_true c70
                              try have c70b2 : (9223372036854775807 < x13_2.size + ((rd_T113 t145 x97_1).f1).size) = False := eq_false (Nat.not_lt.2 c70)
                              have H' := Aside0.mk H
                              clear H
                              have hcz71_0 : wr.cell? ⟨gb149, 0, none⟩ = some (.int .i64 ((rd_T113 t145 x97_1).f0)) := (blk_cell BK149.out 0).trans rfl
                              have hcz71_1 : wr.cell? ⟨gb149, 1, none⟩ = some (.string ((rd_T113 t145 x97_1).f1)) := (blk_cell BK149.out 1).trans rfl
                              have hfz71_0 := blk_frozen BK149.out 0
                              have hfz71_1 := blk_frozen BK149.out 1
                              go_wp2
                              repeat (go_quiet (fail); try go_wp2)
                              go_roundg k2
                              case measure => have := HK1.out; have := HK2.out; omega
                              case rel => exact ⟨(wrap64 (x1_2 - ((rd_T113 t145 x97_1).f0))), (x13_2 ++ ((rd_T113 t145 x97_1).f1)), (by first | rfl | (simp; done) | (simp [*]; done)), (by first | rfl | (simp; done) | (simp [*]; done)), H', ⟨by have := HK1.out; have := HK2.out; omega⟩, ⟨by (with_reducible repeat (first | apply Kd.R_alloc | apply Kd.R_drewN | apply Kd.R_drew)); exact HO_95.out⟩, ⟨by (with_reducible repeat (first | refine blk_drewN ?_ _ | refine blk_drew ?_ | refine blk_alloc ?_ _)); exact BK149.out⟩, ⟨by repeat (first | (with_reducible first | exact HB.out | apply below_alloc | apply pw_below_drewN | apply below_drew1 | refine below_set ?_ GE149.out) | exact HB.out)⟩⟩
                            · rw [if_neg c70] at H
                              exact absurd H (by simp)
                      · rw [if_neg c59] at H
                        have c59b0 : (a0 == 11) = false := beq_eq_false_iff_ne.mpr c59
                        have c59b1 : (a0 != 11) = true := bne_iff_ne.mpr c59
                        by_cases c72 : x13_2.size + ((rd_T113 t145 x97_1).f1).size ≤ 9223372036854775807
                        · rw [if_pos c72] at H
                          have c72b0 := eq_true c72
                          have c72b1 : decide (x13_2.size + ((rd_T113 t145 x97_1).f1).size ≤ 9223372036854775807) = true := decide_eq_true c72
                          try have c72b2 : (9223372036854775807 < x13_2.size + ((rd_T113 t145 x97_1).f1).size) = False := eq_false (Nat.not_lt.2 c72)
                          have H' := Aside0.mk H
                          clear H
                          have hcz73_0 : wr.cell? ⟨gb149, 0, none⟩ = some (.int .i64 ((rd_T113 t145 x97_1).f0)) := (blk_cell BK149.out 0).trans rfl
                          have hcz73_1 : wr.cell? ⟨gb149, 1, none⟩ = some (.string ((rd_T113 t145 x97_1).f1)) := (blk_cell BK149.out 1).trans rfl
                          have hfz73_0 := blk_frozen BK149.out 0
                          have hfz73_1 := blk_frozen BK149.out 1
                          go_wp2
                          repeat (go_quiet (fail); try go_wp2)
                          go_roundg k2
                          case measure => have := HK1.out; have := HK2.out; omega
                          case rel => exact ⟨(wrap64 (x1_2 - ((rd_T113 t145 x97_1).f0))), (x13_2 ++ ((rd_T113 t145 x97_1).f1)), (by first | rfl | (simp; done) | (simp [*]; done)), (by first | rfl | (simp; done) | (simp [*]; done)), H', ⟨by have := HK1.out; have := HK2.out; omega⟩, ⟨by (with_reducible repeat (first | apply Kd.R_alloc | apply Kd.R_drewN | apply Kd.R_drew)); exact HO_95.out⟩, ⟨by (with_reducible repeat (first | refine blk_drewN ?_ _ | refine blk_drew ?_ | refine blk_alloc ?_ _)); exact BK149.out⟩, ⟨by repeat (first | (with_reducible first | exact HB.out | apply below_alloc | apply pw_below_drewN | apply below_drew1 | refine below_set ?_ GE149.out) | exact HB.out)⟩⟩
                        · rw [if_neg c72] at H
                          exact absurd H (by simp)
                    · rw [if_neg c58] at H
                      have c58b0 : decide (((rd_T113 t145 x97_1).f0) ≤ x1_2) = false := decide_eq_false c58
                      clear c58
                      have H' := Aside0.mk H
                      clear H
                      have hcz74_0 : wr.cell? ⟨gb149, 0, none⟩ = some (.int .i64 ((rd_T113 t145 x97_1).f0)) := (blk_cell BK149.out 0).trans rfl
                      have hcz74_1 : wr.cell? ⟨gb149, 1, none⟩ = some (.string ((rd_T113 t145 x97_1).f1)) := (blk_cell BK149.out 1).trans rfl
                      have hfz74_0 := blk_frozen BK149.out 0
                      have hfz74_1 := blk_frozen BK149.out 1
                      go_wp2
                      repeat (go_quiet (fail); try go_wp2)
                      go_roundg k2
                      case measure => have := HK1.out; have := HK2.out; omega
                      case rel => exact ⟨(x1_2), (x13_2), (wrap64 (x97_1 + 1)), (by first | rfl | (simp; done) | (simp [*]; done)), (by first | rfl | (simp; done) | (simp [*]; done)), (by first | rfl | (simp; done) | (simp [*]; done)), H', ⟨by have := HK1.out; have := HK2.out; omega⟩, ⟨by (with_reducible repeat (first | apply Kd.R_alloc | apply Kd.R_drewN | apply Kd.R_drew)); exact Kd.R_mono HO_95.out (fun _ hk => trivial)⟩, ⟨by repeat (first | (with_reducible first | exact HB.out | apply below_alloc | apply pw_below_drewN | apply below_drew1 | refine below_set ?_ GE149.out) | exact HB.out)⟩⟩
              · rw [if_neg c55] at H
                exact absurd H (by simp)
            · rw [if_neg c54] at H
              exact absurd H (by simp)
          · rw [if_neg c53] at H
            have c53b0 : decide (x97_1 < (t145.length : Int)) = false := decide_eq_false c53
            clear c53
            obtain rfl := Option.some.inj H
            go_wp2
            repeat (go_quiet (fail); try go_wp2)
            go_ret
            exact ⟨by first | rfl | (simp [errW_none, errW_some] <;> rfl) | (simp [*, errW_none, errW_some] <;> rfl), by repeat (first | (with_reducible first | exact HB.out | apply below_alloc | apply pw_below_drewN | apply below_drew1) | exact HB.out)⟩

/-! ### stringslite_HasPrefix: function 89 -/
def stringslite_HasPrefix.f (a0 : ByteArray) (a1 : ByteArray) : Option (Bool) := if (a0.size : Int) ≥ (a1.size : Int) then (if 0 ≤ (a1.size : Int) then (if (a1.size : Int) ≤ (a0.size : Int) then (some ((a0.extract 0 ((a1.size : Int) : Int).toNat).toList == a1.toList)) else (none)) else (none)) else (some false)
set_option maxHeartbeats 8000000 in
set_option maxRecDepth 100000 in
theorem stringslite_HasPrefix.calls (a0 : ByteArray) (a1 : ByteArray) (r : Bool) (w : World) (h : stringslite_HasPrefix.f a0 a1 = some r) :
    Calls Tryd.prog 89 #[.string a0, .string a1] w fun e w' => e = .returned (.bool r) ∧ Drawn0 w w' := by
  have H : (if (a0.size : Int) ≥ (a1.size : Int) then (if 0 ≤ (a1.size : Int) then (if (a1.size : Int) ≤ (a0.size : Int) then (some ((a0.extract 0 ((a1.size : Int) : Int).toNat).toList == a1.toList)) else (none)) else (none)) else (some false)) = some r := h
  clear h
  by_cases c3 : (a0.size : Int) ≥ (a1.size : Int)
  · rw [if_pos c3] at H
    have c3b0 : decide ((a1.size : Int) ≤ (a0.size : Int)) = true := decide_eq_true c3
    have c3b1 : decide (a1.size ≤ a0.size) = true := decide_eq_true (Int.ofNat_le.mp c3)
    clear c3
    by_cases c4 : 0 ≤ (a1.size : Int)
    · rw [if_pos c4] at H
      have c4b0 := eq_true c4
      have c4b1 : decide (0 ≤ (a1.size : Int)) = true := decide_eq_true c4
      clear c4
      by_cases c5 : (a1.size : Int) ≤ (a0.size : Int)
      · rw [if_pos c5] at H
        have c5b0 := eq_true c5
        have c5b1 : decide ((a1.size : Int) ≤ (a0.size : Int)) = true := decide_eq_true c5
        clear c5
        obtain rfl := Option.some.inj H
        go_enter Tryd.func89, Tryd.ntmps89
        go_wp2
        go_ret
        exact ⟨by first | rfl | (simp; done) | (simp [*]; done), by repeat (first | exact Drawn0.refl _ | apply Drawn0.step)⟩
      · rw [if_neg c5] at H
        exact absurd H (by simp)
    · rw [if_neg c4] at H
      exact absurd H (by simp)
  · rw [if_neg c3] at H
    have c3b0 : decide ((a1.size : Int) ≤ (a0.size : Int)) = false := decide_eq_false c3
    have c3b1 : decide (a1.size ≤ a0.size) = false := decide_eq_false (fun h => c3 (Int.ofNat_le.mpr h))
    clear c3
    obtain rfl := Option.some.inj H
    go_enter Tryd.func89, Tryd.ntmps89
    go_wp2
    go_ret
    exact ⟨by first | rfl | (simp; done) | (simp [*]; done), by repeat (first | exact Drawn0.refl _ | apply Drawn0.step)⟩

/-! ### strings_HasPrefix: function 47 -/
def strings_HasPrefix.f (a0 : ByteArray) (a1 : ByteArray) : Option (Bool) := (stringslite_HasPrefix.f a0 a1).bind fun t150 => (some t150)
set_option maxHeartbeats 8000000 in
set_option maxRecDepth 100000 in
theorem strings_HasPrefix.calls (a0 : ByteArray) (a1 : ByteArray) (r : Bool) (w : World) (h : strings_HasPrefix.f a0 a1 = some r) :
    Calls Tryd.prog 47 #[.string a0, .string a1] w fun e w' => e = .returned (.bool r) ∧ Drawn0 w w' := by
  have H : ((stringslite_HasPrefix.f a0 a1).bind fun t150 => (some t150)) = some r := h
  clear h
  replace H := Option.bind_eq_some_iff.mp H
  obtain ⟨t150, A30, H⟩ := H
  replace H : (some t150) = some r := H
  have A3 := Aside0.mk A30
  clear A30
  obtain rfl := Option.some.inj H
  go_enter Tryd.func47, Tryd.ntmps47
  go_wp2_with (first | ((with_reducible refine gate_callee (f := 89) rfl ?_); refine goesL_ (some 7) rfl rfl Tryd.func89 (by kernel_rfl) rfl #[.string a0, .string a1] rfl (by (try simp only [List.map_toArray, List.map_cons, List.map_nil]); first | done | rfl | (simp only [List.length_drop, List.length_take]; rfl)) ?_; (with_reducible refine (stringslite_HasPrefix.calls a0 a1 t150 _ A3.out).mono ?_); rintro e w' ⟨rfl, ⟨nd, rfl⟩⟩; refine ⟨_, rfl, ?_⟩))
  go_ret
  exact ⟨by first | rfl | (simp; done) | (simp [*]; done), by repeat (first | exact Drawn0.refl _ | apply Drawn0.step)⟩

end Go.Proofs.YtcmanidhilkhnaaDoor.PNumeralPads
