/- The walks of the functions of this part. The proof of ephemerisref1_ZoneText (in part), ephemerislaw1_ZonetextPrints (in part) is written by hand; the other ones are as the kit's print tells them. -/
-- The walks of the law's functions, told by a program.
import Derived.Test.YtmiieommlhbbdaaDoorPZonetextPrintsx0
import Derived.Test.YtmiieommlhbbdaaDoorPZonetextPrintsx2
import Derived.Test.YtmiieommlhbbdaaDoorPZonetextPrintsx4
namespace Go.Proofs.YtmiieommlhbbdaaDoor.PZonetextPrints
open Go.RowKit Go.Proofs.YtmiieommlhbbdaaDoorW.PrintWords Go.Proofs.YtmiieommlhbbdaaDoorW.PrintLast Go.Proofs.YtmiieommlhbbdaaDoorW.PrintMore
attribute [local go_sem] max2_int min2_int max_two min_two max_three min_three max_four min_four   -- for this text's walks alone
set_option linter.unusedVariables false
set_option linter.unusedSimpArgs false

/-! ### ephemerisref1_ZoneText: function 8 -/
def ephemerisref1_ZoneText.l0 : Nat → ByteArray → List (S50) → Int → Int → Option (ByteArray)
  | 0, _, _, _, _ => none
  | k + 1, x3, x17, x18, x19 => if x19 < x18 then (if 0 ≤ x19 then (if x19 < (x17.length : Int) then ((ephemerisref1_Floor.f k ((rd_T50 x17 x19).f0) 86400000).bind fun t196 => ((strconv_Itoa.f t196).bind fun t197 => (if 3 + t197.size ≤ 9223372036854775807 then (if ((⟨#[97, 116, 32]⟩ : ByteArray) ++ t197).size + 1 ≤ 9223372036854775807 then ((strconv_Itoa.f (wrap64 (((rd_T50 x17 x19).f0) - (wrap64 (t196 * 86400000))))).bind fun t198 => (if (((⟨#[97, 116, 32]⟩ : ByteArray) ++ t197) ++ (⟨#[32]⟩ : ByteArray)).size + t198.size ≤ 9223372036854775807 then (if ((((⟨#[97, 116, 32]⟩ : ByteArray) ++ t197) ++ (⟨#[32]⟩ : ByteArray)) ++ t198).size + 1 ≤ 9223372036854775807 then ((ephemerisref1_OffsetText.f ((rd_T50 x17 x19).f1)).bind fun t199 => (if (((((⟨#[97, 116, 32]⟩ : ByteArray) ++ t197) ++ (⟨#[32]⟩ : ByteArray)) ++ t198) ++ (⟨#[32]⟩ : ByteArray)).size + t199.size ≤ 9223372036854775807 then (if ((((((⟨#[97, 116, 32]⟩ : ByteArray) ++ t197) ++ (⟨#[32]⟩ : ByteArray)) ++ t198) ++ (⟨#[32]⟩ : ByteArray)) ++ t199).size + 1 ≤ 9223372036854775807 then (if (((((((⟨#[97, 116, 32]⟩ : ByteArray) ++ t197) ++ (⟨#[32]⟩ : ByteArray)) ++ t198) ++ (⟨#[32]⟩ : ByteArray)) ++ t199) ++ (⟨#[32]⟩ : ByteArray)).size + ((rd_T50 x17 x19).f2).size ≤ 9223372036854775807 then (if ((((((((⟨#[97, 116, 32]⟩ : ByteArray) ++ t197) ++ (⟨#[32]⟩ : ByteArray)) ++ t198) ++ (⟨#[32]⟩ : ByteArray)) ++ t199) ++ (⟨#[32]⟩ : ByteArray)) ++ ((rd_T50 x17 x19).f2)).size + 1 ≤ 9223372036854775807 then (if x3.size + (((((((((⟨#[97, 116, 32]⟩ : ByteArray) ++ t197) ++ (⟨#[32]⟩ : ByteArray)) ++ t198) ++ (⟨#[32]⟩ : ByteArray)) ++ t199) ++ (⟨#[32]⟩ : ByteArray)) ++ ((rd_T50 x17 x19).f2)) ++ (⟨#[10]⟩ : ByteArray)).size ≤ 9223372036854775807 then (ephemerisref1_ZoneText.l0 k (x3 ++ (((((((((⟨#[97, 116, 32]⟩ : ByteArray) ++ t197) ++ (⟨#[32]⟩ : ByteArray)) ++ t198) ++ (⟨#[32]⟩ : ByteArray)) ++ t199) ++ (⟨#[32]⟩ : ByteArray)) ++ ((rd_T50 x17 x19).f2)) ++ (⟨#[10]⟩ : ByteArray))) x17 x18 (wrap64 (x19 + 1))) else (none)) else (none)) else (none)) else (none)) else (none))) else (none)) else (none))) else (none)) else (none)))) else (none)) else (none)) else (some x3)
def ephemerisref1_ZoneText.f (k : Nat) (a0_0 : ByteArray) (a0_1 : Int) (l0_2 : List (S50)) : Option (ByteArray) := if 5 + a0_0.size ≤ 9223372036854775807 then (if ((⟨#[122, 111, 110, 101, 32]⟩ : ByteArray) ++ a0_0).size + 1 ≤ 9223372036854775807 then ((ephemerisref1_OffsetText.f a0_1).bind fun t193 => (if (((⟨#[122, 111, 110, 101, 32]⟩ : ByteArray) ++ a0_0) ++ (⟨#[32]⟩ : ByteArray)).size + t193.size ≤ 9223372036854775807 then (if ((((⟨#[122, 111, 110, 101, 32]⟩ : ByteArray) ++ a0_0) ++ (⟨#[32]⟩ : ByteArray)) ++ t193).size + 1 ≤ 9223372036854775807 then (ephemerisref1_ZoneText.l0 k (((((⟨#[122, 111, 110, 101, 32]⟩ : ByteArray) ++ a0_0) ++ (⟨#[32]⟩ : ByteArray)) ++ t193) ++ (⟨#[10]⟩ : ByteArray)) l0_2 (l0_2.length : Int) 0) else (none)) else (none))) else (none)) else (none)
theorem ephemerisref1_ZoneText.mono_l : ∀ k, (∀ y0 y1 y2 y3, LeO (ephemerisref1_ZoneText.l0 k y0 y1 y2 y3) (ephemerisref1_ZoneText.l0 (k + 1) y0 y1 y2 y3))
  | 0 => fun _ _ _ _ r h => by simp [ephemerisref1_ZoneText.l0] at h
  | k + 1 => by
    have ih0 := ephemerisref1_ZoneText.mono_l k
    · intro y0 y1 y2 y3
      unfold ephemerisref1_ZoneText.l0
      repeat' first
      | (with_reducible exact ih0 _ _ _ _)
      | (with_reducible exact ephemerisref1_Floor.mono _ _ _)
      | (with_reducible exact LeO.refl _)
      | (with_reducible exact LeO.none _)
      | (with_reducible refine LeO.ite ?_ ?_)
      | (with_reducible refine LeO.bind ?_ (fun _ => ?_))
      | exact ih0 _ _ _ _
      | exact ephemerisref1_Floor.mono _ _ _
      | exact LeO.none _
      | refine LeO.ite ?_ ?_
      | refine LeO.bind ?_ (fun _ => ?_)
theorem ephemerisref1_ZoneText.mono : ∀ a0 a1 a2 k, LeO (ephemerisref1_ZoneText.f k a0 a1 a2) (ephemerisref1_ZoneText.f (k + 1) a0 a1 a2) := by
  intro a0 a1 a2 k
  have ih0 := ephemerisref1_ZoneText.mono_l k
  unfold ephemerisref1_ZoneText.f
  repeat' first
      | (with_reducible exact ih0 _ _ _ _)
      | (with_reducible exact ephemerisref1_Floor.mono _ _ _)
      | (with_reducible exact LeO.refl _)
      | (with_reducible exact LeO.none _)
      | (with_reducible refine LeO.ite ?_ ?_)
      | (with_reducible refine LeO.bind ?_ (fun _ => ?_))
      | exact ih0 _ _ _ _
      | exact ephemerisref1_Floor.mono _ _ _
      | exact LeO.none _
      | refine LeO.ite ?_ ?_
      | refine LeO.bind ?_ (fun _ => ?_)
def ephemerisref1_ZoneText.T1 : Bool × List (List Nat × List Nat) := (true, [([], []), ([0], [0]), ([1], [1]), ([2], [2]), ([], []), ([4], [4]), ([5], [5]), ([3, 6], [3, 6]), ([7], [7]), ([8, 6, 0, 1, 2, 3, 4, 5, 6, 7, 8], [8])])
def ephemerisref1_ZoneText.B1 : List Nat := [0, 1, 3, 7, 0, 16, 48, 127, 255, 511]
theorem ephemerisref1_ZoneText.tab1 : rtab .any (opsOf Tryd.f8 1) = ephemerisref1_ZoneText.T1 := by kernel_rfl
theorem ephemerisref1_ZoneText.bits1 : waitsOk ephemerisref1_ZoneText.T1.2 ephemerisref1_ZoneText.B1 = true := by kernel_rfl
def ephemerisref1_ZoneText.T6 : Bool × List (List Nat × List Nat) := (true, [([], []), ([], []), ([1], [1]), ([2], [2]), ([3], [3]), ([], []), ([5], [5]), ([], []), ([7], [7]), ([6, 8], [6, 8]), ([9, 2], [9]), ([4, 10], [4, 10]), ([11], [11]), ([], []), ([13], [13]), ([14, 10], [14]), ([12, 15], [12, 15]), ([16], [16]), ([], []), ([18], [18]), ([17, 19], [17, 19]), ([20], [20]), ([0, 21], [0, 21]), ([22, 15, 0, 1, 2, 3, 4, 5, 6, 7, 8, 9, 10, 11, 12, 13, 14, 15, 16, 17, 18, 19, 20, 21, 22], [0, 22])])
def ephemerisref1_ZoneText.B6 : List Nat := [0, 0, 2, 6, 14, 0, 32, 0, 128, 480, 998, 2046, 4094, 0, 8192, 26598, 65534, 131070, 0, 262144, 1048574, 2097150, 4194303, 8388607]
theorem ephemerisref1_ZoneText.tab6 : rtab .any (opsOf Tryd.f8 6) = ephemerisref1_ZoneText.T6 := by kernel_rfl
theorem ephemerisref1_ZoneText.bits6 : waitsOk ephemerisref1_ZoneText.T6.2 ephemerisref1_ZoneText.B6 = true := by kernel_rfl
set_option maxHeartbeats 8000000 in
set_option maxRecDepth 100000 in
theorem ephemerisref1_ZoneText.calls (k : Nat) (a0_0 : ByteArray) (a0_1 : Int) (A0_2 : Option Addr) (c0_2 : Nat) (l0_2 : List (S50)) (r : ByteArray) (w : World) (hr0_2 : Kd.C k50 w A0_2 l0_2.length l0_2) (hc0_2 : l0_2.length ≤ c0_2) (hT : strconv_Itoa.Tab w) (h : ephemerisref1_ZoneText.f k a0_0 a0_1 l0_2 = some r) :
    Calls Tryd.prog 8 #[.agg #[.string a0_0, .int .i64 a0_1, .slice A0_2 l0_2.length c0_2]] w fun e w' => e = .returned (.string r) ∧ Below w.heap.size w w' := by
  have hu24 := Tryd.underlying24
  have hu50 := Tryd.underlying50
  have HR0_2 := Aside0.mk hr0_2
  have HC0_2 := Aside0.mk hc0_2
  clear hr0_2 hc0_2
  have HB := Aside0.mk (Below.refl w.heap.size w)
  have H : (if 5 + a0_0.size ≤ 9223372036854775807 then (if ((⟨#[122, 111, 110, 101, 32]⟩ : ByteArray) ++ a0_0).size + 1 ≤ 9223372036854775807 then ((ephemerisref1_OffsetText.f a0_1).bind fun t193 => (if (((⟨#[122, 111, 110, 101, 32]⟩ : ByteArray) ++ a0_0) ++ (⟨#[32]⟩ : ByteArray)).size + t193.size ≤ 9223372036854775807 then (if ((((⟨#[122, 111, 110, 101, 32]⟩ : ByteArray) ++ a0_0) ++ (⟨#[32]⟩ : ByteArray)) ++ t193).size + 1 ≤ 9223372036854775807 then (ephemerisref1_ZoneText.l0 k (((((⟨#[122, 111, 110, 101, 32]⟩ : ByteArray) ++ a0_0) ++ (⟨#[32]⟩ : ByteArray)) ++ t193) ++ (⟨#[10]⟩ : ByteArray)) l0_2 (l0_2.length : Int) 0) else (none)) else (none))) else (none)) else (none)) = some r := h
  clear h
  by_cases c2 : 5 + a0_0.size ≤ 9223372036854775807
  · rw [if_pos c2] at H
    have c2b0 := eq_true c2
    have c2b1 : decide (5 + a0_0.size ≤ 9223372036854775807) = true := decide_eq_true c2
    try have c2b2 : (9223372036854775807 < 5 + a0_0.size) = False := eq_false (Nat.not_lt.2 c2)
    by_cases c3 : ((⟨#[122, 111, 110, 101, 32]⟩ : ByteArray) ++ a0_0).size + 1 ≤ 9223372036854775807
    · rw [if_pos c3] at H
      have c3b0 := eq_true c3
      have c3b1 : decide (((⟨#[122, 111, 110, 101, 32]⟩ : ByteArray) ++ a0_0).size + 1 ≤ 9223372036854775807) = true := decide_eq_true c3
      try have c3b2 : (9223372036854775807 < ((⟨#[122, 111, 110, 101, 32]⟩ : ByteArray) ++ a0_0).size + 1) = False := eq_false (Nat.not_lt.2 c3)
      have c3b3 : (9223372036854775807 < 5 + a0_0.size + 1) = False := eq_false (by have h_ := c3; have s0_ : (⟨#[122, 111, 110, 101, 32]⟩ : ByteArray).size = 5 := rfl; simp only [ByteArray.size_append, s0_] at h_; omega)
      replace H := Option.bind_eq_some_iff.mp H
      obtain ⟨t193, A40, H⟩ := H
      replace H : (if (((⟨#[122, 111, 110, 101, 32]⟩ : ByteArray) ++ a0_0) ++ (⟨#[32]⟩ : ByteArray)).size + t193.size ≤ 9223372036854775807 then (if ((((⟨#[122, 111, 110, 101, 32]⟩ : ByteArray) ++ a0_0) ++ (⟨#[32]⟩ : ByteArray)) ++ t193).size + 1 ≤ 9223372036854775807 then (ephemerisref1_ZoneText.l0 k (((((⟨#[122, 111, 110, 101, 32]⟩ : ByteArray) ++ a0_0) ++ (⟨#[32]⟩ : ByteArray)) ++ t193) ++ (⟨#[10]⟩ : ByteArray)) l0_2 (l0_2.length : Int) 0) else (none)) else (none)) = some r := H
      have A4 := Aside0.mk A40
      clear A40
      by_cases c5 : (((⟨#[122, 111, 110, 101, 32]⟩ : ByteArray) ++ a0_0) ++ (⟨#[32]⟩ : ByteArray)).size + t193.size ≤ 9223372036854775807
      · rw [if_pos c5] at H
        have c5b0 := eq_true c5
        have c5b1 : decide ((((⟨#[122, 111, 110, 101, 32]⟩ : ByteArray) ++ a0_0) ++ (⟨#[32]⟩ : ByteArray)).size + t193.size ≤ 9223372036854775807) = true := decide_eq_true c5
        try have c5b2 : (9223372036854775807 < (((⟨#[122, 111, 110, 101, 32]⟩ : ByteArray) ++ a0_0) ++ (⟨#[32]⟩ : ByteArray)).size + t193.size) = False := eq_false (Nat.not_lt.2 c5)
        have c5b3 : (9223372036854775807 < 5 + a0_0.size + 1 + t193.size) = False := eq_false (by have h_ := c5; have s0_ : (⟨#[122, 111, 110, 101, 32]⟩ : ByteArray).size = 5 := rfl; have s1_ : (⟨#[32]⟩ : ByteArray).size = 1 := rfl; simp only [ByteArray.size_append, s0_, s1_] at h_; omega)
        by_cases c6 : ((((⟨#[122, 111, 110, 101, 32]⟩ : ByteArray) ++ a0_0) ++ (⟨#[32]⟩ : ByteArray)) ++ t193).size + 1 ≤ 9223372036854775807
        · rw [if_pos c6] at H
          have c6b0 := eq_true c6
          have c6b1 : decide (((((⟨#[122, 111, 110, 101, 32]⟩ : ByteArray) ++ a0_0) ++ (⟨#[32]⟩ : ByteArray)) ++ t193).size + 1 ≤ 9223372036854775807) = true := decide_eq_true c6
          try have c6b2 : (9223372036854775807 < ((((⟨#[122, 111, 110, 101, 32]⟩ : ByteArray) ++ a0_0) ++ (⟨#[32]⟩ : ByteArray)) ++ t193).size + 1) = False := eq_false (Nat.not_lt.2 c6)
          have c6b3 : (9223372036854775807 < 5 + a0_0.size + 1 + t193.size + 1) = False := eq_false (by have h_ := c6; have s0_ : (⟨#[122, 111, 110, 101, 32]⟩ : ByteArray).size = 5 := rfl; have s1_ : (⟨#[32]⟩ : ByteArray).size = 1 := rfl; simp only [ByteArray.size_append, s0_, s1_] at h_; omega)
          have H' := Aside0.mk H
          clear H
          go_enter Tryd.func8, Tryd.ntmps8
          try go_wp2_with (first | ((with_reducible refine gate_dst (N := 1) rfl ?_); refine box_event ?hg (N := 1) ?hd (cs := #[.string a0_0, .int .i64 a0_1, .slice A0_2 l0_2.length c0_2]) (t := 24) ?hr ?_; (case hd => rfl); (case hg => rfl); (case hr => first | (go_simp; done) | (go_simp; rfl)); intro gb192 hg w7 hbox hb; have n0_ := Aside0.mk (below_step (by repeat (first | (with_reducible first | exact HB.out | apply below_alloc | apply pw_below_drewN | apply below_drew1) | exact HB.out)) hb); have n1_ := Aside0.mk (hbox); have n2_ := Aside0.mk ((by rw [hg]; exact (below_size (by repeat (first | (with_reducible first | exact HB.out | apply below_alloc | apply pw_below_drewN | apply below_drew1) | exact HB.out))) : w.heap.size ≤ gb192)); have n3_ := Aside0.mk ((by rw [hg]; exact (below_size (by repeat (first | (with_reducible first | exact HB.out | apply below_alloc | apply pw_below_drewN | apply below_drew1) | exact HB.out))) : w.heap.size ≤ gb192)); clear HB; have HB := n0_; have BK192 := n1_; have GW192 := n2_; have GE192 := n3_; clear n0_ n1_ n2_ n3_; clear hb hbox hg))
          have n0_ := Aside0.mk (blk_drew BK192.out)
          have n1_ := Aside0.mk (below_drew1 HB.out)
          clear BK192
          clear HB
          have BK192 := n0_
          have HB := n1_
          clear n0_ n1_
          refine start_ (n := 10) (S := fun w' => w'.cell? ⟨gb192, 0, none⟩ = some (.string a0_0) ∧ w'.cell? ⟨gb192, 1, none⟩ = some (.int .i64 a0_1) ∧ w'.cell? ⟨gb192, 2, none⟩ = some (.slice A0_2 l0_2.length c0_2)) (ds := []) #[false, false, false, false, false, false, false, false, false, false] (by kernel_rfl) rfl rfl ⟨(blk_cell BK192.out 0).trans rfl, (blk_cell BK192.out 1).trans rfl, (blk_cell BK192.out 2).trans rfl⟩ (fun hHeld => ?_); refine with_tabW ephemerisref1_ZoneText.tab1 ephemerisref1_ZoneText.bits1 (fun HT_ HW_ => ?_)
          generalize w7.drew = w8 at BK192 HB hHeld ⊢
          refine pure_ (i := 0) (N := some 7) (v := ?_) (a' := ?_) #[true, false, false, false, false, false, false, false, false, false] rfl rfl (any_of HT_.out (by kernel_rfl)) (fun _ _ _ h => h) (Or.inl ⟨by rfl, ?_⟩) ?_ ?_
          rotate_left
          · intro w'
            go_simp
            with_reducible rfl
          rotate_left
          · simp only [Act.put, List.setIfInBounds_toArray, List.set_cons_zero, List.set_cons_succ, i64_w, i32_w]
            rfl
          refine pure_ (i := 4) (N := some 11) (v := ?_) (a' := ?_) #[true, false, false, false, true, false, false, false, false, false] rfl rfl (any_of HT_.out (by kernel_rfl)) (fun _ _ _ h => h) (Or.inl ⟨by rfl, ?_⟩) ?_ ?_
          rotate_left
          · intro w'
            go_simp
            with_reducible rfl
          rotate_left
          · simp only [Act.put, List.setIfInBounds_toArray, List.set_cons_zero, List.set_cons_succ, i64_w, i32_w]
            rfl
          refine take_ (i := 1) (N := some 8) (v := ?_) (a' := ?_) #[true, true, false, false, true, false, false, false, false, false] rfl rfl (take_ofW HT_.out HW_.out (by kernel_rfl)) (fun _ _ _ h => h) (Or.inl ⟨by rfl, ?_⟩) hHeld ?_ ?_
          rotate_left
          · rintro w' ⟨s0, s1, s2⟩
            go_simp
            with_reducible rfl
          rotate_left
          · simp only [Act.put, List.setIfInBounds_toArray, List.set_cons_zero, List.set_cons_succ, i64_w, i32_w]
            rfl
          refine pure_ (i := 2) (N := some 9) (v := ?_) (a' := ?_) #[true, true, true, false, true, false, false, false, false, false] rfl rfl (any_of HT_.out (by kernel_rfl)) (fun _ _ _ h => h) (Or.inl ⟨by rfl, ?_⟩) ?_ ?_
          rotate_left
          · intro w'
            go_simp
            with_reducible rfl
          rotate_left
          · simp only [Act.put, List.setIfInBounds_toArray, List.set_cons_zero, List.set_cons_succ, i64_w, i32_w]
            rfl
          refine pure_ (i := 3) (N := some 10) (v := ?_) (a' := ?_) #[true, true, true, true, true, false, false, false, false, false] rfl rfl (any_of HT_.out (by kernel_rfl)) (fun _ _ _ h => h) (Or.inl ⟨by rfl, ?_⟩) ?_ ?_
          rotate_left
          · intro w'
            go_simp
            with_reducible rfl
          rotate_left
          · simp only [Act.put, List.setIfInBounds_toArray, List.set_cons_zero, List.set_cons_succ, i64_w, i32_w]
            rfl
          refine take_ (i := 5) (N := some 12) (v := ?_) (a' := ?_) #[true, true, true, true, true, true, false, false, false, false] rfl rfl (take_ofW HT_.out HW_.out (by kernel_rfl)) (fun _ _ _ h => h) (Or.inl ⟨by rfl, ?_⟩) hHeld ?_ ?_
          rotate_left
          · rintro w' ⟨s0, s1, s2⟩
            go_simp
            with_reducible rfl
          rotate_left
          · simp only [Act.put, List.setIfInBounds_toArray, List.set_cons_zero, List.set_cons_succ, i64_w, i32_w]
            rfl
          refine one_ (i := 6) (N := some 13) #[true, true, true, true, true, true, true, false, false, false] rfl rfl (one_of HT_.out (by kernel_rfl)) (by decide) (fun K hK => ?_)
          refine goes_ Tryd.func24 (by kernel_rfl) rfl #[.int .i64 a0_1] (by rfl) rfl rfl (by (try simp only [List.map_toArray, List.map_cons, List.map_nil]); first | done | rfl | (simp only [List.length_drop, List.length_take]; rfl)) ?_
          with_reducible refine (ephemerisref1_OffsetText.calls a0_1 t193 _ (hT.below (by repeat (first | (with_reducible first | exact HB.out | apply below_alloc | apply pw_below_drewN | apply below_drew1) | exact HB.out)) (Nat.le_refl _)) A4.out).mono ?_
          rintro e w9 ⟨rfl, hb⟩
          refine ⟨_, rfl, ?_⟩
          have n0_ := Aside0.mk (blk_below (g := gb192) (o := .cells #[.string a0_0, .int .i64 a0_1, .slice A0_2 l0_2.length c0_2] 24 (0, 0)) (by (with_reducible repeat (first | refine blk_drewN ?_ _ | refine blk_drew ?_ | refine blk_alloc ?_ _)); exact BK192.out) hb)
          have n1_ := Aside0.mk (below_step (by repeat (first | (with_reducible first | exact HB.out | apply below_alloc | apply pw_below_drewN | apply below_drew1 | refine below_set ?_ GE192.out) | exact HB.out)) hb)
          clear BK192
          clear HB
          have BK192 := n0_
          have HB := n1_
          clear n0_ n1_
          (try clear hb)
          (try clear hb2)
          (try clear hk)
          (try clear hi)
          refine hK.out _ _ ⟨(blk_cell BK192.out 0).trans rfl, (blk_cell BK192.out 1).trans rfl, (blk_cell BK192.out 2).trans rfl⟩ (fun hHeld => ?_)
          clear hK K
          refine norm_ (a' := ?_) ?_ ?_
          rotate_left
          · show Act.put _ (some 13) _ = _
            simp only [Act.put, List.setIfInBounds_toArray, List.set_cons_zero, List.set_cons_succ, i64_w, i32_w]
            rfl
          refine pure_ (i := 7) (N := some 14) (v := ?_) (a' := ?_) #[true, true, true, true, true, true, true, true, false, false] rfl rfl (any_of HT_.out (by kernel_rfl)) (fun _ _ _ h => h) (Or.inl ⟨by rfl, ?_⟩) ?_ ?_
          rotate_left
          · intro w'
            go_simp
            with_reducible rfl
          rotate_left
          · simp only [Act.put, List.setIfInBounds_toArray, List.set_cons_zero, List.set_cons_succ, i64_w, i32_w]
            rfl
          refine pure_ (i := 8) (N := some 15) (v := ?_) (a' := ?_) #[true, true, true, true, true, true, true, true, true, false] rfl rfl (any_of HT_.out (by kernel_rfl)) (fun _ _ _ h => h) (Or.inl ⟨by rfl, ?_⟩) ?_ ?_
          rotate_left
          · intro w'
            go_simp
            with_reducible rfl
          rotate_left
          · simp only [Act.put, List.setIfInBounds_toArray, List.set_cons_zero, List.set_cons_succ, i64_w, i32_w]
            rfl
          refine pure_ (i := 9) (N := some 3) (v := ?_) (a' := ?_) #[true, true, true, true, true, true, true, true, true, true] rfl rfl (any_of HT_.out (by kernel_rfl)) (fun _ _ _ h => h) (Or.inl ⟨by rfl, ?_⟩) ?_ ?_
          rotate_left
          · intro w'
            go_simp
            with_reducible rfl
          rotate_left
          · simp only [Act.put, List.setIfInBounds_toArray, List.set_cons_zero, List.set_cons_succ, i64_w, i32_w]
            rfl
          refine done_ (done_of HT_.out (by kernel_rfl)) ?_
          have hcz10_0 : w9.cell? ⟨gb192, 0, none⟩ = some (.string a0_0) := (blk_cell BK192.out 0).trans rfl
          have hcz10_1 : w9.cell? ⟨gb192, 1, none⟩ = some (.int .i64 a0_1) := (blk_cell BK192.out 1).trans rfl
          have hcz10_2 : w9.cell? ⟨gb192, 2, none⟩ = some (.slice A0_2 l0_2.length c0_2) := (blk_cell BK192.out 2).trans rfl
          have hfz10_0 := blk_frozen BK192.out 0
          have hfz10_1 := blk_frozen BK192.out 1
          have hfz10_2 := blk_frozen BK192.out 2
          try go_wp2
          go_loopg [3, 19] k (fun kq v3 v19 w' => ∃ (x3_1 : ByteArray) (x19_1 : Int), v3 = .string x3_1 ∧ v19 = .int .i64 x19_1 ∧ Aside0 (ephemerisref1_ZoneText.l0 kq x3_1 l0_2 (l0_2.length : Int) x19_1 = some r) ∧ Aside0 (kq ≤ k) ∧ Aside0 (w'.heap[gb192]? = some (.cells #[.string a0_0, .int .i64 a0_1, (.slice A0_2 l0_2.length c0_2)] 24 (0, 0))) ∧ Aside0 (Below w.heap.size w w'))
          case atStart => exact ⟨(((((⟨#[122, 111, 110, 101, 32]⟩ : ByteArray) ++ a0_0) ++ (⟨#[32]⟩ : ByteArray)) ++ t193) ++ (⟨#[10]⟩ : ByteArray)), (0), (by first | rfl | (simp; done) | (simp [*]; done)), (by first | rfl | (simp; done) | (simp [*]; done)), H', ⟨Nat.le_refl _⟩, ⟨by (with_reducible repeat (first | refine blk_drewN ?_ _ | refine blk_drew ?_ | refine blk_alloc ?_ _)); exact BK192.out⟩, ⟨by repeat (first | (with_reducible first | exact HB.out | apply below_alloc | apply pw_below_drewN | apply below_drew1 | refine below_set ?_ GE192.out) | exact HB.out)⟩⟩
          case round =>
            clear H'
            try clear c2
            try clear c2b0
            try clear c2b1
            try clear c2b2
            try clear p2
            try clear c3
            try clear c3b0
            try clear c3b1
            try clear c3b2
            try clear c5
            try clear c5b0
            try clear c5b1
            try clear c5b2
            try clear c6
            try clear c6b0
            try clear c6b1
            try clear c6b2
            try clear c8
            try clear hcz10_0
            try clear hcz10_1
            try clear hcz10_2
            try clear hfz10_0
            try clear hfz10_1
            try clear hfz10_2
            obtain ⟨x3_1, x19_1, rfl, rfl, HA, HK1, BK192, HB⟩ := hrel
            cases gk with
            | zero => exact absurd HA.out (by simp [ephemerisref1_ZoneText.l0])
            | succ k1 =>
              have H := HA.out
              clear HA
              simp only [ephemerisref1_ZoneText.l0] at H
              by_cases c11 : x19_1 < (l0_2.length : Int)
              · rw [if_pos c11] at H
                have c11b0 : decide (x19_1 < (l0_2.length : Int)) = true := decide_eq_true c11
                clear c11
                by_cases c12 : 0 ≤ x19_1
                · rw [if_pos c12] at H
                  have c12b0 : decide (0 ≤ x19_1) = true := decide_eq_true c12
                  clear c12
                  by_cases c13 : x19_1 < (l0_2.length : Int)
                  · rw [if_pos c13] at H
                    have c13b0 : decide (x19_1 < (l0_2.length : Int)) = true := decide_eq_true c13
                    clear c13
                    replace H := Option.bind_eq_some_iff.mp H
                    obtain ⟨t196, A140, H⟩ := H
                    replace H : ((strconv_Itoa.f t196).bind fun t197 => (if 3 + t197.size ≤ 9223372036854775807 then (if ((⟨#[97, 116, 32]⟩ : ByteArray) ++ t197).size + 1 ≤ 9223372036854775807 then ((strconv_Itoa.f (wrap64 (((rd_T50 l0_2 x19_1).f0) - (wrap64 (t196 * 86400000))))).bind fun t198 => (if (((⟨#[97, 116, 32]⟩ : ByteArray) ++ t197) ++ (⟨#[32]⟩ : ByteArray)).size + t198.size ≤ 9223372036854775807 then (if ((((⟨#[97, 116, 32]⟩ : ByteArray) ++ t197) ++ (⟨#[32]⟩ : ByteArray)) ++ t198).size + 1 ≤ 9223372036854775807 then ((ephemerisref1_OffsetText.f ((rd_T50 l0_2 x19_1).f1)).bind fun t199 => (if (((((⟨#[97, 116, 32]⟩ : ByteArray) ++ t197) ++ (⟨#[32]⟩ : ByteArray)) ++ t198) ++ (⟨#[32]⟩ : ByteArray)).size + t199.size ≤ 9223372036854775807 then (if ((((((⟨#[97, 116, 32]⟩ : ByteArray) ++ t197) ++ (⟨#[32]⟩ : ByteArray)) ++ t198) ++ (⟨#[32]⟩ : ByteArray)) ++ t199).size + 1 ≤ 9223372036854775807 then (if (((((((⟨#[97, 116, 32]⟩ : ByteArray) ++ t197) ++ (⟨#[32]⟩ : ByteArray)) ++ t198) ++ (⟨#[32]⟩ : ByteArray)) ++ t199) ++ (⟨#[32]⟩ : ByteArray)).size + ((rd_T50 l0_2 x19_1).f2).size ≤ 9223372036854775807 then (if ((((((((⟨#[97, 116, 32]⟩ : ByteArray) ++ t197) ++ (⟨#[32]⟩ : ByteArray)) ++ t198) ++ (⟨#[32]⟩ : ByteArray)) ++ t199) ++ (⟨#[32]⟩ : ByteArray)) ++ ((rd_T50 l0_2 x19_1).f2)).size + 1 ≤ 9223372036854775807 then (if x3_1.size + (((((((((⟨#[97, 116, 32]⟩ : ByteArray) ++ t197) ++ (⟨#[32]⟩ : ByteArray)) ++ t198) ++ (⟨#[32]⟩ : ByteArray)) ++ t199) ++ (⟨#[32]⟩ : ByteArray)) ++ ((rd_T50 l0_2 x19_1).f2)) ++ (⟨#[10]⟩ : ByteArray)).size ≤ 9223372036854775807 then (ephemerisref1_ZoneText.l0 k1 (x3_1 ++ (((((((((⟨#[97, 116, 32]⟩ : ByteArray) ++ t197) ++ (⟨#[32]⟩ : ByteArray)) ++ t198) ++ (⟨#[32]⟩ : ByteArray)) ++ t199) ++ (⟨#[32]⟩ : ByteArray)) ++ ((rd_T50 l0_2 x19_1).f2)) ++ (⟨#[10]⟩ : ByteArray))) l0_2 (l0_2.length : Int) (wrap64 (x19_1 + 1))) else (none)) else (none)) else (none)) else (none)) else (none))) else (none)) else (none))) else (none)) else (none))) = some r := H
                    have A14 := Aside0.mk A140
                    clear A140
                    replace H := Option.bind_eq_some_iff.mp H
                    obtain ⟨t197, A150, H⟩ := H
                    replace H : (if 3 + t197.size ≤ 9223372036854775807 then (if ((⟨#[97, 116, 32]⟩ : ByteArray) ++ t197).size + 1 ≤ 9223372036854775807 then ((strconv_Itoa.f (wrap64 (((rd_T50 l0_2 x19_1).f0) - (wrap64 (t196 * 86400000))))).bind fun t198 => (if (((⟨#[97, 116, 32]⟩ : ByteArray) ++ t197) ++ (⟨#[32]⟩ : ByteArray)).size + t198.size ≤ 9223372036854775807 then (if ((((⟨#[97, 116, 32]⟩ : ByteArray) ++ t197) ++ (⟨#[32]⟩ : ByteArray)) ++ t198).size + 1 ≤ 9223372036854775807 then ((ephemerisref1_OffsetText.f ((rd_T50 l0_2 x19_1).f1)).bind fun t199 => (if (((((⟨#[97, 116, 32]⟩ : ByteArray) ++ t197) ++ (⟨#[32]⟩ : ByteArray)) ++ t198) ++ (⟨#[32]⟩ : ByteArray)).size + t199.size ≤ 9223372036854775807 then (if ((((((⟨#[97, 116, 32]⟩ : ByteArray) ++ t197) ++ (⟨#[32]⟩ : ByteArray)) ++ t198) ++ (⟨#[32]⟩ : ByteArray)) ++ t199).size + 1 ≤ 9223372036854775807 then (if (((((((⟨#[97, 116, 32]⟩ : ByteArray) ++ t197) ++ (⟨#[32]⟩ : ByteArray)) ++ t198) ++ (⟨#[32]⟩ : ByteArray)) ++ t199) ++ (⟨#[32]⟩ : ByteArray)).size + ((rd_T50 l0_2 x19_1).f2).size ≤ 9223372036854775807 then (if ((((((((⟨#[97, 116, 32]⟩ : ByteArray) ++ t197) ++ (⟨#[32]⟩ : ByteArray)) ++ t198) ++ (⟨#[32]⟩ : ByteArray)) ++ t199) ++ (⟨#[32]⟩ : ByteArray)) ++ ((rd_T50 l0_2 x19_1).f2)).size + 1 ≤ 9223372036854775807 then (if x3_1.size + (((((((((⟨#[97, 116, 32]⟩ : ByteArray) ++ t197) ++ (⟨#[32]⟩ : ByteArray)) ++ t198) ++ (⟨#[32]⟩ : ByteArray)) ++ t199) ++ (⟨#[32]⟩ : ByteArray)) ++ ((rd_T50 l0_2 x19_1).f2)) ++ (⟨#[10]⟩ : ByteArray)).size ≤ 9223372036854775807 then (ephemerisref1_ZoneText.l0 k1 (x3_1 ++ (((((((((⟨#[97, 116, 32]⟩ : ByteArray) ++ t197) ++ (⟨#[32]⟩ : ByteArray)) ++ t198) ++ (⟨#[32]⟩ : ByteArray)) ++ t199) ++ (⟨#[32]⟩ : ByteArray)) ++ ((rd_T50 l0_2 x19_1).f2)) ++ (⟨#[10]⟩ : ByteArray))) l0_2 (l0_2.length : Int) (wrap64 (x19_1 + 1))) else (none)) else (none)) else (none)) else (none)) else (none))) else (none)) else (none))) else (none)) else (none)) = some r := H
                    have A15 := Aside0.mk A150
                    clear A150
                    by_cases c16 : 3 + t197.size ≤ 9223372036854775807
                    · rw [if_pos c16] at H
                      have c16b0 := eq_true c16
                      have c16b1 : decide (3 + t197.size ≤ 9223372036854775807) = true := decide_eq_true c16
                      try have c16b2 : (9223372036854775807 < 3 + t197.size) = False := eq_false (Nat.not_lt.2 c16)
                      by_cases c17 : ((⟨#[97, 116, 32]⟩ : ByteArray) ++ t197).size + 1 ≤ 9223372036854775807
                      · rw [if_pos c17] at H
                        have c17b0 := eq_true c17
                        have c17b1 : decide (((⟨#[97, 116, 32]⟩ : ByteArray) ++ t197).size + 1 ≤ 9223372036854775807) = true := decide_eq_true c17
                        try have c17b2 : (9223372036854775807 < ((⟨#[97, 116, 32]⟩ : ByteArray) ++ t197).size + 1) = False := eq_false (Nat.not_lt.2 c17)
                        have c17b3 : (9223372036854775807 < 3 + t197.size + 1) = False := eq_false (by have h_ := c17; have s0_ : (⟨#[97, 116, 32]⟩ : ByteArray).size = 3 := rfl; simp only [ByteArray.size_append, s0_] at h_; omega)
                        replace H := Option.bind_eq_some_iff.mp H
                        obtain ⟨t198, A180, H⟩ := H
                        replace H : (if (((⟨#[97, 116, 32]⟩ : ByteArray) ++ t197) ++ (⟨#[32]⟩ : ByteArray)).size + t198.size ≤ 9223372036854775807 then (if ((((⟨#[97, 116, 32]⟩ : ByteArray) ++ t197) ++ (⟨#[32]⟩ : ByteArray)) ++ t198).size + 1 ≤ 9223372036854775807 then ((ephemerisref1_OffsetText.f ((rd_T50 l0_2 x19_1).f1)).bind fun t199 => (if (((((⟨#[97, 116, 32]⟩ : ByteArray) ++ t197) ++ (⟨#[32]⟩ : ByteArray)) ++ t198) ++ (⟨#[32]⟩ : ByteArray)).size + t199.size ≤ 9223372036854775807 then (if ((((((⟨#[97, 116, 32]⟩ : ByteArray) ++ t197) ++ (⟨#[32]⟩ : ByteArray)) ++ t198) ++ (⟨#[32]⟩ : ByteArray)) ++ t199).size + 1 ≤ 9223372036854775807 then (if (((((((⟨#[97, 116, 32]⟩ : ByteArray) ++ t197) ++ (⟨#[32]⟩ : ByteArray)) ++ t198) ++ (⟨#[32]⟩ : ByteArray)) ++ t199) ++ (⟨#[32]⟩ : ByteArray)).size + ((rd_T50 l0_2 x19_1).f2).size ≤ 9223372036854775807 then (if ((((((((⟨#[97, 116, 32]⟩ : ByteArray) ++ t197) ++ (⟨#[32]⟩ : ByteArray)) ++ t198) ++ (⟨#[32]⟩ : ByteArray)) ++ t199) ++ (⟨#[32]⟩ : ByteArray)) ++ ((rd_T50 l0_2 x19_1).f2)).size + 1 ≤ 9223372036854775807 then (if x3_1.size + (((((((((⟨#[97, 116, 32]⟩ : ByteArray) ++ t197) ++ (⟨#[32]⟩ : ByteArray)) ++ t198) ++ (⟨#[32]⟩ : ByteArray)) ++ t199) ++ (⟨#[32]⟩ : ByteArray)) ++ ((rd_T50 l0_2 x19_1).f2)) ++ (⟨#[10]⟩ : ByteArray)).size ≤ 9223372036854775807 then (ephemerisref1_ZoneText.l0 k1 (x3_1 ++ (((((((((⟨#[97, 116, 32]⟩ : ByteArray) ++ t197) ++ (⟨#[32]⟩ : ByteArray)) ++ t198) ++ (⟨#[32]⟩ : ByteArray)) ++ t199) ++ (⟨#[32]⟩ : ByteArray)) ++ ((rd_T50 l0_2 x19_1).f2)) ++ (⟨#[10]⟩ : ByteArray))) l0_2 (l0_2.length : Int) (wrap64 (x19_1 + 1))) else (none)) else (none)) else (none)) else (none)) else (none))) else (none)) else (none)) = some r := H
                        have A18 := Aside0.mk A180
                        clear A180
                        by_cases c19 : (((⟨#[97, 116, 32]⟩ : ByteArray) ++ t197) ++ (⟨#[32]⟩ : ByteArray)).size + t198.size ≤ 9223372036854775807
                        · rw [if_pos c19] at H
                          have c19b0 := eq_true c19
                          have c19b1 : decide ((((⟨#[97, 116, 32]⟩ : ByteArray) ++ t197) ++ (⟨#[32]⟩ : ByteArray)).size + t198.size ≤ 9223372036854775807) = true := decide_eq_true c19
                          try have c19b2 : (9223372036854775807 < (((⟨#[97, 116, 32]⟩ : ByteArray) ++ t197) ++ (⟨#[32]⟩ : ByteArray)).size + t198.size) = False := eq_false (Nat.not_lt.2 c19)
                          have c19b3 : (9223372036854775807 < 3 + t197.size + 1 + t198.size) = False := eq_false (by have h_ := c19; have s0_ : (⟨#[97, 116, 32]⟩ : ByteArray).size = 3 := rfl; have s1_ : (⟨#[32]⟩ : ByteArray).size = 1 := rfl; simp only [ByteArray.size_append, s0_, s1_] at h_; omega)
                          by_cases c20 : ((((⟨#[97, 116, 32]⟩ : ByteArray) ++ t197) ++ (⟨#[32]⟩ : ByteArray)) ++ t198).size + 1 ≤ 9223372036854775807
                          · rw [if_pos c20] at H
                            have c20b0 := eq_true c20
                            have c20b1 : decide (((((⟨#[97, 116, 32]⟩ : ByteArray) ++ t197) ++ (⟨#[32]⟩ : ByteArray)) ++ t198).size + 1 ≤ 9223372036854775807) = true := decide_eq_true c20
                            try have c20b2 : (9223372036854775807 < ((((⟨#[97, 116, 32]⟩ : ByteArray) ++ t197) ++ (⟨#[32]⟩ : ByteArray)) ++ t198).size + 1) = False := eq_false (Nat.not_lt.2 c20)
                            have c20b3 : (9223372036854775807 < 3 + t197.size + 1 + t198.size + 1) = False := eq_false (by have h_ := c20; have s0_ : (⟨#[97, 116, 32]⟩ : ByteArray).size = 3 := rfl; have s1_ : (⟨#[32]⟩ : ByteArray).size = 1 := rfl; simp only [ByteArray.size_append, s0_, s1_] at h_; omega)
                            replace H := Option.bind_eq_some_iff.mp H
                            obtain ⟨t199, A210, H⟩ := H
                            replace H : (if (((((⟨#[97, 116, 32]⟩ : ByteArray) ++ t197) ++ (⟨#[32]⟩ : ByteArray)) ++ t198) ++ (⟨#[32]⟩ : ByteArray)).size + t199.size ≤ 9223372036854775807 then (if ((((((⟨#[97, 116, 32]⟩ : ByteArray) ++ t197) ++ (⟨#[32]⟩ : ByteArray)) ++ t198) ++ (⟨#[32]⟩ : ByteArray)) ++ t199).size + 1 ≤ 9223372036854775807 then (if (((((((⟨#[97, 116, 32]⟩ : ByteArray) ++ t197) ++ (⟨#[32]⟩ : ByteArray)) ++ t198) ++ (⟨#[32]⟩ : ByteArray)) ++ t199) ++ (⟨#[32]⟩ : ByteArray)).size + ((rd_T50 l0_2 x19_1).f2).size ≤ 9223372036854775807 then (if ((((((((⟨#[97, 116, 32]⟩ : ByteArray) ++ t197) ++ (⟨#[32]⟩ : ByteArray)) ++ t198) ++ (⟨#[32]⟩ : ByteArray)) ++ t199) ++ (⟨#[32]⟩ : ByteArray)) ++ ((rd_T50 l0_2 x19_1).f2)).size + 1 ≤ 9223372036854775807 then (if x3_1.size + (((((((((⟨#[97, 116, 32]⟩ : ByteArray) ++ t197) ++ (⟨#[32]⟩ : ByteArray)) ++ t198) ++ (⟨#[32]⟩ : ByteArray)) ++ t199) ++ (⟨#[32]⟩ : ByteArray)) ++ ((rd_T50 l0_2 x19_1).f2)) ++ (⟨#[10]⟩ : ByteArray)).size ≤ 9223372036854775807 then (ephemerisref1_ZoneText.l0 k1 (x3_1 ++ (((((((((⟨#[97, 116, 32]⟩ : ByteArray) ++ t197) ++ (⟨#[32]⟩ : ByteArray)) ++ t198) ++ (⟨#[32]⟩ : ByteArray)) ++ t199) ++ (⟨#[32]⟩ : ByteArray)) ++ ((rd_T50 l0_2 x19_1).f2)) ++ (⟨#[10]⟩ : ByteArray))) l0_2 (l0_2.length : Int) (wrap64 (x19_1 + 1))) else (none)) else (none)) else (none)) else (none)) else (none)) = some r := H
                            have A21 := Aside0.mk A210
                            clear A210
                            by_cases c22 : (((((⟨#[97, 116, 32]⟩ : ByteArray) ++ t197) ++ (⟨#[32]⟩ : ByteArray)) ++ t198) ++ (⟨#[32]⟩ : ByteArray)).size + t199.size ≤ 9223372036854775807
                            · rw [if_pos c22] at H
                              have c22b0 := eq_true c22
                              have c22b1 : decide ((((((⟨#[97, 116, 32]⟩ : ByteArray) ++ t197) ++ (⟨#[32]⟩ : ByteArray)) ++ t198) ++ (⟨#[32]⟩ : ByteArray)).size + t199.size ≤ 9223372036854775807) = true := decide_eq_true c22
                              try have c22b2 : (9223372036854775807 < (((((⟨#[97, 116, 32]⟩ : ByteArray) ++ t197) ++ (⟨#[32]⟩ : ByteArray)) ++ t198) ++ (⟨#[32]⟩ : ByteArray)).size + t199.size) = False := eq_false (Nat.not_lt.2 c22)
                              have c22b3 : (9223372036854775807 < 3 + t197.size + 1 + t198.size + 1 + t199.size) = False := eq_false (by have h_ := c22; have s0_ : (⟨#[97, 116, 32]⟩ : ByteArray).size = 3 := rfl; have s1_ : (⟨#[32]⟩ : ByteArray).size = 1 := rfl; simp only [ByteArray.size_append, s0_, s1_] at h_; omega)
                              by_cases c23 : ((((((⟨#[97, 116, 32]⟩ : ByteArray) ++ t197) ++ (⟨#[32]⟩ : ByteArray)) ++ t198) ++ (⟨#[32]⟩ : ByteArray)) ++ t199).size + 1 ≤ 9223372036854775807
                              · rw [if_pos c23] at H
                                have c23b0 := eq_true c23
                                have c23b1 : decide (((((((⟨#[97, 116, 32]⟩ : ByteArray) ++ t197) ++ (⟨#[32]⟩ : ByteArray)) ++ t198) ++ (⟨#[32]⟩ : ByteArray)) ++ t199).size + 1 ≤ 9223372036854775807) = true := decide_eq_true c23
                                try have c23b2 : (9223372036854775807 < ((((((⟨#[97, 116, 32]⟩ : ByteArray) ++ t197) ++ (⟨#[32]⟩ : ByteArray)) ++ t198) ++ (⟨#[32]⟩ : ByteArray)) ++ t199).size + 1) = False := eq_false (Nat.not_lt.2 c23)
                                have c23b3 : (9223372036854775807 < 3 + t197.size + 1 + t198.size + 1 + t199.size + 1) = False := eq_false (by have h_ := c23; have s0_ : (⟨#[97, 116, 32]⟩ : ByteArray).size = 3 := rfl; have s1_ : (⟨#[32]⟩ : ByteArray).size = 1 := rfl; simp only [ByteArray.size_append, s0_, s1_] at h_; omega)
                                by_cases c24 : (((((((⟨#[97, 116, 32]⟩ : ByteArray) ++ t197) ++ (⟨#[32]⟩ : ByteArray)) ++ t198) ++ (⟨#[32]⟩ : ByteArray)) ++ t199) ++ (⟨#[32]⟩ : ByteArray)).size + ((rd_T50 l0_2 x19_1).f2).size ≤ 9223372036854775807
                                · rw [if_pos c24] at H
                                  have c24b0 := eq_true c24
                                  have c24b1 : decide ((((((((⟨#[97, 116, 32]⟩ : ByteArray) ++ t197) ++ (⟨#[32]⟩ : ByteArray)) ++ t198) ++ (⟨#[32]⟩ : ByteArray)) ++ t199) ++ (⟨#[32]⟩ : ByteArray)).size + ((rd_T50 l0_2 x19_1).f2).size ≤ 9223372036854775807) = true := decide_eq_true c24
                                  try have c24b2 : (9223372036854775807 < (((((((⟨#[97, 116, 32]⟩ : ByteArray) ++ t197) ++ (⟨#[32]⟩ : ByteArray)) ++ t198) ++ (⟨#[32]⟩ : ByteArray)) ++ t199) ++ (⟨#[32]⟩ : ByteArray)).size + ((rd_T50 l0_2 x19_1).f2).size) = False := eq_false (Nat.not_lt.2 c24)
                                  have c24b3 : (9223372036854775807 < 3 + t197.size + 1 + t198.size + 1 + t199.size + 1 + ((rd_T50 l0_2 x19_1).f2).size) = False := eq_false (by have h_ := c24; have s0_ : (⟨#[97, 116, 32]⟩ : ByteArray).size = 3 := rfl; have s1_ : (⟨#[32]⟩ : ByteArray).size = 1 := rfl; simp only [ByteArray.size_append, s0_, s1_] at h_; omega)
                                  by_cases c25 : ((((((((⟨#[97, 116, 32]⟩ : ByteArray) ++ t197) ++ (⟨#[32]⟩ : ByteArray)) ++ t198) ++ (⟨#[32]⟩ : ByteArray)) ++ t199) ++ (⟨#[32]⟩ : ByteArray)) ++ ((rd_T50 l0_2 x19_1).f2)).size + 1 ≤ 9223372036854775807
                                  · rw [if_pos c25] at H
                                    have c25b0 := eq_true c25
                                    have c25b1 : decide (((((((((⟨#[97, 116, 32]⟩ : ByteArray) ++ t197) ++ (⟨#[32]⟩ : ByteArray)) ++ t198) ++ (⟨#[32]⟩ : ByteArray)) ++ t199) ++ (⟨#[32]⟩ : ByteArray)) ++ ((rd_T50 l0_2 x19_1).f2)).size + 1 ≤ 9223372036854775807) = true := decide_eq_true c25
                                    try have c25b2 : (9223372036854775807 < ((((((((⟨#[97, 116, 32]⟩ : ByteArray) ++ t197) ++ (⟨#[32]⟩ : ByteArray)) ++ t198) ++ (⟨#[32]⟩ : ByteArray)) ++ t199) ++ (⟨#[32]⟩ : ByteArray)) ++ ((rd_T50 l0_2 x19_1).f2)).size + 1) = False := eq_false (Nat.not_lt.2 c25)
                                    have c25b3 : (9223372036854775807 < 3 + t197.size + 1 + t198.size + 1 + t199.size + 1 + ((rd_T50 l0_2 x19_1).f2).size + 1) = False := eq_false (by have h_ := c25; have s0_ : (⟨#[97, 116, 32]⟩ : ByteArray).size = 3 := rfl; have s1_ : (⟨#[32]⟩ : ByteArray).size = 1 := rfl; simp only [ByteArray.size_append, s0_, s1_] at h_; omega)
                                    by_cases c26 : x3_1.size + (((((((((⟨#[97, 116, 32]⟩ : ByteArray) ++ t197) ++ (⟨#[32]⟩ : ByteArray)) ++ t198) ++ (⟨#[32]⟩ : ByteArray)) ++ t199) ++ (⟨#[32]⟩ : ByteArray)) ++ ((rd_T50 l0_2 x19_1).f2)) ++ (⟨#[10]⟩ : ByteArray)).size ≤ 9223372036854775807
                                    · rw [if_pos c26] at H
                                      have c26b0 := eq_true c26
                                      have c26b1 : decide (x3_1.size + (((((((((⟨#[97, 116, 32]⟩ : ByteArray) ++ t197) ++ (⟨#[32]⟩ : ByteArray)) ++ t198) ++ (⟨#[32]⟩ : ByteArray)) ++ t199) ++ (⟨#[32]⟩ : ByteArray)) ++ ((rd_T50 l0_2 x19_1).f2)) ++ (⟨#[10]⟩ : ByteArray)).size ≤ 9223372036854775807) = true := decide_eq_true c26
                                      try have c26b2 : (9223372036854775807 < x3_1.size + (((((((((⟨#[97, 116, 32]⟩ : ByteArray) ++ t197) ++ (⟨#[32]⟩ : ByteArray)) ++ t198) ++ (⟨#[32]⟩ : ByteArray)) ++ t199) ++ (⟨#[32]⟩ : ByteArray)) ++ ((rd_T50 l0_2 x19_1).f2)) ++ (⟨#[10]⟩ : ByteArray)).size) = False := eq_false (Nat.not_lt.2 c26)
                                      have c26b3 : (9223372036854775807 < x3_1.size + (3 + t197.size + 1 + t198.size + 1 + t199.size + 1 + ((rd_T50 l0_2 x19_1).f2).size + 1)) = False := eq_false (by have h_ := c26; have s0_ : (⟨#[97, 116, 32]⟩ : ByteArray).size = 3 := rfl; have s1_ : (⟨#[32]⟩ : ByteArray).size = 1 := rfl; have s2_ : (⟨#[10]⟩ : ByteArray).size = 1 := rfl; simp only [ByteArray.size_append, s0_, s1_, s2_] at h_; omega)
                                      have H' := Aside0.mk H
                                      clear H
                                      have p194 : 0 ≤ (x19_1 : Int) := of_decide_eq_true (by first | (with_reducible assumption) | assumption)
                                      have q194 : x19_1 < (l0_2.length : Int) := of_decide_eq_true (by first | (with_reducible assumption) | assumption)
                                      obtain ⟨ad194, e194, hx194_0, hx194_1, hx194_2⟩ := at_T50 HR0_2.out x19_1 p194 q194
                                      cases e194
                                      replace hx194_0 := (HB.out.cell (World.block_lt_of_cell? w _ hx194_0)).trans hx194_0
                                      replace hx194_1 := (HB.out.cell (World.block_lt_of_cell? w _ hx194_1)).trans hx194_1
                                      replace hx194_2 := (HB.out.cell (World.block_lt_of_cell? w _ hx194_2)).trans hx194_2
                                      replace p194 := eq_true p194
                                      replace q194 := eq_true q194
                                      try go_wp2_with (first | ((with_reducible refine gate_dst (N := 5) rfl ?_); refine box_event ?hg (N := 5) ?hd (cs := #[.int .i64 0, .int .i64 0, .string (⟨#[]⟩ : ByteArray)]) (t := 50) ?hr ?_; (case hd => rfl); (case hg => rfl); (case hr => first | (go_simp; done) | (go_simp; rfl)); intro gb195 hg w27 hbox hb; have n0_ := Aside0.mk (blk_below (g := gb192) (o := .cells #[.string a0_0, .int .i64 a0_1, .slice (some ad194) l0_2.length c0_2] 24 (0, 0)) (by (with_reducible repeat (first | refine blk_drewN ?_ _ | refine blk_drew ?_ | refine blk_alloc ?_ _)); exact BK192.out) hb); have n1_ := Aside0.mk (below_step (by repeat (first | (with_reducible first | exact HB.out | apply below_alloc | apply pw_below_drewN | apply below_drew1 | refine below_set ?_ GE192.out) | exact HB.out)) hb); have n2_ := Aside0.mk (hbox); have n3_ := Aside0.mk ((by rw [hg]; exact (below_size (by repeat (first | (with_reducible first | exact HB.out | apply below_alloc | apply pw_below_drewN | apply below_drew1 | refine below_set ?_ GE192.out) | exact HB.out))) : w.heap.size ≤ gb195)); have n4_ := Aside0.mk ((by rw [hg]; exact (below_size (by repeat (first | (with_reducible first | exact HB.out | apply below_alloc | apply pw_below_drewN | apply below_drew1 | refine below_set ?_ GE192.out) | exact HB.out))) : w.heap.size ≤ gb195)); have n5_ := Aside0.mk ((by rw [hg]; exact Nat.ne_of_lt (blk_lt (g := gb192) (o := .cells #[.string a0_0, .int .i64 a0_1, .slice (some ad194) l0_2.length c0_2] 24 (0, 0)) (by (with_reducible repeat (first | refine blk_drewN ?_ _ | refine blk_drew ?_ | refine blk_alloc ?_ _)); exact BK192.out)) : gb192 ≠ gb195)); have n6_ := Aside0.mk ((by rw [hg]; exact Nat.ne_of_gt (blk_lt (g := gb192) (o := .cells #[.string a0_0, .int .i64 a0_1, .slice (some ad194) l0_2.length c0_2] 24 (0, 0)) (by (with_reducible repeat (first | refine blk_drewN ?_ _ | refine blk_drew ?_ | refine blk_alloc ?_ _)); exact BK192.out)) : gb195 ≠ gb192)); clear BK192; clear HB; have BK192 := n0_; have HB := n1_; have BK195 := n2_; have GW195 := n3_; have GE195 := n4_; have NB192_195 := n5_; have NB195_192 := n6_; clear n0_ n1_ n2_ n3_ n4_ n5_ n6_; clear hb hbox hg; have hnb28 := NB195_192.out; have hnc28 := NB192_195.out; have hcz29_0 : w27.cell? ⟨gb195, 0, none⟩ = some (.int .i64 0) := (blk_cell BK195.out 0).trans rfl; have hcz29_1 : w27.cell? ⟨gb195, 1, none⟩ = some (.int .i64 0) := (blk_cell BK195.out 1).trans rfl; have hcz29_2 : w27.cell? ⟨gb195, 2, none⟩ = some (.string (⟨#[]⟩ : ByteArray)) := (blk_cell BK195.out 2).trans rfl; have hfz29_0 := blk_frozen BK195.out 0; have hfz29_1 := blk_frozen BK195.out 1; have hfz29_2 := blk_frozen BK195.out 2) | ((with_reducible refine gate_callee (f := 25) rfl ?_); refine goesL_ (some 25) rfl rfl Tryd.func25 (by kernel_rfl) rfl #[.int .i64 ((rd_T50 l0_2 x19_1).f0), .int .i64 86400000] rfl (by (try simp only [List.map_toArray, List.map_cons, List.map_nil]); first | done | rfl | (simp only [List.length_drop, List.length_take]; rfl)) ?_; (with_reducible refine (ephemerisref1_Floor.calls k1 ((rd_T50 l0_2 x19_1).f0) 86400000 t196 _ A14.out).mono ?_); rintro e w' ⟨rfl, ⟨nd, rfl⟩⟩; refine ⟨_, rfl, ?_⟩))
                                      have n0_ : Aside0 ((((w27.setCell ⟨gb195, 0, none⟩ (.int .i64 ((rd_T50 l0_2 x19_1).f0))).setCell ⟨gb195, 1, none⟩ (.int .i64 ((rd_T50 l0_2 x19_1).f1))).setCell ⟨gb195, 2, none⟩ (.string ((rd_T50 l0_2 x19_1).f2))).heap[gb192]? = some (.cells #[.string a0_0, .int .i64 a0_1, .slice (some ad194) l0_2.length c0_2] 24 (0, 0))) := ⟨by (with_reducible repeat (first | refine blk_drewN ?_ _ | refine blk_drew ?_ | refine blk_alloc ?_ _)); refine blk_far ?_ NB192_195.out _; (with_reducible repeat (first | refine blk_drewN ?_ _ | refine blk_drew ?_ | refine blk_alloc ?_ _)); refine blk_far ?_ NB192_195.out _; (with_reducible repeat (first | refine blk_drewN ?_ _ | refine blk_drew ?_ | refine blk_alloc ?_ _)); refine blk_far ?_ NB192_195.out _; (with_reducible repeat (first | refine blk_drewN ?_ _ | refine blk_drew ?_ | refine blk_alloc ?_ _)); exact BK192.out⟩
                                      have n1_ : Aside0 ((((w27.setCell ⟨gb195, 0, none⟩ (.int .i64 ((rd_T50 l0_2 x19_1).f0))).setCell ⟨gb195, 1, none⟩ (.int .i64 ((rd_T50 l0_2 x19_1).f1))).setCell ⟨gb195, 2, none⟩ (.string ((rd_T50 l0_2 x19_1).f2))).heap[gb195]? = some (.cells #[.int .i64 ((rd_T50 l0_2 x19_1).f0), .int .i64 ((rd_T50 l0_2 x19_1).f1), .string ((rd_T50 l0_2 x19_1).f2)] 50 (0, 0))) := ⟨by (with_reducible repeat (first | refine blk_drewN ?_ _ | refine blk_drew ?_ | refine blk_alloc ?_ _)); refine blk_put (cs := #[.int .i64 ((rd_T50 l0_2 x19_1).f0), .int .i64 ((rd_T50 l0_2 x19_1).f1), .string (⟨#[]⟩ : ByteArray)]) ?_ 2 _ rfl; (with_reducible repeat (first | refine blk_drewN ?_ _ | refine blk_drew ?_ | refine blk_alloc ?_ _)); refine blk_put (cs := #[.int .i64 ((rd_T50 l0_2 x19_1).f0), .int .i64 0, .string (⟨#[]⟩ : ByteArray)]) ?_ 1 _ rfl; (with_reducible repeat (first | refine blk_drewN ?_ _ | refine blk_drew ?_ | refine blk_alloc ?_ _)); refine blk_put (cs := #[.int .i64 0, .int .i64 0, .string (⟨#[]⟩ : ByteArray)]) ?_ 0 _ rfl; (with_reducible repeat (first | refine blk_drewN ?_ _ | refine blk_drew ?_ | refine blk_alloc ?_ _)); exact BK195.out⟩
                                      have n2_ : Aside0 (Below w.heap.size w (((w27.setCell ⟨gb195, 0, none⟩ (.int .i64 ((rd_T50 l0_2 x19_1).f0))).setCell ⟨gb195, 1, none⟩ (.int .i64 ((rd_T50 l0_2 x19_1).f1))).setCell ⟨gb195, 2, none⟩ (.string ((rd_T50 l0_2 x19_1).f2)))) := ⟨by repeat (first | (with_reducible first | exact HB.out | apply below_alloc | apply pw_below_drewN | apply below_drew1 | refine below_set ?_ GE192.out | refine below_set ?_ GE195.out) | exact HB.out)⟩
                                      (try clear BK192)
                                      (try clear BK195)
                                      (try clear HB)
                                      generalize (((w27.setCell ⟨gb195, 0, none⟩ (.int .i64 ((rd_T50 l0_2 x19_1).f0))).setCell ⟨gb195, 1, none⟩ (.int .i64 ((rd_T50 l0_2 x19_1).f1))).setCell ⟨gb195, 2, none⟩ (.string ((rd_T50 l0_2 x19_1).f2))) = w30 at n0_ n1_ n2_ ⊢
                                      have BK192 := n0_
                                      have BK195 := n1_
                                      have HB := n2_
                                      clear n0_ n1_ n2_
                                      (try (rw [drewN_self w30]; generalize hq_ : World.drewN w30 _ = w30; have n0_ : Aside0 (w30.heap[gb192]? = some (.cells #[.string a0_0, .int .i64 a0_1, .slice (some ad194) l0_2.length c0_2] 24 (0, 0))) := ⟨by rw [← hq_]; exact (by (with_reducible repeat (first | refine blk_drewN ?_ _ | refine blk_drew ?_ | refine blk_alloc ?_ _)); exact BK192.out)⟩; have n1_ : Aside0 (w30.heap[gb195]? = some (.cells #[.int .i64 ((rd_T50 l0_2 x19_1).f0), .int .i64 ((rd_T50 l0_2 x19_1).f1), .string ((rd_T50 l0_2 x19_1).f2)] 50 (0, 0))) := ⟨by rw [← hq_]; exact (by (with_reducible repeat (first | refine blk_drewN ?_ _ | refine blk_drew ?_ | refine blk_alloc ?_ _)); exact BK195.out)⟩; have n2_ : Aside0 (Below w.heap.size w w30) := ⟨by rw [← hq_]; exact (by repeat (first | (with_reducible first | exact HB.out | apply below_alloc | apply pw_below_drewN | apply below_drew1 | refine below_set ?_ GE192.out | refine below_set ?_ GE195.out) | exact HB.out))⟩; clear BK192 BK195 HB hq_; have BK192 := n0_; have BK195 := n1_; have HB := n2_; clear n0_ n1_ n2_))
                                      have n0_ := Aside0.mk (blk_drew BK192.out)
                                      have n1_ := Aside0.mk (blk_drew BK195.out)
                                      have n2_ := Aside0.mk (below_drew1 HB.out)
                                      clear BK192
                                      clear BK195
                                      clear HB
                                      have BK192 := n0_
                                      have BK195 := n1_
                                      have HB := n2_
                                      clear n0_ n1_ n2_
                                      refine start_ (n := 24) (S := fun w' => w'.cell? ⟨gb195, 0, none⟩ = some (.int .i64 ((rd_T50 l0_2 x19_1).f0)) ∧ w'.cell? ⟨gb195, 1, none⟩ = some (.int .i64 ((rd_T50 l0_2 x19_1).f1)) ∧ w'.cell? ⟨gb195, 2, none⟩ = some (.string ((rd_T50 l0_2 x19_1).f2))) (ds := []) #[false, false, false, false, false, false, false, false, false, false, false, false, false, false, false, false, false, false, false, false, false, false, false, false] (by kernel_rfl) rfl rfl ⟨(blk_cell BK195.out 0).trans rfl, (blk_cell BK195.out 1).trans rfl, (blk_cell BK195.out 2).trans rfl⟩ (fun hHeld => ?_); refine with_tabW ephemerisref1_ZoneText.tab6 ephemerisref1_ZoneText.bits6 (fun HT_ HW_ => ?_)
                                      generalize w30.drew = w31 at BK192 BK195 HB hHeld ⊢
                                      refine pure_ (i := 0) (N := some 26) (v := ?_) (a' := ?_) #[true, false, false, false, false, false, false, false, false, false, false, false, false, false, false, false, false, false, false, false, false, false, false, false] rfl rfl (any_of HT_.out (by kernel_rfl)) (fun _ _ _ h => h) (Or.inl ⟨by rfl, ?_⟩) ?_ ?_
                                      rotate_left
                                      · intro w'
                                        go_simp
                                        with_reducible rfl
                                      rotate_left
                                      · simp only [Act.put, List.setIfInBounds_toArray, List.set_cons_zero, List.set_cons_succ, i64_w, i32_w]
                                        rfl
                                      refine pure_ (i := 1) (N := some 27) (v := ?_) (a' := ?_) #[true, true, false, false, false, false, false, false, false, false, false, false, false, false, false, false, false, false, false, false, false, false, false, false] rfl rfl (any_of HT_.out (by kernel_rfl)) (fun _ _ _ h => h) (Or.inl ⟨by rfl, ?_⟩) ?_ ?_
                                      rotate_left
                                      · intro w'
                                        go_simp
                                        with_reducible rfl
                                      rotate_left
                                      · simp only [Act.put, List.setIfInBounds_toArray, List.set_cons_zero, List.set_cons_succ, i64_w, i32_w]
                                        rfl
                                      refine pure_ (i := 5) (N := some 31) (v := ?_) (a' := ?_) #[true, true, false, false, false, true, false, false, false, false, false, false, false, false, false, false, false, false, false, false, false, false, false, false] rfl rfl (any_of HT_.out (by kernel_rfl)) (fun _ _ _ h => h) (Or.inl ⟨by rfl, ?_⟩) ?_ ?_
                                      rotate_left
                                      · intro w'
                                        go_simp
                                        with_reducible rfl
                                      rotate_left
                                      · simp only [Act.put, List.setIfInBounds_toArray, List.set_cons_zero, List.set_cons_succ, i64_w, i32_w]
                                        rfl
                                      refine pure_ (i := 7) (N := some 33) (v := ?_) (a' := ?_) #[true, true, false, false, false, true, false, true, false, false, false, false, false, false, false, false, false, false, false, false, false, false, false, false] rfl rfl (any_of HT_.out (by kernel_rfl)) (fun _ _ _ h => h) (Or.inl ⟨by rfl, ?_⟩) ?_ ?_
                                      rotate_left
                                      · intro w'
                                        go_simp
                                        with_reducible rfl
                                      rotate_left
                                      · simp only [Act.put, List.setIfInBounds_toArray, List.set_cons_zero, List.set_cons_succ, i64_w, i32_w]
                                        rfl
                                      refine pure_ (i := 8) (N := some 34) (v := ?_) (a' := ?_) #[true, true, false, false, false, true, false, true, true, false, false, false, false, false, false, false, false, false, false, false, false, false, false, false] rfl rfl (any_of HT_.out (by kernel_rfl)) (fun _ _ _ h => h) (Or.inl ⟨by rfl, ?_⟩) ?_ ?_
                                      rotate_left
                                      · intro w'
                                        go_simp
                                        with_reducible rfl
                                      rotate_left
                                      · simp only [Act.put, List.setIfInBounds_toArray, List.set_cons_zero, List.set_cons_succ, i64_w, i32_w]
                                        rfl
                                      refine pure_ (i := 13) (N := some 39) (v := ?_) (a' := ?_) #[true, true, false, false, false, true, false, true, true, false, false, false, false, true, false, false, false, false, false, false, false, false, false, false] rfl rfl (any_of HT_.out (by kernel_rfl)) (fun _ _ _ h => h) (Or.inl ⟨by rfl, ?_⟩) ?_ ?_
                                      rotate_left
                                      · intro w'
                                        go_simp
                                        with_reducible rfl
                                      rotate_left
                                      · simp only [Act.put, List.setIfInBounds_toArray, List.set_cons_zero, List.set_cons_succ, i64_w, i32_w]
                                        rfl
                                      refine pure_ (i := 18) (N := some 44) (v := ?_) (a' := ?_) #[true, true, false, false, false, true, false, true, true, false, false, false, false, true, false, false, false, false, true, false, false, false, false, false] rfl rfl (any_of HT_.out (by kernel_rfl)) (fun _ _ _ h => h) (Or.inl ⟨by rfl, ?_⟩) ?_ ?_
                                      rotate_left
                                      · intro w'
                                        go_simp
                                        with_reducible rfl
                                      rotate_left
                                      · simp only [Act.put, List.setIfInBounds_toArray, List.set_cons_zero, List.set_cons_succ, i64_w, i32_w]
                                        rfl
                                      refine take_ (i := 6) (N := some 32) (v := ?_) (a' := ?_) #[true, true, false, false, false, true, true, true, true, false, false, false, false, true, false, false, false, false, true, false, false, false, false, false] rfl rfl (take_ofW HT_.out HW_.out (by kernel_rfl)) (fun _ _ _ h => h) (Or.inl ⟨by rfl, ?_⟩) hHeld ?_ ?_
                                      rotate_left
                                      · rintro w' ⟨s0, s1, s2⟩
                                        go_simp
                                        with_reducible rfl
                                      rotate_left
                                      · simp only [Act.put, List.setIfInBounds_toArray, List.set_cons_zero, List.set_cons_succ, i64_w, i32_w]
                                        rfl
                                      refine pure_ (i := 9) (N := some 35) (v := ?_) (a' := ?_) #[true, true, false, false, false, true, true, true, true, true, false, false, false, true, false, false, false, false, true, false, false, false, false, false] rfl rfl (any_of HT_.out (by kernel_rfl)) (fun _ _ _ h => h) (Or.inl ⟨by rfl, ?_⟩) ?_ ?_
                                      rotate_left
                                      · intro w'
                                        go_simp
                                        with_reducible rfl
                                      rotate_left
                                      · simp only [Act.put, List.setIfInBounds_toArray, List.set_cons_zero, List.set_cons_succ, i64_w, i32_w]
                                        rfl
                                      refine take_ (i := 14) (N := some 40) (v := ?_) (a' := ?_) #[true, true, false, false, false, true, true, true, true, true, false, false, false, true, true, false, false, false, true, false, false, false, false, false] rfl rfl (take_ofW HT_.out HW_.out (by kernel_rfl)) (fun _ _ _ h => h) (Or.inl ⟨by rfl, ?_⟩) hHeld ?_ ?_
                                      rotate_left
                                      · rintro w' ⟨s0, s1, s2⟩
                                        go_simp
                                        with_reducible rfl
                                      rotate_left
                                      · simp only [Act.put, List.setIfInBounds_toArray, List.set_cons_zero, List.set_cons_succ, i64_w, i32_w]
                                        rfl
                                      refine take_ (i := 19) (N := some 45) (v := ?_) (a' := ?_) #[true, true, false, false, false, true, true, true, true, true, false, false, false, true, true, false, false, false, true, true, false, false, false, false] rfl rfl (take_ofW HT_.out HW_.out (by kernel_rfl)) (fun _ _ _ h => h) (Or.inl ⟨by rfl, ?_⟩) hHeld ?_ ?_
                                      rotate_left
                                      · rintro w' ⟨s0, s1, s2⟩
                                        go_simp
                                        with_reducible rfl
                                      rotate_left
                                      · simp only [Act.put, List.setIfInBounds_toArray, List.set_cons_zero, List.set_cons_succ, i64_w, i32_w]
                                        rfl
                                      refine one_ (i := 2) (N := some 28) #[true, true, true, false, false, true, true, true, true, true, false, false, false, true, true, false, false, false, true, true, false, false, false, false] rfl rfl (one_of HT_.out (by kernel_rfl)) (by decide) (fun K hK => ?_)
                                      refine goes_ Tryd.func18 (by kernel_rfl) rfl #[.int .i64 t196] (by rfl) rfl rfl (by (try simp only [List.map_toArray, List.map_cons, List.map_nil]); first | done | rfl | (simp only [List.length_drop, List.length_take]; rfl)) ?_
                                      with_reducible refine (strconv_Itoa.calls t196 t197 _ (hT.below (by repeat (first | (with_reducible first | exact HB.out | apply below_alloc | apply pw_below_drewN | apply below_drew1) | exact HB.out)) (Nat.le_refl _)) A15.out).mono ?_
                                      rintro e w32 ⟨rfl, hb⟩
                                      refine ⟨_, rfl, ?_⟩
                                      have n0_ := Aside0.mk (blk_below (g := gb192) (o := .cells #[.string a0_0, .int .i64 a0_1, .slice (some ad194) l0_2.length c0_2] 24 (0, 0)) (by (with_reducible repeat (first | refine blk_drewN ?_ _ | refine blk_drew ?_ | refine blk_alloc ?_ _)); exact BK192.out) hb)
                                      have n1_ := Aside0.mk (blk_below (g := gb195) (o := .cells #[.int .i64 ((rd_T50 l0_2 x19_1).f0), .int .i64 ((rd_T50 l0_2 x19_1).f1), .string ((rd_T50 l0_2 x19_1).f2)] 50 (0, 0)) (by (with_reducible repeat (first | refine blk_drewN ?_ _ | refine blk_drew ?_ | refine blk_alloc ?_ _)); exact BK195.out) hb)
                                      have n2_ := Aside0.mk (below_step (by repeat (first | (with_reducible first | exact HB.out | apply below_alloc | apply pw_below_drewN | apply below_drew1 | refine below_set ?_ GE192.out | refine below_set ?_ GE195.out) | exact HB.out)) hb)
                                      clear BK192
                                      clear BK195
                                      clear HB
                                      have BK192 := n0_
                                      have BK195 := n1_
                                      have HB := n2_
                                      clear n0_ n1_ n2_
                                      (try clear hb)
                                      (try clear hb2)
                                      (try clear hk)
                                      (try clear hi)
                                      refine hK.out _ _ ⟨(blk_cell BK195.out 0).trans rfl, (blk_cell BK195.out 1).trans rfl, (blk_cell BK195.out 2).trans rfl⟩ (fun hHeld => ?_)
                                      clear hK K
                                      refine norm_ (a' := ?_) ?_ ?_
                                      rotate_left
                                      · show Act.put _ (some 28) _ = _
                                        simp only [Act.put, List.setIfInBounds_toArray, List.set_cons_zero, List.set_cons_succ, i64_w, i32_w]
                                        rfl
                                      refine pure_ (i := 3) (N := some 29) (v := ?_) (a' := ?_) #[true, true, true, true, false, true, true, true, true, true, false, false, false, true, true, false, false, false, true, true, false, false, false, false] rfl rfl (any_of HT_.out (by kernel_rfl)) (fun _ _ _ h => h) (Or.inl ⟨by rfl, ?_⟩) ?_ ?_
                                      rotate_left
                                      · intro w'
                                        go_simp
                                        with_reducible rfl
                                      rotate_left
                                      · simp only [Act.put, List.setIfInBounds_toArray, List.set_cons_zero, List.set_cons_succ, i64_w, i32_w]
                                        rfl
                                      refine pure_ (i := 4) (N := some 30) (v := ?_) (a' := ?_) #[true, true, true, true, true, true, true, true, true, true, false, false, false, true, true, false, false, false, true, true, false, false, false, false] rfl rfl (any_of HT_.out (by kernel_rfl)) (fun _ _ _ h => h) (Or.inl ⟨by rfl, ?_⟩) ?_ ?_
                                      rotate_left
                                      · intro w'
                                        go_simp
                                        with_reducible rfl
                                      rotate_left
                                      · simp only [Act.put, List.setIfInBounds_toArray, List.set_cons_zero, List.set_cons_succ, i64_w, i32_w]
                                        rfl
                                      refine one_ (i := 10) (N := some 36) #[true, true, true, true, true, true, true, true, true, true, true, false, false, true, true, false, false, false, true, true, false, false, false, false] rfl rfl (one_of HT_.out (by kernel_rfl)) (by decide) (fun K hK => ?_)
                                      refine goes_ Tryd.func18 (by kernel_rfl) rfl #[.int .i64 (wrap64 (((rd_T50 l0_2 x19_1).f0) - (wrap64 (t196 * 86400000))))] (by rfl) rfl rfl (by (try simp only [List.map_toArray, List.map_cons, List.map_nil]); first | done | rfl | (simp only [List.length_drop, List.length_take]; rfl)) ?_
                                      with_reducible refine (strconv_Itoa.calls (wrap64 (((rd_T50 l0_2 x19_1).f0) - (wrap64 (t196 * 86400000)))) t198 _ (hT.below (by repeat (first | (with_reducible first | exact HB.out | apply below_alloc | apply pw_below_drewN | apply below_drew1) | exact HB.out)) (Nat.le_refl _)) A18.out).mono ?_
                                      rintro e w33 ⟨rfl, hb⟩
                                      refine ⟨_, rfl, ?_⟩
                                      have n0_ := Aside0.mk (blk_below (g := gb192) (o := .cells #[.string a0_0, .int .i64 a0_1, .slice (some ad194) l0_2.length c0_2] 24 (0, 0)) (by (with_reducible repeat (first | refine blk_drewN ?_ _ | refine blk_drew ?_ | refine blk_alloc ?_ _)); exact BK192.out) hb)
                                      have n1_ := Aside0.mk (blk_below (g := gb195) (o := .cells #[.int .i64 ((rd_T50 l0_2 x19_1).f0), .int .i64 ((rd_T50 l0_2 x19_1).f1), .string ((rd_T50 l0_2 x19_1).f2)] 50 (0, 0)) (by (with_reducible repeat (first | refine blk_drewN ?_ _ | refine blk_drew ?_ | refine blk_alloc ?_ _)); exact BK195.out) hb)
                                      have n2_ := Aside0.mk (below_step (by repeat (first | (with_reducible first | exact HB.out | apply below_alloc | apply pw_below_drewN | apply below_drew1 | refine below_set ?_ GE192.out | refine below_set ?_ GE195.out) | exact HB.out)) hb)
                                      clear BK192
                                      clear BK195
                                      clear HB
                                      have BK192 := n0_
                                      have BK195 := n1_
                                      have HB := n2_
                                      clear n0_ n1_ n2_
                                      (try clear hb)
                                      (try clear hb2)
                                      (try clear hk)
                                      (try clear hi)
                                      refine hK.out _ _ ⟨(blk_cell BK195.out 0).trans rfl, (blk_cell BK195.out 1).trans rfl, (blk_cell BK195.out 2).trans rfl⟩ (fun hHeld => ?_)
                                      clear hK K
                                      refine norm_ (a' := ?_) ?_ ?_
                                      rotate_left
                                      · show Act.put _ (some 36) _ = _
                                        simp only [Act.put, List.setIfInBounds_toArray, List.set_cons_zero, List.set_cons_succ, i64_w, i32_w]
                                        rfl
                                      refine pure_ (i := 11) (N := some 37) (v := ?_) (a' := ?_) #[true, true, true, true, true, true, true, true, true, true, true, true, false, true, true, false, false, false, true, true, false, false, false, false] rfl rfl (any_of HT_.out (by kernel_rfl)) (fun _ _ _ h => h) (Or.inl ⟨by rfl, ?_⟩) ?_ ?_
                                      rotate_left
                                      · intro w'
                                        go_simp
                                        with_reducible rfl
                                      rotate_left
                                      · simp only [Act.put, List.setIfInBounds_toArray, List.set_cons_zero, List.set_cons_succ, i64_w, i32_w]
                                        rfl
                                      refine pure_ (i := 12) (N := some 38) (v := ?_) (a' := ?_) #[true, true, true, true, true, true, true, true, true, true, true, true, true, true, true, false, false, false, true, true, false, false, false, false] rfl rfl (any_of HT_.out (by kernel_rfl)) (fun _ _ _ h => h) (Or.inl ⟨by rfl, ?_⟩) ?_ ?_
                                      rotate_left
                                      · intro w'
                                        go_simp
                                        with_reducible rfl
                                      rotate_left
                                      · simp only [Act.put, List.setIfInBounds_toArray, List.set_cons_zero, List.set_cons_succ, i64_w, i32_w]
                                        rfl
                                      refine one_ (i := 15) (N := some 41) #[true, true, true, true, true, true, true, true, true, true, true, true, true, true, true, true, false, false, true, true, false, false, false, false] rfl rfl (one_of HT_.out (by kernel_rfl)) (by decide) (fun K hK => ?_)
                                      refine goes_ Tryd.func24 (by kernel_rfl) rfl #[.int .i64 ((rd_T50 l0_2 x19_1).f1)] (by rfl) rfl rfl (by (try simp only [List.map_toArray, List.map_cons, List.map_nil]); first | done | rfl | (simp only [List.length_drop, List.length_take]; rfl)) ?_
                                      with_reducible refine (ephemerisref1_OffsetText.calls ((rd_T50 l0_2 x19_1).f1) t199 _ (hT.below (by repeat (first | (with_reducible first | exact HB.out | apply below_alloc | apply pw_below_drewN | apply below_drew1) | exact HB.out)) (Nat.le_refl _)) A21.out).mono ?_
                                      rintro e w34 ⟨rfl, hb⟩
                                      refine ⟨_, rfl, ?_⟩
                                      have n0_ := Aside0.mk (blk_below (g := gb192) (o := .cells #[.string a0_0, .int .i64 a0_1, .slice (some ad194) l0_2.length c0_2] 24 (0, 0)) (by (with_reducible repeat (first | refine blk_drewN ?_ _ | refine blk_drew ?_ | refine blk_alloc ?_ _)); exact BK192.out) hb)
                                      have n1_ := Aside0.mk (blk_below (g := gb195) (o := .cells #[.int .i64 ((rd_T50 l0_2 x19_1).f0), .int .i64 ((rd_T50 l0_2 x19_1).f1), .string ((rd_T50 l0_2 x19_1).f2)] 50 (0, 0)) (by (with_reducible repeat (first | refine blk_drewN ?_ _ | refine blk_drew ?_ | refine blk_alloc ?_ _)); exact BK195.out) hb)
                                      have n2_ := Aside0.mk (below_step (by repeat (first | (with_reducible first | exact HB.out | apply below_alloc | apply pw_below_drewN | apply below_drew1 | refine below_set ?_ GE192.out | refine below_set ?_ GE195.out) | exact HB.out)) hb)
                                      clear BK192
                                      clear BK195
                                      clear HB
                                      have BK192 := n0_
                                      have BK195 := n1_
                                      have HB := n2_
                                      clear n0_ n1_ n2_
                                      (try clear hb)
                                      (try clear hb2)
                                      (try clear hk)
                                      (try clear hi)
                                      refine hK.out _ _ ⟨(blk_cell BK195.out 0).trans rfl, (blk_cell BK195.out 1).trans rfl, (blk_cell BK195.out 2).trans rfl⟩ (fun hHeld => ?_)
                                      clear hK K
                                      refine norm_ (a' := ?_) ?_ ?_
                                      rotate_left
                                      · show Act.put _ (some 41) _ = _
                                        simp only [Act.put, List.setIfInBounds_toArray, List.set_cons_zero, List.set_cons_succ, i64_w, i32_w]
                                        rfl
                                      refine pure_ (i := 16) (N := some 42) (v := ?_) (a' := ?_) #[true, true, true, true, true, true, true, true, true, true, true, true, true, true, true, true, true, false, true, true, false, false, false, false] rfl rfl (any_of HT_.out (by kernel_rfl)) (fun _ _ _ h => h) (Or.inl ⟨by rfl, ?_⟩) ?_ ?_
                                      rotate_left
                                      · intro w'
                                        go_simp
                                        with_reducible rfl
                                      rotate_left
                                      · simp only [Act.put, List.setIfInBounds_toArray, List.set_cons_zero, List.set_cons_succ, i64_w, i32_w]
                                        rfl
                                      refine pure_ (i := 17) (N := some 43) (v := ?_) (a' := ?_) #[true, true, true, true, true, true, true, true, true, true, true, true, true, true, true, true, true, true, true, true, false, false, false, false] rfl rfl (any_of HT_.out (by kernel_rfl)) (fun _ _ _ h => h) (Or.inl ⟨by rfl, ?_⟩) ?_ ?_
                                      rotate_left
                                      · intro w'
                                        go_simp
                                        with_reducible rfl
                                      rotate_left
                                      · simp only [Act.put, List.setIfInBounds_toArray, List.set_cons_zero, List.set_cons_succ, i64_w, i32_w]
                                        rfl
                                      refine pure_ (i := 20) (N := some 46) (v := ?_) (a' := ?_) #[true, true, true, true, true, true, true, true, true, true, true, true, true, true, true, true, true, true, true, true, true, false, false, false] rfl rfl (any_of HT_.out (by kernel_rfl)) (fun _ _ _ h => h) (Or.inl ⟨by rfl, ?_⟩) ?_ ?_
                                      rotate_left
                                      · intro w'
                                        go_simp
                                        with_reducible rfl
                                      rotate_left
                                      · simp only [Act.put, List.setIfInBounds_toArray, List.set_cons_zero, List.set_cons_succ, i64_w, i32_w]
                                        rfl
                                      refine pure_ (i := 21) (N := some 47) (v := ?_) (a' := ?_) #[true, true, true, true, true, true, true, true, true, true, true, true, true, true, true, true, true, true, true, true, true, true, false, false] rfl rfl (any_of HT_.out (by kernel_rfl)) (fun _ _ _ h => h) (Or.inl ⟨by rfl, ?_⟩) ?_ ?_
                                      rotate_left
                                      · intro w'
                                        go_simp
                                        with_reducible rfl
                                      rotate_left
                                      · simp only [Act.put, List.setIfInBounds_toArray, List.set_cons_zero, List.set_cons_succ, i64_w, i32_w]
                                        rfl
                                      refine pure_ (i := 22) (N := some 48) (v := ?_) (a' := ?_) #[true, true, true, true, true, true, true, true, true, true, true, true, true, true, true, true, true, true, true, true, true, true, true, false] rfl rfl (any_of HT_.out (by kernel_rfl)) (fun _ _ _ h => h) (Or.inl ⟨by rfl, ?_⟩) ?_ ?_
                                      rotate_left
                                      · intro w'
                                        go_simp
                                        with_reducible rfl
                                      rotate_left
                                      · simp only [Act.put, List.setIfInBounds_toArray, List.set_cons_zero, List.set_cons_succ, i64_w, i32_w]
                                        rfl
                                      refine pure_ (i := 23) (N := some 3) (v := ?_) (a' := ?_) #[true, true, true, true, true, true, true, true, true, true, true, true, true, true, true, true, true, true, true, true, true, true, true, true] rfl rfl (any_of HT_.out (by kernel_rfl)) (fun _ _ _ h => h) (Or.inl ⟨by rfl, ?_⟩) ?_ ?_
                                      rotate_left
                                      · intro w'
                                        go_simp
                                        with_reducible rfl
                                      rotate_left
                                      · simp only [Act.put, List.setIfInBounds_toArray, List.set_cons_zero, List.set_cons_succ, i64_w, i32_w]
                                        rfl
                                      refine done_ (done_of HT_.out (by kernel_rfl)) ?_
                                      try go_wp2
                                      go_roundg k1
                                      case measure => have := HK1.out; omega
                                      case rel => exact ⟨(x3_1 ++ (((((((((⟨#[97, 116, 32]⟩ : ByteArray) ++ t197) ++ (⟨#[32]⟩ : ByteArray)) ++ t198) ++ (⟨#[32]⟩ : ByteArray)) ++ t199) ++ (⟨#[32]⟩ : ByteArray)) ++ ((rd_T50 l0_2 x19_1).f2)) ++ (⟨#[10]⟩ : ByteArray))), (wrap64 (x19_1 + 1)), (by first | rfl | (simp; done) | (simp [*]; done)), (by first | rfl | (simp; done) | (simp [*]; done)), H', ⟨by have := HK1.out; omega⟩, ⟨by (with_reducible repeat (first | refine blk_drewN ?_ _ | refine blk_drew ?_ | refine blk_alloc ?_ _)); exact BK192.out⟩, ⟨by repeat (first | (with_reducible first | exact HB.out | apply below_alloc | apply pw_below_drewN | apply below_drew1 | refine below_set ?_ GE192.out | refine below_set ?_ GE195.out) | exact HB.out)⟩⟩
                                    · rw [if_neg c26] at H
                                      exact absurd H (by simp)
                                  · rw [if_neg c25] at H
                                    exact absurd H (by simp)
                                · rw [if_neg c24] at H
                                  exact absurd H (by simp)
                              · rw [if_neg c23] at H
                                exact absurd H (by simp)
                            · rw [if_neg c22] at H
                              exact absurd H (by simp)
                          · rw [if_neg c20] at H
                            exact absurd H (by simp)
                        · rw [if_neg c19] at H
                          exact absurd H (by simp)
                      · rw [if_neg c17] at H
                        exact absurd H (by simp)
                    · rw [if_neg c16] at H
                      exact absurd H (by simp)
                  · rw [if_neg c13] at H
                    exact absurd H (by simp)
                · rw [if_neg c12] at H
                  exact absurd H (by simp)
              · rw [if_neg c11] at H
                have c11b0 : decide (x19_1 < (l0_2.length : Int)) = false := decide_eq_false c11
                clear c11
                obtain rfl := Option.some.inj H
                go_wp2
                go_ret
                exact ⟨by first | rfl | (simp [errW_none, errW_some] <;> rfl) | (simp [*, errW_none, errW_some] <;> rfl), by repeat (first | (with_reducible first | exact HB.out | apply below_alloc | apply pw_below_drewN | apply below_drew1 | refine below_set ?_ GE192.out) | exact HB.out)⟩
        · rw [if_neg c6] at H
          exact absurd H (by simp)
      · rw [if_neg c5] at H
        exact absurd H (by simp)
    · rw [if_neg c3] at H
      exact absurd H (by simp)
  · rw [if_neg c2] at H
    exact absurd H (by simp)

/-! ### ephemerislaw1_ZonetextPrints: function 3 -/
def ephemerislaw1_ZonetextPrints.j0 : Nat → Bool → ByteArray → Int → List (S50) → Option (Bool)
  | 0, _, _, _, _ => none
  | k + 1, x18, x201000, x201001, x201002 => if x18 = true then (some false) else ((zonetext_Print.f k x201000 x201001 x201002).bind fun bt208 => ((ephemerisref1_ZoneError.f k x201000 x201001 x201002).bind fun t210 => (if t210 = 0 then (if bt208.2 = 0 then ((ephemerisref1_ZoneText.f k x201000 x201001 x201002).bind fun t211 => (some (bt208.1.toList == t211.toList))) else (some false)) else (if bt208.1.toList = ([] : List UInt8) then (some (bt208.2 == t210)) else (some false)))))
def ephemerislaw1_ZonetextPrints.f (k : Nat) (a0_0 : ByteArray) (a0_1 : Int) (l0_2 : List (S50)) : Option (Bool) := (ephemerislaw1_base.f).bind fun bt201 => ((zonetext_Print.f k bt201.1 bt201.2.1 bt201.2.2).bind fun bt206 => (if bt206.1.toList = ([122, 111, 110, 101, 32, 98, 97, 115, 101, 32, 43, 48, 49, 58, 48, 48, 58, 48, 48, 10, 97, 116, 32, 48, 32, 48, 32, 43, 48, 50, 58, 48, 48, 58, 48, 48, 32, 83, 85, 77, 10] : List UInt8) then (ephemerislaw1_ZonetextPrints.j0 k (bt206.2 != 0) a0_0 a0_1 l0_2) else (ephemerislaw1_ZonetextPrints.j0 k true a0_0 a0_1 l0_2)))
theorem ephemerislaw1_ZonetextPrints.mono_l : ∀ k, (∀ y0 y1 y2 y3, LeO (ephemerislaw1_ZonetextPrints.j0 k y0 y1 y2 y3) (ephemerislaw1_ZonetextPrints.j0 (k + 1) y0 y1 y2 y3))
  | 0 => fun _ _ _ _ r h => by simp [ephemerislaw1_ZonetextPrints.j0] at h
  | k + 1 => by
    have ih0 := ephemerislaw1_ZonetextPrints.mono_l k
    · intro y0 y1 y2 y3
      unfold ephemerislaw1_ZonetextPrints.j0
      repeat' first
      | (with_reducible exact ih0 _ _ _ _)
      | (with_reducible exact ephemerisref1_ZoneError.mono _ _ _ _)
      | (with_reducible exact ephemerisref1_ZoneText.mono _ _ _ _)
      | (with_reducible exact zonetext_Print.mono _ _ _ _)
      | (with_reducible exact LeO.refl _)
      | (with_reducible exact LeO.none _)
      | (with_reducible refine LeO.ite ?_ ?_)
      | (with_reducible refine LeO.bind ?_ (fun _ => ?_))
      | exact ih0 _ _ _ _
      | exact ephemerisref1_ZoneError.mono _ _ _ _
      | exact ephemerisref1_ZoneText.mono _ _ _ _
      | exact zonetext_Print.mono _ _ _ _
      | exact LeO.none _
      | refine LeO.ite ?_ ?_
      | refine LeO.bind ?_ (fun _ => ?_)
theorem ephemerislaw1_ZonetextPrints.mono : ∀ a0 a1 a2 k, LeO (ephemerislaw1_ZonetextPrints.f k a0 a1 a2) (ephemerislaw1_ZonetextPrints.f (k + 1) a0 a1 a2) := by
  intro a0 a1 a2 k
  have ih0 := ephemerislaw1_ZonetextPrints.mono_l k
  unfold ephemerislaw1_ZonetextPrints.f
  repeat' first
      | (with_reducible exact ih0 _ _ _ _)
      | (with_reducible exact ephemerisref1_ZoneError.mono _ _ _ _)
      | (with_reducible exact ephemerisref1_ZoneText.mono _ _ _ _)
      | (with_reducible exact zonetext_Print.mono _ _ _ _)
      | (with_reducible exact LeO.refl _)
      | (with_reducible exact LeO.none _)
      | (with_reducible refine LeO.ite ?_ ?_)
      | (with_reducible refine LeO.bind ?_ (fun _ => ?_))
      | exact ih0 _ _ _ _
      | exact ephemerisref1_ZoneError.mono _ _ _ _
      | exact ephemerisref1_ZoneText.mono _ _ _ _
      | exact zonetext_Print.mono _ _ _ _
      | exact LeO.none _
      | refine LeO.ite ?_ ?_
      | refine LeO.bind ?_ (fun _ => ?_)
set_option maxHeartbeats 8000000 in
set_option maxRecDepth 100000 in
theorem ephemerislaw1_ZonetextPrints.calls (k : Nat) (a0_0 : ByteArray) (a0_1 : Int) (A0_2 : Option Addr) (c0_2 : Nat) (l0_2 : List (S50)) (r : Bool) (w : World) (hr0_2 : Kd.C k50 w A0_2 l0_2.length l0_2) (hc0_2 : l0_2.length ≤ c0_2) (hT : strconv_Itoa.Tab w) (h : ephemerislaw1_ZonetextPrints.f k a0_0 a0_1 l0_2 = some r) :
    Calls Tryd.prog 3 #[.agg #[.string a0_0, .int .i64 a0_1, .slice A0_2 l0_2.length c0_2]] w fun e w' => e = .returned (.bool r) ∧ Below w.heap.size w w' := by
  have hu24 := Tryd.underlying24
  have HR0_2 := Aside0.mk hr0_2
  have HC0_2 := Aside0.mk hc0_2
  clear hr0_2 hc0_2
  have HB := Aside0.mk (Below.refl w.heap.size w)
  have H : ((ephemerislaw1_base.f).bind fun bt201 => ((zonetext_Print.f k bt201.1 bt201.2.1 bt201.2.2).bind fun bt206 => (if bt206.1.toList = ([122, 111, 110, 101, 32, 98, 97, 115, 101, 32, 43, 48, 49, 58, 48, 48, 58, 48, 48, 10, 97, 116, 32, 48, 32, 48, 32, 43, 48, 50, 58, 48, 48, 58, 48, 48, 32, 83, 85, 77, 10] : List UInt8) then (ephemerislaw1_ZonetextPrints.j0 k (bt206.2 != 0) a0_0 a0_1 l0_2) else (ephemerislaw1_ZonetextPrints.j0 k true a0_0 a0_1 l0_2)))) = some r := h
  clear h
  replace H := Option.bind_eq_some_iff.mp H
  obtain ⟨⟨t201, t202, t203⟩, A20, H⟩ := H
  replace H : ((zonetext_Print.f k t201 t202 t203).bind fun bt206 => (if bt206.1.toList = ([122, 111, 110, 101, 32, 98, 97, 115, 101, 32, 43, 48, 49, 58, 48, 48, 58, 48, 48, 10, 97, 116, 32, 48, 32, 48, 32, 43, 48, 50, 58, 48, 48, 58, 48, 48, 32, 83, 85, 77, 10] : List UInt8) then (ephemerislaw1_ZonetextPrints.j0 k (bt206.2 != 0) a0_0 a0_1 l0_2) else (ephemerislaw1_ZonetextPrints.j0 k true a0_0 a0_1 l0_2))) = some r := H
  have A2 := Aside0.mk A20
  clear A20
  replace H := Option.bind_eq_some_iff.mp H
  obtain ⟨⟨t206, t207⟩, A30, H⟩ := H
  replace H : (if t206.toList = ([122, 111, 110, 101, 32, 98, 97, 115, 101, 32, 43, 48, 49, 58, 48, 48, 58, 48, 48, 10, 97, 116, 32, 48, 32, 48, 32, 43, 48, 50, 58, 48, 48, 58, 48, 48, 32, 83, 85, 77, 10] : List UInt8) then (ephemerislaw1_ZonetextPrints.j0 k (t207 != 0) a0_0 a0_1 l0_2) else (ephemerislaw1_ZonetextPrints.j0 k true a0_0 a0_1 l0_2)) = some r := H
  have A3 := Aside0.mk A30
  clear A30
  have HC4 := Aside0.mk H
  clear H
  go_enter Tryd.func3, Tryd.ntmps3
  go_upto_region 2 with (first | ((with_reducible refine gate_dst (N := 1) rfl ?_); refine box_event ?hg (N := 1) ?hd (cs := #[.string a0_0, .int .i64 a0_1, .slice A0_2 l0_2.length c0_2]) (t := 24) ?hr ?_; (case hd => rfl); (case hg => rfl); (case hr => first | (go_simp; done) | (go_simp; rfl)); intro gb200 hg w5 hbox hb; have n0_ := Aside0.mk (below_step (by repeat (first | (with_reducible first | exact HB.out | apply below_alloc | apply pw_below_drewN | apply below_drew1) | exact HB.out)) hb); have n1_ := Aside0.mk (hbox); have n2_ := Aside0.mk ((by rw [hg]; exact (below_size (by repeat (first | (with_reducible first | exact HB.out | apply below_alloc | apply pw_below_drewN | apply below_drew1) | exact HB.out))) : w.heap.size ≤ gb200)); have n3_ := Aside0.mk ((by rw [hg]; exact (below_size (by repeat (first | (with_reducible first | exact HB.out | apply below_alloc | apply pw_below_drewN | apply below_drew1) | exact HB.out))) : w.heap.size ≤ gb200)); clear HB; have HB := n0_; have BK200 := n1_; have GW200 := n2_; have GE200 := n3_; clear n0_ n1_ n2_ n3_; clear hb hbox hg) | ((with_reducible refine gate_callee (f := 6) rfl ?_); refine goesL_ (some 9) rfl rfl Tryd.func6 (by kernel_rfl) rfl #[] rfl (by (try simp only [List.map_toArray, List.map_cons, List.map_nil]); first | done | rfl | (simp only [List.length_drop, List.length_take]; rfl)) ?_; (with_reducible refine (ephemerislaw1_base.calls  t201 t202 t203 _ A2.out).mono ?_); rintro e w6 ⟨v204, rfl, ho0, hb⟩; refine ⟨_, rfl, ?_⟩; have n0_ := Aside0.mk (Kd.R_lower ho0 (below_size (by repeat (first | (with_reducible first | exact HB.out | apply below_alloc | apply pw_below_drewN | apply below_drew1 | refine below_set ?_ GE200.out) | exact HB.out)))); have n1_ := Aside0.mk (blk_below (g := gb200) (o := .cells #[.string a0_0, .int .i64 a0_1, .slice A0_2 l0_2.length c0_2] 24 (0, 0)) (by (with_reducible repeat (first | refine blk_drewN ?_ _ | refine blk_drew ?_ | refine blk_alloc ?_ _)); exact BK200.out) hb); have n2_ := Aside0.mk (below_step (by repeat (first | (with_reducible first | exact HB.out | apply below_alloc | apply pw_below_drewN | apply below_drew1 | refine below_set ?_ GE200.out) | exact HB.out)) hb); clear BK200; clear HB; have HO205 := n0_; have BK200 := n1_; have HB := n2_; clear n0_ n1_ n2_; (try clear hb); (try clear hb2); (try clear hk); (try clear hi); (try clear ho0); obtain ⟨Ao7, co7, eo7⟩ := Kd.R_slice HO205.out; subst eo7) | ((with_reducible refine gate_callee (f := 5) rfl ?_); refine goesL_ (some 10) rfl rfl Tryd.func5 (by kernel_rfl) rfl #[.agg #[.string t201, .int .i64 t202, .slice Ao7 t203.length co7]] rfl (by (try simp only [List.map_toArray, List.map_cons, List.map_nil]); first | done | rfl | (simp only [List.length_drop, List.length_take]; rfl)) ?_; (with_reducible refine (zonetext_Print.calls k t201 t202 _ _ t203 t206 t207 _ ?side1 ?side2 (hT.below (by repeat (first | (with_reducible first | exact HB.out | apply below_alloc | apply pw_below_drewN | apply below_drew1) | exact HB.out)) (Nat.le_refl _)) A3.out).mono ?_); (case side1 => repeat (first | exact (Kd.R_reads' HO205.out).2.2 | (with_reducible refine Kd.C_alloc ?_ _) | (with_reducible refine Kd.C_drewN ?_ _) | (with_reducible refine Kd.C_drew ?_))); (case side2 => exact (Kd.R_reads' HO205.out).2.1); rintro e w8 ⟨rfl, hb⟩; refine ⟨_, rfl, ?_⟩; have n0_ := Aside0.mk (Kd.R_below (by (with_reducible repeat (first | apply Kd.R_alloc | apply Kd.R_drewN | apply Kd.R_drew)); exact HO205.out) hb); have n1_ := Aside0.mk (blk_below (g := gb200) (o := .cells #[.string a0_0, .int .i64 a0_1, .slice A0_2 l0_2.length c0_2] 24 (0, 0)) (by (with_reducible repeat (first | refine blk_drewN ?_ _ | refine blk_drew ?_ | refine blk_alloc ?_ _)); exact BK200.out) hb); have n2_ := Aside0.mk (below_step (by repeat (first | (with_reducible first | exact HB.out | apply below_alloc | apply pw_below_drewN | apply below_drew1 | refine below_set ?_ GE200.out) | exact HB.out)) hb); clear HO205; clear BK200; clear HB; have HO205 := n0_; have BK200 := n1_; have HB := n2_; clear n0_ n1_ n2_; (try clear hb); (try clear hb2); (try clear hk); (try clear hi)))
  (try simp only [Act.put, List.setIfInBounds_toArray, List.set_cons_zero, List.set_cons_succ])
  go_cut [18] (fun v18 wc => ∃ (kq : Nat) (x18_3 : Bool), v18 = .bool x18_3 ∧ Aside0 (ephemerislaw1_ZonetextPrints.j0 kq x18_3 a0_0 a0_1 l0_2 = some r) ∧ Aside0 (kq ≤ k) ∧ Aside0 (wc.heap[gb200]? = some (.cells #[.string a0_0, .int .i64 a0_1, (.slice A0_2 l0_2.length c0_2)] 24 (0, 0))) ∧ Aside0 (Below w.heap.size w wc))
  case first =>
    have H := HC4.out
    clear HC4
    by_cases c9 : t206.toList = ([122, 111, 110, 101, 32, 98, 97, 115, 101, 32, 43, 48, 49, 58, 48, 48, 58, 48, 48, 10, 97, 116, 32, 48, 32, 48, 32, 43, 48, 50, 58, 48, 48, 58, 48, 48, 32, 83, 85, 77, 10] : List UInt8)
    · rw [if_pos c9] at H
      have c9b0 : (t206.toList == ([122, 111, 110, 101, 32, 98, 97, 115, 101, 32, 43, 48, 49, 58, 48, 48, 58, 48, 48, 10, 97, 116, 32, 48, 32, 48, 32, 43, 48, 50, 58, 48, 48, 58, 48, 48, 32, 83, 85, 77, 10] : List UInt8)) = true := beq_iff_eq.mpr c9
      have c9b1 : (t206.toList != ([122, 111, 110, 101, 32, 98, 97, 115, 101, 32, 43, 48, 49, 58, 48, 48, 58, 48, 48, 10, 97, 116, 32, 48, 32, 48, 32, 43, 48, 50, 58, 48, 48, 58, 48, 48, 32, 83, 85, 77, 10] : List UInt8)) = false := bne_eq_false_iff_eq.mpr c9
      clear c9
      (first | rw [c9b0] | (simp only [i64_w, i32_w]; rw [c9b0]) | skip)
      have H' := Aside0.mk H
      clear H
      go_wp2
      go_meet
      case rel => exact ⟨_, ((t207 != 0)), (by first | rfl | (simp; done) | (simp [*]; done)), H', ⟨by first | omega | exact Nat.le_refl _⟩, ⟨by (with_reducible repeat (first | refine blk_drewN ?_ _ | refine blk_drew ?_ | refine blk_alloc ?_ _)); exact BK200.out⟩, ⟨by repeat (first | (with_reducible first | exact HB.out | apply below_alloc | apply pw_below_drewN | apply below_drew1 | refine below_set ?_ GE200.out) | exact HB.out)⟩⟩
    · rw [if_neg c9] at H
      have c9b0 : (t206.toList == ([122, 111, 110, 101, 32, 98, 97, 115, 101, 32, 43, 48, 49, 58, 48, 48, 58, 48, 48, 10, 97, 116, 32, 48, 32, 48, 32, 43, 48, 50, 58, 48, 48, 58, 48, 48, 32, 83, 85, 77, 10] : List UInt8)) = false := beq_eq_false_iff_ne.mpr c9
      have c9b1 : (t206.toList != ([122, 111, 110, 101, 32, 98, 97, 115, 101, 32, 43, 48, 49, 58, 48, 48, 58, 48, 48, 10, 97, 116, 32, 48, 32, 48, 32, 43, 48, 50, 58, 48, 48, 58, 48, 48, 32, 83, 85, 77, 10] : List UInt8)) = true := bne_iff_ne.mpr c9
      (first | rw [c9b0] | (simp only [i64_w, i32_w]; rw [c9b0]) | skip)
      have H' := Aside0.mk H
      clear H
      go_wp2
      go_meet
      case rel => exact ⟨_, (true), (by first | rfl | (simp; done) | (simp [*]; done)), H', ⟨by first | omega | exact Nat.le_refl _⟩, ⟨by (with_reducible repeat (first | refine blk_drewN ?_ _ | refine blk_drew ?_ | refine blk_alloc ?_ _)); exact BK200.out⟩, ⟨by repeat (first | (with_reducible first | exact HB.out | apply below_alloc | apply pw_below_drewN | apply below_drew1 | refine below_set ?_ GE200.out) | exact HB.out)⟩⟩
  case rest =>
    clear HC4
    try clear p2
    try clear c3
    try clear c5
    try clear c6
    try clear c9
    try clear c9b0
    try clear c9b1
    obtain ⟨kq, x18_3, rfl, HA, HJ3, BK200, HB⟩ := hcut
    cases kq with
    | zero => exact absurd HA.out (by simp [ephemerislaw1_ZonetextPrints.j0])
    | succ kj3 =>
      have H := HA.out
      clear HA
      simp only [ephemerislaw1_ZonetextPrints.j0] at H
      by_cases c10 : x18_3 = true
      · subst c10
        have H1 : (some false) = some r := by rw [if_pos rfl] at H; exact H
        clear H
        have H := H1
        clear H1
        obtain rfl := Option.some.inj H
        go_wp2
        go_ret
        exact ⟨by first | rfl | (simp [errW_none, errW_some] <;> rfl) | (simp [*, errW_none, errW_some] <;> rfl), by repeat (first | (with_reducible first | exact HB.out | apply below_alloc | apply pw_below_drewN | apply below_drew1 | refine below_set ?_ GE200.out) | exact HB.out)⟩
      · replace c10 := Bool.eq_false_iff.mpr c10
        subst c10
        have H1 : ((zonetext_Print.f kj3 a0_0 a0_1 l0_2).bind fun bt208 => ((ephemerisref1_ZoneError.f kj3 a0_0 a0_1 l0_2).bind fun t210 => (if t210 = 0 then (if bt208.2 = 0 then ((ephemerisref1_ZoneText.f kj3 a0_0 a0_1 l0_2).bind fun t211 => (some (bt208.1.toList == t211.toList))) else (some false)) else (if bt208.1.toList = ([] : List UInt8) then (some (bt208.2 == t210)) else (some false))))) = some r := by rw [if_neg (show ¬ (false = true) by decide)] at H; exact H
        clear H
        have H := H1
        clear H1
        replace H := Option.bind_eq_some_iff.mp H
        obtain ⟨⟨t208, t209⟩, A110, H⟩ := H
        replace H : ((ephemerisref1_ZoneError.f kj3 a0_0 a0_1 l0_2).bind fun t210 => (if t210 = 0 then (if t209 = 0 then ((ephemerisref1_ZoneText.f kj3 a0_0 a0_1 l0_2).bind fun t211 => (some (t208.toList == t211.toList))) else (some false)) else (if t208.toList = ([] : List UInt8) then (some (t209 == t210)) else (some false)))) = some r := H
        have A11 := Aside0.mk A110
        clear A110
        replace H := Option.bind_eq_some_iff.mp H
        obtain ⟨t210, A120, H⟩ := H
        replace H : (if t210 = 0 then (if t209 = 0 then ((ephemerisref1_ZoneText.f kj3 a0_0 a0_1 l0_2).bind fun t211 => (some (t208.toList == t211.toList))) else (some false)) else (if t208.toList = ([] : List UInt8) then (some (t209 == t210)) else (some false))) = some r := H
        have A12 := Aside0.mk A120
        clear A120
        by_cases c13 : t210 = 0
        · rw [if_pos c13] at H
          have c13b0 : (t210 == 0) = true := beq_iff_eq.mpr c13
          have c13b1 : (t210 != 0) = false := bne_eq_false_iff_eq.mpr c13
          clear c13
          by_cases c14 : t209 = 0
          · rw [if_pos c14] at H
            have c14b0 : (t209 == 0) = true := beq_iff_eq.mpr c14
            have c14b1 : (t209 != 0) = false := bne_eq_false_iff_eq.mpr c14
            clear c14
            replace H := Option.bind_eq_some_iff.mp H
            obtain ⟨t211, A150, H⟩ := H
            replace H : (some (t208.toList == t211.toList)) = some r := H
            have A15 := Aside0.mk A150
            clear A150
            obtain rfl := Option.some.inj H
            have hcz16_0 : wc.cell? ⟨gb200, 0, none⟩ = some (.string a0_0) := (blk_cell BK200.out 0).trans rfl
            have hcz16_1 : wc.cell? ⟨gb200, 1, none⟩ = some (.int .i64 a0_1) := (blk_cell BK200.out 1).trans rfl
            have hcz16_2 : wc.cell? ⟨gb200, 2, none⟩ = some (.slice A0_2 l0_2.length c0_2) := (blk_cell BK200.out 2).trans rfl
            have hfz16_0 := blk_frozen BK200.out 0
            have hfz16_1 := blk_frozen BK200.out 1
            have hfz16_2 := blk_frozen BK200.out 2
            go_wp2_with (first | ((with_reducible refine gate_callee (f := 5) rfl ?_); refine goesL_ (some 21) rfl rfl Tryd.func5 (by kernel_rfl) rfl #[.agg #[.string a0_0, .int .i64 a0_1, .slice A0_2 l0_2.length c0_2]] rfl (by (try simp only [List.map_toArray, List.map_cons, List.map_nil]); first | done | rfl | (simp only [List.length_drop, List.length_take]; rfl)) ?_; (with_reducible refine (zonetext_Print.calls kj3 a0_0 a0_1 _ _ l0_2 t208 t209 _ ?side1 ?side2 (hT.below (by repeat (first | (with_reducible first | exact HB.out | apply below_alloc | apply pw_below_drewN | apply below_drew1) | exact HB.out)) (Nat.le_refl _)) A11.out).mono ?_); (case side1 => repeat (first | exact (Kd.C_below HR0_2.out HB.out) | (with_reducible refine Kd.C_alloc ?_ _) | (with_reducible refine Kd.C_drewN ?_ _) | (with_reducible refine Kd.C_drew ?_))); (case side2 => exact HC0_2.out); rintro e w17 ⟨rfl, hb⟩; refine ⟨_, rfl, ?_⟩; have n0_ := Aside0.mk (blk_below (g := gb200) (o := .cells #[.string a0_0, .int .i64 a0_1, .slice A0_2 l0_2.length c0_2] 24 (0, 0)) (by (with_reducible repeat (first | refine blk_drewN ?_ _ | refine blk_drew ?_ | refine blk_alloc ?_ _)); exact BK200.out) hb); have n1_ := Aside0.mk (below_step (by repeat (first | (with_reducible first | exact HB.out | apply below_alloc | apply pw_below_drewN | apply below_drew1 | refine below_set ?_ GE200.out) | exact HB.out)) hb); clear BK200; clear HB; have BK200 := n0_; have HB := n1_; clear n0_ n1_; (try clear hb); (try clear hb2); (try clear hk); (try clear hi); have hcz18_0 : w17.cell? ⟨gb200, 0, none⟩ = some (.string a0_0) := (blk_cell BK200.out 0).trans rfl; have hcz18_1 : w17.cell? ⟨gb200, 1, none⟩ = some (.int .i64 a0_1) := (blk_cell BK200.out 1).trans rfl; have hcz18_2 : w17.cell? ⟨gb200, 2, none⟩ = some (.slice A0_2 l0_2.length c0_2) := (blk_cell BK200.out 2).trans rfl; have hfz18_0 := blk_frozen BK200.out 0; have hfz18_1 := blk_frozen BK200.out 1; have hfz18_2 := blk_frozen BK200.out 2) | ((with_reducible refine gate_callee (f := 7) rfl ?_); refine goesL_ (some 25) rfl rfl Tryd.func7 (by kernel_rfl) rfl #[.agg #[.string a0_0, .int .i64 a0_1, .slice A0_2 l0_2.length c0_2]] rfl (by (try simp only [List.map_toArray, List.map_cons, List.map_nil]); first | done | rfl | (simp only [List.length_drop, List.length_take]; rfl)) ?_; (with_reducible refine (ephemerisref1_ZoneError.calls kj3 a0_0 a0_1 _ _ l0_2 t210 _ ?side1 ?side2 A12.out).mono ?_); (case side1 => repeat (first | exact (Kd.C_below HR0_2.out HB.out) | (with_reducible refine Kd.C_alloc ?_ _) | (with_reducible refine Kd.C_drewN ?_ _) | (with_reducible refine Kd.C_drew ?_))); (case side2 => exact HC0_2.out); rintro e w19 ⟨rfl, hb⟩; refine ⟨_, rfl, ?_⟩; have n0_ := Aside0.mk (blk_below (g := gb200) (o := .cells #[.string a0_0, .int .i64 a0_1, .slice A0_2 l0_2.length c0_2] 24 (0, 0)) (by (with_reducible repeat (first | refine blk_drewN ?_ _ | refine blk_drew ?_ | refine blk_alloc ?_ _)); exact BK200.out) hb); have n1_ := Aside0.mk (below_step (by repeat (first | (with_reducible first | exact HB.out | apply below_alloc | apply pw_below_drewN | apply below_drew1 | refine below_set ?_ GE200.out) | exact HB.out)) hb); clear BK200; clear HB; have BK200 := n0_; have HB := n1_; clear n0_ n1_; (try clear hb); (try clear hb2); (try clear hk); (try clear hi); have hcz20_0 : w19.cell? ⟨gb200, 0, none⟩ = some (.string a0_0) := (blk_cell BK200.out 0).trans rfl; have hcz20_1 : w19.cell? ⟨gb200, 1, none⟩ = some (.int .i64 a0_1) := (blk_cell BK200.out 1).trans rfl; have hcz20_2 : w19.cell? ⟨gb200, 2, none⟩ = some (.slice A0_2 l0_2.length c0_2) := (blk_cell BK200.out 2).trans rfl; have hfz20_0 := blk_frozen BK200.out 0; have hfz20_1 := blk_frozen BK200.out 1; have hfz20_2 := blk_frozen BK200.out 2) | (go_at_call 8; (with_reducible refine (ephemerisref1_ZoneText.calls kj3 a0_0 a0_1 _ _ l0_2 t211 _ ?side1 ?side2 (hT.below (by repeat (first | (with_reducible first | exact HB.out | apply below_alloc | apply pw_below_drewN | apply below_drew1) | exact HB.out)) (Nat.le_refl _)) A15.out).mono ?_); (case side1 => repeat (first | exact (Kd.C_below HR0_2.out HB.out) | (with_reducible refine Kd.C_alloc ?_ _) | (with_reducible refine Kd.C_drewN ?_ _) | (with_reducible refine Kd.C_drew ?_))); (case side2 => exact HC0_2.out); rintro e w21 ⟨rfl, hb⟩; have n0_ := Aside0.mk (blk_below (g := gb200) (o := .cells #[.string a0_0, .int .i64 a0_1, .slice A0_2 l0_2.length c0_2] 24 (0, 0)) (by (with_reducible repeat (first | refine blk_drewN ?_ _ | refine blk_drew ?_ | refine blk_alloc ?_ _)); exact BK200.out) hb); have n1_ := Aside0.mk (below_step (by repeat (first | (with_reducible first | exact HB.out | apply below_alloc | apply pw_below_drewN | apply below_drew1 | refine below_set ?_ GE200.out) | exact HB.out)) hb); clear BK200; clear HB; have BK200 := n0_; have HB := n1_; clear n0_ n1_; (try clear hb); (try clear hb2); (try clear hk); (try clear hi)))
            go_ret
            exact ⟨by first | rfl | (simp [errW_none, errW_some] <;> rfl) | (simp [*, errW_none, errW_some] <;> rfl), by repeat (first | (with_reducible first | exact HB.out | apply below_alloc | apply pw_below_drewN | apply below_drew1 | refine below_set ?_ GE200.out) | exact HB.out)⟩
          · rw [if_neg c14] at H
            have c14b0 : (t209 == 0) = false := beq_eq_false_iff_ne.mpr c14
            have c14b1 : (t209 != 0) = true := bne_iff_ne.mpr c14
            obtain rfl := Option.some.inj H
            have hcz22_0 : wc.cell? ⟨gb200, 0, none⟩ = some (.string a0_0) := (blk_cell BK200.out 0).trans rfl
            have hcz22_1 : wc.cell? ⟨gb200, 1, none⟩ = some (.int .i64 a0_1) := (blk_cell BK200.out 1).trans rfl
            have hcz22_2 : wc.cell? ⟨gb200, 2, none⟩ = some (.slice A0_2 l0_2.length c0_2) := (blk_cell BK200.out 2).trans rfl
            have hfz22_0 := blk_frozen BK200.out 0
            have hfz22_1 := blk_frozen BK200.out 1
            have hfz22_2 := blk_frozen BK200.out 2
            go_wp2_with (first | ((with_reducible refine gate_callee (f := 5) rfl ?_); refine goesL_ (some 21) rfl rfl Tryd.func5 (by kernel_rfl) rfl #[.agg #[.string a0_0, .int .i64 a0_1, .slice A0_2 l0_2.length c0_2]] rfl (by (try simp only [List.map_toArray, List.map_cons, List.map_nil]); first | done | rfl | (simp only [List.length_drop, List.length_take]; rfl)) ?_; (with_reducible refine (zonetext_Print.calls kj3 a0_0 a0_1 _ _ l0_2 t208 t209 _ ?side1 ?side2 (hT.below (by repeat (first | (with_reducible first | exact HB.out | apply below_alloc | apply pw_below_drewN | apply below_drew1) | exact HB.out)) (Nat.le_refl _)) A11.out).mono ?_); (case side1 => repeat (first | exact (Kd.C_below HR0_2.out HB.out) | (with_reducible refine Kd.C_alloc ?_ _) | (with_reducible refine Kd.C_drewN ?_ _) | (with_reducible refine Kd.C_drew ?_))); (case side2 => exact HC0_2.out); rintro e w23 ⟨rfl, hb⟩; refine ⟨_, rfl, ?_⟩; have n0_ := Aside0.mk (blk_below (g := gb200) (o := .cells #[.string a0_0, .int .i64 a0_1, .slice A0_2 l0_2.length c0_2] 24 (0, 0)) (by (with_reducible repeat (first | refine blk_drewN ?_ _ | refine blk_drew ?_ | refine blk_alloc ?_ _)); exact BK200.out) hb); have n1_ := Aside0.mk (below_step (by repeat (first | (with_reducible first | exact HB.out | apply below_alloc | apply pw_below_drewN | apply below_drew1 | refine below_set ?_ GE200.out) | exact HB.out)) hb); clear BK200; clear HB; have BK200 := n0_; have HB := n1_; clear n0_ n1_; (try clear hb); (try clear hb2); (try clear hk); (try clear hi); have hcz24_0 : w23.cell? ⟨gb200, 0, none⟩ = some (.string a0_0) := (blk_cell BK200.out 0).trans rfl; have hcz24_1 : w23.cell? ⟨gb200, 1, none⟩ = some (.int .i64 a0_1) := (blk_cell BK200.out 1).trans rfl; have hcz24_2 : w23.cell? ⟨gb200, 2, none⟩ = some (.slice A0_2 l0_2.length c0_2) := (blk_cell BK200.out 2).trans rfl; have hfz24_0 := blk_frozen BK200.out 0; have hfz24_1 := blk_frozen BK200.out 1; have hfz24_2 := blk_frozen BK200.out 2) | ((with_reducible refine gate_callee (f := 7) rfl ?_); refine goesL_ (some 25) rfl rfl Tryd.func7 (by kernel_rfl) rfl #[.agg #[.string a0_0, .int .i64 a0_1, .slice A0_2 l0_2.length c0_2]] rfl (by (try simp only [List.map_toArray, List.map_cons, List.map_nil]); first | done | rfl | (simp only [List.length_drop, List.length_take]; rfl)) ?_; (with_reducible refine (ephemerisref1_ZoneError.calls kj3 a0_0 a0_1 _ _ l0_2 t210 _ ?side1 ?side2 A12.out).mono ?_); (case side1 => repeat (first | exact (Kd.C_below HR0_2.out HB.out) | (with_reducible refine Kd.C_alloc ?_ _) | (with_reducible refine Kd.C_drewN ?_ _) | (with_reducible refine Kd.C_drew ?_))); (case side2 => exact HC0_2.out); rintro e w25 ⟨rfl, hb⟩; refine ⟨_, rfl, ?_⟩; have n0_ := Aside0.mk (blk_below (g := gb200) (o := .cells #[.string a0_0, .int .i64 a0_1, .slice A0_2 l0_2.length c0_2] 24 (0, 0)) (by (with_reducible repeat (first | refine blk_drewN ?_ _ | refine blk_drew ?_ | refine blk_alloc ?_ _)); exact BK200.out) hb); have n1_ := Aside0.mk (below_step (by repeat (first | (with_reducible first | exact HB.out | apply below_alloc | apply pw_below_drewN | apply below_drew1 | refine below_set ?_ GE200.out) | exact HB.out)) hb); clear BK200; clear HB; have BK200 := n0_; have HB := n1_; clear n0_ n1_; (try clear hb); (try clear hb2); (try clear hk); (try clear hi)))
            go_ret
            exact ⟨by first | rfl | (simp [errW_none, errW_some] <;> rfl) | (simp [*, errW_none, errW_some] <;> rfl), by repeat (first | (with_reducible first | exact HB.out | apply below_alloc | apply pw_below_drewN | apply below_drew1 | refine below_set ?_ GE200.out) | exact HB.out)⟩
        · rw [if_neg c13] at H
          have c13b0 : (t210 == 0) = false := beq_eq_false_iff_ne.mpr c13
          have c13b1 : (t210 != 0) = true := bne_iff_ne.mpr c13
          by_cases c26 : t208.toList = ([] : List UInt8)
          · rw [if_pos c26] at H
            have c26b0 : (t208.toList == ([] : List UInt8)) = true := beq_iff_eq.mpr c26
            have c26b1 : (t208.toList != ([] : List UInt8)) = false := bne_eq_false_iff_eq.mpr c26
            clear c26
            obtain rfl := Option.some.inj H
            have hcz27_0 : wc.cell? ⟨gb200, 0, none⟩ = some (.string a0_0) := (blk_cell BK200.out 0).trans rfl
            have hcz27_1 : wc.cell? ⟨gb200, 1, none⟩ = some (.int .i64 a0_1) := (blk_cell BK200.out 1).trans rfl
            have hcz27_2 : wc.cell? ⟨gb200, 2, none⟩ = some (.slice A0_2 l0_2.length c0_2) := (blk_cell BK200.out 2).trans rfl
            have hfz27_0 := blk_frozen BK200.out 0
            have hfz27_1 := blk_frozen BK200.out 1
            have hfz27_2 := blk_frozen BK200.out 2
            go_wp2_with (first | ((with_reducible refine gate_callee (f := 5) rfl ?_); refine goesL_ (some 21) rfl rfl Tryd.func5 (by kernel_rfl) rfl #[.agg #[.string a0_0, .int .i64 a0_1, .slice A0_2 l0_2.length c0_2]] rfl (by (try simp only [List.map_toArray, List.map_cons, List.map_nil]); first | done | rfl | (simp only [List.length_drop, List.length_take]; rfl)) ?_; (with_reducible refine (zonetext_Print.calls kj3 a0_0 a0_1 _ _ l0_2 t208 t209 _ ?side1 ?side2 (hT.below (by repeat (first | (with_reducible first | exact HB.out | apply below_alloc | apply pw_below_drewN | apply below_drew1) | exact HB.out)) (Nat.le_refl _)) A11.out).mono ?_); (case side1 => repeat (first | exact (Kd.C_below HR0_2.out HB.out) | (with_reducible refine Kd.C_alloc ?_ _) | (with_reducible refine Kd.C_drewN ?_ _) | (with_reducible refine Kd.C_drew ?_))); (case side2 => exact HC0_2.out); rintro e w28 ⟨rfl, hb⟩; refine ⟨_, rfl, ?_⟩; have n0_ := Aside0.mk (blk_below (g := gb200) (o := .cells #[.string a0_0, .int .i64 a0_1, .slice A0_2 l0_2.length c0_2] 24 (0, 0)) (by (with_reducible repeat (first | refine blk_drewN ?_ _ | refine blk_drew ?_ | refine blk_alloc ?_ _)); exact BK200.out) hb); have n1_ := Aside0.mk (below_step (by repeat (first | (with_reducible first | exact HB.out | apply below_alloc | apply pw_below_drewN | apply below_drew1 | refine below_set ?_ GE200.out) | exact HB.out)) hb); clear BK200; clear HB; have BK200 := n0_; have HB := n1_; clear n0_ n1_; (try clear hb); (try clear hb2); (try clear hk); (try clear hi); have hcz29_0 : w28.cell? ⟨gb200, 0, none⟩ = some (.string a0_0) := (blk_cell BK200.out 0).trans rfl; have hcz29_1 : w28.cell? ⟨gb200, 1, none⟩ = some (.int .i64 a0_1) := (blk_cell BK200.out 1).trans rfl; have hcz29_2 : w28.cell? ⟨gb200, 2, none⟩ = some (.slice A0_2 l0_2.length c0_2) := (blk_cell BK200.out 2).trans rfl; have hfz29_0 := blk_frozen BK200.out 0; have hfz29_1 := blk_frozen BK200.out 1; have hfz29_2 := blk_frozen BK200.out 2) | ((with_reducible refine gate_callee (f := 7) rfl ?_); refine goesL_ (some 25) rfl rfl Tryd.func7 (by kernel_rfl) rfl #[.agg #[.string a0_0, .int .i64 a0_1, .slice A0_2 l0_2.length c0_2]] rfl (by (try simp only [List.map_toArray, List.map_cons, List.map_nil]); first | done | rfl | (simp only [List.length_drop, List.length_take]; rfl)) ?_; (with_reducible refine (ephemerisref1_ZoneError.calls kj3 a0_0 a0_1 _ _ l0_2 t210 _ ?side1 ?side2 A12.out).mono ?_); (case side1 => repeat (first | exact (Kd.C_below HR0_2.out HB.out) | (with_reducible refine Kd.C_alloc ?_ _) | (with_reducible refine Kd.C_drewN ?_ _) | (with_reducible refine Kd.C_drew ?_))); (case side2 => exact HC0_2.out); rintro e w30 ⟨rfl, hb⟩; refine ⟨_, rfl, ?_⟩; have n0_ := Aside0.mk (blk_below (g := gb200) (o := .cells #[.string a0_0, .int .i64 a0_1, .slice A0_2 l0_2.length c0_2] 24 (0, 0)) (by (with_reducible repeat (first | refine blk_drewN ?_ _ | refine blk_drew ?_ | refine blk_alloc ?_ _)); exact BK200.out) hb); have n1_ := Aside0.mk (below_step (by repeat (first | (with_reducible first | exact HB.out | apply below_alloc | apply pw_below_drewN | apply below_drew1 | refine below_set ?_ GE200.out) | exact HB.out)) hb); clear BK200; clear HB; have BK200 := n0_; have HB := n1_; clear n0_ n1_; (try clear hb); (try clear hb2); (try clear hk); (try clear hi)))
            go_ret
            exact ⟨by first | rfl | (simp [errW_none, errW_some] <;> rfl) | (simp [*, errW_none, errW_some] <;> rfl), by repeat (first | (with_reducible first | exact HB.out | apply below_alloc | apply pw_below_drewN | apply below_drew1 | refine below_set ?_ GE200.out) | exact HB.out)⟩
          · rw [if_neg c26] at H
            have c26b0 : (t208.toList == ([] : List UInt8)) = false := beq_eq_false_iff_ne.mpr c26
            have c26b1 : (t208.toList != ([] : List UInt8)) = true := bne_iff_ne.mpr c26
            obtain rfl := Option.some.inj H
            have hcz31_0 : wc.cell? ⟨gb200, 0, none⟩ = some (.string a0_0) := (blk_cell BK200.out 0).trans rfl
            have hcz31_1 : wc.cell? ⟨gb200, 1, none⟩ = some (.int .i64 a0_1) := (blk_cell BK200.out 1).trans rfl
            have hcz31_2 : wc.cell? ⟨gb200, 2, none⟩ = some (.slice A0_2 l0_2.length c0_2) := (blk_cell BK200.out 2).trans rfl
            have hfz31_0 := blk_frozen BK200.out 0
            have hfz31_1 := blk_frozen BK200.out 1
            have hfz31_2 := blk_frozen BK200.out 2
            go_wp2_with (first | ((with_reducible refine gate_callee (f := 5) rfl ?_); refine goesL_ (some 21) rfl rfl Tryd.func5 (by kernel_rfl) rfl #[.agg #[.string a0_0, .int .i64 a0_1, .slice A0_2 l0_2.length c0_2]] rfl (by (try simp only [List.map_toArray, List.map_cons, List.map_nil]); first | done | rfl | (simp only [List.length_drop, List.length_take]; rfl)) ?_; (with_reducible refine (zonetext_Print.calls kj3 a0_0 a0_1 _ _ l0_2 t208 t209 _ ?side1 ?side2 (hT.below (by repeat (first | (with_reducible first | exact HB.out | apply below_alloc | apply pw_below_drewN | apply below_drew1) | exact HB.out)) (Nat.le_refl _)) A11.out).mono ?_); (case side1 => repeat (first | exact (Kd.C_below HR0_2.out HB.out) | (with_reducible refine Kd.C_alloc ?_ _) | (with_reducible refine Kd.C_drewN ?_ _) | (with_reducible refine Kd.C_drew ?_))); (case side2 => exact HC0_2.out); rintro e w32 ⟨rfl, hb⟩; refine ⟨_, rfl, ?_⟩; have n0_ := Aside0.mk (blk_below (g := gb200) (o := .cells #[.string a0_0, .int .i64 a0_1, .slice A0_2 l0_2.length c0_2] 24 (0, 0)) (by (with_reducible repeat (first | refine blk_drewN ?_ _ | refine blk_drew ?_ | refine blk_alloc ?_ _)); exact BK200.out) hb); have n1_ := Aside0.mk (below_step (by repeat (first | (with_reducible first | exact HB.out | apply below_alloc | apply pw_below_drewN | apply below_drew1 | refine below_set ?_ GE200.out) | exact HB.out)) hb); clear BK200; clear HB; have BK200 := n0_; have HB := n1_; clear n0_ n1_; (try clear hb); (try clear hb2); (try clear hk); (try clear hi); have hcz33_0 : w32.cell? ⟨gb200, 0, none⟩ = some (.string a0_0) := (blk_cell BK200.out 0).trans rfl; have hcz33_1 : w32.cell? ⟨gb200, 1, none⟩ = some (.int .i64 a0_1) := (blk_cell BK200.out 1).trans rfl; have hcz33_2 : w32.cell? ⟨gb200, 2, none⟩ = some (.slice A0_2 l0_2.length c0_2) := (blk_cell BK200.out 2).trans rfl; have hfz33_0 := blk_frozen BK200.out 0; have hfz33_1 := blk_frozen BK200.out 1; have hfz33_2 := blk_frozen BK200.out 2) | ((with_reducible refine gate_callee (f := 7) rfl ?_); refine goesL_ (some 25) rfl rfl Tryd.func7 (by kernel_rfl) rfl #[.agg #[.string a0_0, .int .i64 a0_1, .slice A0_2 l0_2.length c0_2]] rfl (by (try simp only [List.map_toArray, List.map_cons, List.map_nil]); first | done | rfl | (simp only [List.length_drop, List.length_take]; rfl)) ?_; (with_reducible refine (ephemerisref1_ZoneError.calls kj3 a0_0 a0_1 _ _ l0_2 t210 _ ?side1 ?side2 A12.out).mono ?_); (case side1 => repeat (first | exact (Kd.C_below HR0_2.out HB.out) | (with_reducible refine Kd.C_alloc ?_ _) | (with_reducible refine Kd.C_drewN ?_ _) | (with_reducible refine Kd.C_drew ?_))); (case side2 => exact HC0_2.out); rintro e w34 ⟨rfl, hb⟩; refine ⟨_, rfl, ?_⟩; have n0_ := Aside0.mk (blk_below (g := gb200) (o := .cells #[.string a0_0, .int .i64 a0_1, .slice A0_2 l0_2.length c0_2] 24 (0, 0)) (by (with_reducible repeat (first | refine blk_drewN ?_ _ | refine blk_drew ?_ | refine blk_alloc ?_ _)); exact BK200.out) hb); have n1_ := Aside0.mk (below_step (by repeat (first | (with_reducible first | exact HB.out | apply below_alloc | apply pw_below_drewN | apply below_drew1 | refine below_set ?_ GE200.out) | exact HB.out)) hb); clear BK200; clear HB; have BK200 := n0_; have HB := n1_; clear n0_ n1_; (try clear hb); (try clear hb2); (try clear hk); (try clear hi)))
            go_ret
            exact ⟨by first | rfl | (simp [errW_none, errW_some] <;> rfl) | (simp [*, errW_none, errW_some] <;> rfl), by repeat (first | (with_reducible first | exact HB.out | apply below_alloc | apply pw_below_drewN | apply below_drew1 | refine below_set ?_ GE200.out) | exact HB.out)⟩

end Go.Proofs.YtmiieommlhbbdaaDoor.PZonetextPrints
