/- The walks of the functions of this part, laid closer by a program of mine. -/
-- The walks of the law's functions, told by a program.
import Derived.Test.YtgcmclnjnimolaaDoorY
import Derived.Test.YtgcmclnjnimolaaDoorPCompileCompilesx0
import Derived.Test.YtgcmclnjnimolaaDoorPCompileCompilesx7
namespace Go.Proofs.YtgcmclnjnimolaaDoor.PCompileCompiles
open Go.RowKit Go.Proofs.YtgcmclnjnimolaaDoorW.PrintWords Go.Proofs.YtgcmclnjnimolaaDoorW.PrintLast Go.Proofs.YtgcmclnjnimolaaDoorW.PrintMore Go.Proofs.YtgcmclnjnimolaaDoor.Y
attribute [local go_sem] max2_int min2_int max_two min_two max_three min_three max_four min_four   -- for this text's walks alone
set_option linter.unusedVariables false
set_option linter.unusedSimpArgs false

/-! ### ephemerisref1_Name: function 26 -/
mutual
def ephemerisref1_Name.j0 : Nat → ByteArray → Bool → Option (Bool)
 | 0, _, _ => none
 | k + 1, x0, x10 => if x10 = true then (some false) else (ephemerisref1_Name.l0 k x0 (x0.size : Int) 0)
def ephemerisref1_Name.l0 : Nat → ByteArray → Int → Int → Option (Bool)
 | 0, _, _, _ => none
 | k + 1, x0, x12, x13 => if x13 < x12 then (if 0 ≤ x13 then (if x13 < (x0.size : Int) then (if (bt x0 x13) < 97 then (some false) else (if (bt x0 x13) > 122 then (some false) else (ephemerisref1_Name.l0 k x0 x12 (wrap64 (x13 + 1))))) else (none)) else (none)) else (if x0.toList = ([121] : List UInt8) then (some false) else (if x0.toList = ([97, 110, 100] : List UInt8) then (some false) else (if x0.toList = ([111, 114] : List UInt8) then (some false) else (some (x0.toList != ([110, 111, 116] : List UInt8))))))
end
def ephemerisref1_Name.f (k : Nat) (a0 : ByteArray) : Option (Bool) := if a0.toList = ([] : List UInt8) then (ephemerisref1_Name.j0 k a0 true) else (ephemerisref1_Name.j0 k a0 (decide ((a0.size : Int) > 12)))
theorem ephemerisref1_Name.mono_l : ∀ k, (∀ y0 y1, LeO (ephemerisref1_Name.j0 k y0 y1) (ephemerisref1_Name.j0 (k + 1) y0 y1)) ∧ (∀ y0 y1 y2, LeO (ephemerisref1_Name.l0 k y0 y1 y2) (ephemerisref1_Name.l0 (k + 1) y0 y1 y2))
 | 0 => ⟨fun _ _ r h => by simp [ephemerisref1_Name.j0] at h, fun _ _ _ r h => by simp [ephemerisref1_Name.l0] at h⟩
 | k + 1 => by
  obtain ⟨ih0, ih1⟩ := ephemerisref1_Name.mono_l k
  refine ⟨?_, ?_⟩
  ·intro y0 y1
   unfold ephemerisref1_Name.j0
   repeat' first
   | (with_reducible exact ih0 _ _)
   | (with_reducible exact ih1 _ _ _)
   | (with_reducible exact LeO.refl _)
   | (with_reducible exact LeO.none _)
   | (with_reducible refine LeO.ite ?_ ?_)
   | (with_reducible refine LeO.bind ?_ (fun _ => ?_))
   | exact ih0 _ _
   | exact ih1 _ _ _
   | exact LeO.none _
   | refine LeO.ite ?_ ?_
   | refine LeO.bind ?_ (fun _ => ?_)
  ·intro y0 y1 y2
   unfold ephemerisref1_Name.l0
   repeat' first
   | (with_reducible exact ih0 _ _)
   | (with_reducible exact ih1 _ _ _)
   | (with_reducible exact LeO.refl _)
   | (with_reducible exact LeO.none _)
   | (with_reducible refine LeO.ite ?_ ?_)
   | (with_reducible refine LeO.bind ?_ (fun _ => ?_))
   | exact ih0 _ _
   | exact ih1 _ _ _
   | exact LeO.none _
   | refine LeO.ite ?_ ?_
   | refine LeO.bind ?_ (fun _ => ?_)
theorem ephemerisref1_Name.mono : ∀ a0 k, LeO (ephemerisref1_Name.f k a0) (ephemerisref1_Name.f (k + 1) a0) := by
 intro a0 k
 obtain ⟨ih0, ih1⟩ := ephemerisref1_Name.mono_l k
 unfold ephemerisref1_Name.f
 repeat' first
   | (with_reducible exact ih0 _ _)
   | (with_reducible exact ih1 _ _ _)
   | (with_reducible exact LeO.refl _)
   | (with_reducible exact LeO.none _)
   | (with_reducible refine LeO.ite ?_ ?_)
   | (with_reducible refine LeO.bind ?_ (fun _ => ?_))
   | exact ih0 _ _
   | exact ih1 _ _ _
   | exact LeO.none _
   | refine LeO.ite ?_ ?_
   | refine LeO.bind ?_ (fun _ => ?_)
set_option maxHeartbeats 8000000 in
set_option maxRecDepth 100000 in
theorem ephemerisref1_Name.calls (k : Nat) (a0 : ByteArray) (r : Bool) (w : World) (h : ephemerisref1_Name.f k a0 = some r) :
  Calls Tryd.prog 26 #[.string a0] w fun e w' => e = .returned (.bool r) ∧ Drawn0 w w' := by
 have H : (if a0.toList = ([] : List UInt8) then (ephemerisref1_Name.j0 k a0 true) else (ephemerisref1_Name.j0 k a0 (decide ((a0.size : Int) > 12)))) = some r := h
 clear h
 have HC2 := Aside0.mk H
 clear H
 go_enter Tryd.func26, Tryd.ntmps26
 go_upto_region 1 with (fail)
 go_cut [10] (fun v10 wc => ∃ (kq : Nat) (x10_1 : Bool), v10 = .bool x10_1 ∧ Aside0 (ephemerisref1_Name.j0 kq a0 x10_1 = some r) ∧ Aside0 (kq ≤ k) ∧ Drawn0 w wc)
 case first =>
  have H := HC2.out
  clear HC2
  by_cases c3 : a0.toList = ([] : List UInt8)
  ·rw [if_pos c3] at H
   have c3b0 : (a0.toList == ([] : List UInt8)) = true := beq_iff_eq.mpr c3
   have c3b1 : (a0.toList != ([] : List UInt8)) = false := bne_eq_false_iff_eq.mpr c3
   clear c3
   (first | rw [c3b0] | (simp only [i64_w, i32_w]; rw [c3b0]) | skip)
   have H' := Aside0.mk H
   clear H
   go_wp2
   go_meet
   case rel => exact ⟨_, (true), rs, H', ⟨by first | omega | exact Nat.le_refl _⟩, by repeat (first | exact Drawn0.refl _ | apply Drawn0.step)⟩
  ·rw [if_neg c3] at H
   have c3b0 : (a0.toList == ([] : List UInt8)) = false := beq_eq_false_iff_ne.mpr c3
   have c3b1 : (a0.toList != ([] : List UInt8)) = true := bne_iff_ne.mpr c3
   (first | rw [c3b0] | (simp only [i64_w, i32_w]; rw [c3b0]) | skip)
   have H' := Aside0.mk H
   clear H
   go_wp2
   go_meet
   case rel => exact ⟨_, (decide ((a0.size : Int) > 12)), rs, H', ⟨by first | omega | exact Nat.le_refl _⟩, by repeat (first | exact Drawn0.refl _ | apply Drawn0.step)⟩
 case rest =>
  clear HC2
  (try clear c2); (try clear p2); (try clear c3); (try clear c3b0); (try clear c3b1)
  obtain ⟨kq, x10_1, rfl, HA, HJ1, ⟨mc1, rfl⟩⟩ := hcut
  cases kq with
  | zero => exact absurd HA.out (by simp [ephemerisref1_Name.j0])
  | succ kj1 =>
   have H := HA.out
   clear HA
   simp only [ephemerisref1_Name.j0] at H
   by_cases c4 : x10_1 = true
   ·subst c4
    have H1 : (some false) = some r := by rw [if_pos rfl] at H; exact H
    clear H
    have H := H1
    clear H1
    obtain rfl := Option.some.inj H
    go_wp2
    go_ret
    exact ⟨by first | rfl | (simp; done) | (simp [*]; done), by repeat (first | exact Drawn0.refl _ | apply Drawn0.step)⟩
   ·replace c4 := Bool.eq_false_iff.mpr c4
    subst c4
    have H1 : (ephemerisref1_Name.l0 kj1 a0 (a0.size : Int) 0) = some r := by rw [if_neg (show ¬ (false = true) by decide)] at H; exact H
    clear H
    have H := H1
    clear H1
    have H' := Aside0.mk H
    clear H
    go_wp2
    go_loopg [13] kj1 (fun kq v13 w' => ∃ (x13_2 : Int), v13 = .int .i64 x13_2 ∧ Aside0 (ephemerisref1_Name.l0 kq a0 (a0.size : Int) x13_2 = some r) ∧ Aside0 (kq ≤ kj1) ∧ Drawn0 w w')
    case atStart => exact ⟨(0), rs, H', ⟨Nat.le_refl _⟩, by repeat (first | exact Drawn0.refl _ | apply Drawn0.step)⟩
    case round =>
     clear H'
     (try clear c1); (try clear c2); (try clear p2); (try clear c3); (try clear c3b0); (try clear c3b1); (try clear c4); (try clear p2)
     obtain ⟨x13_2, rfl, HA, HK2, ⟨m2, rfl⟩⟩ := hrel
     cases gk with
     | zero => exact absurd HA.out (by simp [ephemerisref1_Name.l0])
     | succ k2 =>
      have H := HA.out
      clear HA
      simp only [ephemerisref1_Name.l0] at H
      by_cases c5 : x13_2 < (a0.size : Int)
      ·rw [if_pos c5] at H
       have c5b0 : decide (x13_2 < (a0.size : Int)) = true := decide_eq_true c5
       clear c5
       by_cases c6 : 0 ≤ x13_2
       ·rw [if_pos c6] at H
        have c6b0 : decide (0 ≤ x13_2) = true := decide_eq_true c6
        clear c6
        by_cases c7 : x13_2 < (a0.size : Int)
        ·rw [if_pos c7] at H
         have c7b0 : decide (x13_2 < (a0.size : Int)) = true := decide_eq_true c7
         clear c7
         by_cases c9 : (bt a0 x13_2) < 97
         ·rw [if_pos c9] at H
          have c9b0 : decide ((bt a0 x13_2) < 97) = true := decide_eq_true c9
          clear c9
          obtain rfl := Option.some.inj H
          have p8 : 0 ≤ (x13_2 : Int) := of_decide_eq_true ka
          have q8 : x13_2 < (a0.size : Int) := of_decide_eq_true ka
          have hx8 := bt_at a0 x13_2
          replace p8 := eq_true p8
          replace q8 := eq_true q8
          go_wp2
          go_ret
          exact ⟨by first | rfl | (simp; done) | (simp [*]; done), by repeat (first | exact Drawn0.refl _ | apply Drawn0.step)⟩
         ·rw [if_neg c9] at H
          have c9b0 : decide ((bt a0 x13_2) < 97) = false := decide_eq_false c9
          clear c9
          by_cases c11 : (bt a0 x13_2) > 122
          ·rw [if_pos c11] at H
           have c11b0 : decide (122 < (bt a0 x13_2)) = true := decide_eq_true c11
           clear c11
           obtain rfl := Option.some.inj H
           have p8 : 0 ≤ (x13_2 : Int) := of_decide_eq_true ka
           have q8 : x13_2 < (a0.size : Int) := of_decide_eq_true ka
           have hx8 := bt_at a0 x13_2
           replace p8 := eq_true p8
           replace q8 := eq_true q8
           have p10 : 0 ≤ (x13_2 : Int) := of_decide_eq_true ka
           have q10 : x13_2 < (a0.size : Int) := of_decide_eq_true ka
           have hx10 := bt_at a0 x13_2
           replace p10 := eq_true p10
           replace q10 := eq_true q10
           go_wp2
           go_ret
           exact ⟨by first | rfl | (simp; done) | (simp [*]; done), by repeat (first | exact Drawn0.refl _ | apply Drawn0.step)⟩
          ·rw [if_neg c11] at H
           have c11b0 : decide (122 < (bt a0 x13_2)) = false := decide_eq_false c11
           clear c11
           have H' := Aside0.mk H
           clear H
           have p8 : 0 ≤ (x13_2 : Int) := of_decide_eq_true ka
           have q8 : x13_2 < (a0.size : Int) := of_decide_eq_true ka
           have hx8 := bt_at a0 x13_2
           replace p8 := eq_true p8
           replace q8 := eq_true q8
           have p10 : 0 ≤ (x13_2 : Int) := of_decide_eq_true ka
           have q10 : x13_2 < (a0.size : Int) := of_decide_eq_true ka
           have hx10 := bt_at a0 x13_2
           replace p10 := eq_true p10
           replace q10 := eq_true q10
           go_wp2
           go_roundg k2
           case measure => have := HJ1.out; have := HK2.out; omega
           case rel => exact ⟨(wrap64 (x13_2 + 1)), rs, H', ⟨by have := HJ1.out; have := HK2.out; omega⟩, by repeat (first | exact Drawn0.refl _ | apply Drawn0.step)⟩
        ·rw [if_neg c7] at H
         exact absurd H (by simp)
       ·rw [if_neg c6] at H
        exact absurd H (by simp)
      ·rw [if_neg c5] at H
       have c5b0 : decide (x13_2 < (a0.size : Int)) = false := decide_eq_false c5
       clear c5
       by_cases c12 : a0.toList = ([121] : List UInt8)
       ·rw [if_pos c12] at H
        have c12b0 : (a0.toList == ([121] : List UInt8)) = true := beq_iff_eq.mpr c12
        have c12b1 : (a0.toList != ([121] : List UInt8)) = false := bne_eq_false_iff_eq.mpr c12
        clear c12
        obtain rfl := Option.some.inj H
        go_wp2
        go_ret
        exact ⟨by first | rfl | (simp; done) | (simp [*]; done), by repeat (first | exact Drawn0.refl _ | apply Drawn0.step)⟩
       ·rw [if_neg c12] at H
        have c12b0 : (a0.toList == ([121] : List UInt8)) = false := beq_eq_false_iff_ne.mpr c12
        have c12b1 : (a0.toList != ([121] : List UInt8)) = true := bne_iff_ne.mpr c12
        by_cases c13 : a0.toList = ([97, 110, 100] : List UInt8)
        ·rw [if_pos c13] at H
         have c13b0 : (a0.toList == ([97, 110, 100] : List UInt8)) = true := beq_iff_eq.mpr c13
         have c13b1 : (a0.toList != ([97, 110, 100] : List UInt8)) = false := bne_eq_false_iff_eq.mpr c13
         clear c13
         obtain rfl := Option.some.inj H
         go_wp2
         go_ret
         exact ⟨by first | rfl | (simp; done) | (simp [*]; done), by repeat (first | exact Drawn0.refl _ | apply Drawn0.step)⟩
        ·rw [if_neg c13] at H
         have c13b0 : (a0.toList == ([97, 110, 100] : List UInt8)) = false := beq_eq_false_iff_ne.mpr c13
         have c13b1 : (a0.toList != ([97, 110, 100] : List UInt8)) = true := bne_iff_ne.mpr c13
         by_cases c14 : a0.toList = ([111, 114] : List UInt8)
         ·rw [if_pos c14] at H
          have c14b0 : (a0.toList == ([111, 114] : List UInt8)) = true := beq_iff_eq.mpr c14
          have c14b1 : (a0.toList != ([111, 114] : List UInt8)) = false := bne_eq_false_iff_eq.mpr c14
          clear c14
          obtain rfl := Option.some.inj H
          go_wp2
          go_ret
          exact ⟨by first | rfl | (simp; done) | (simp [*]; done), by repeat (first | exact Drawn0.refl _ | apply Drawn0.step)⟩
         ·rw [if_neg c14] at H
          have c14b0 : (a0.toList == ([111, 114] : List UInt8)) = false := beq_eq_false_iff_ne.mpr c14
          have c14b1 : (a0.toList != ([111, 114] : List UInt8)) = true := bne_iff_ne.mpr c14
          obtain rfl := Option.some.inj H
          go_wp2
          go_ret
          exact ⟨by first | rfl | (simp; done) | (simp [*]; done), by repeat (first | exact Drawn0.refl _ | apply Drawn0.step)⟩

/-! ### ephemerisref1_Day: function 27 -/
def ephemerisref1_Day.f (a0 : Int) : Option (Bool) := (ephemerisref1_In.f a0 (-4000000) 4000000).bind fun t206 => (some t206)
set_option maxHeartbeats 8000000 in
set_option maxRecDepth 100000 in
theorem ephemerisref1_Day.calls (a0 : Int) (r : Bool) (w : World) (h : ephemerisref1_Day.f a0 = some r) :
  Calls Tryd.prog 27 #[.int .i64 a0] w fun e w' => e = .returned (.bool r) ∧ Drawn0 w w' := by
 have H : ((ephemerisref1_In.f a0 (-4000000) 4000000).bind fun t206 => (some t206)) = some r := h
 clear h
 replace H := Option.bind_eq_some_iff.mp H
 obtain ⟨t206, A20, H⟩ := H
 replace H : (some t206) = some r := H
 have A2 := Aside0.mk A20
 clear A20
 obtain rfl := Option.some.inj H
 go_enter Tryd.func27, Tryd.ntmps27
 go_wp2_with (first | ((with_reducible refine gate_callee (f := 12) rfl ?_); refine goesL_ (some 4) rfl rfl Tryd.func12 kx rfl #[.int .i64 a0, .int .i64 (-4000000), .int .i64 4000000] rfl aa ?_; (with_reducible refine (ephemerisref1_In.calls a0 (-4000000) 4000000 t206 _ A2.out).mono ?_); rintro e w' ⟨rfl, ⟨nd, rfl⟩⟩; refine ⟨_, rfl, ?_⟩))
 go_ret
 exact ⟨by first | rfl | (simp; done) | (simp [*]; done), by repeat (first | exact Drawn0.refl _ | apply Drawn0.step)⟩

/-! ### ephemerisref1_MonthsError: function 28 -/
mutual
def ephemerisref1_MonthsError.l0 : Nat → List (S53) → Bool → Bool → Int → Int → Option (Int)
 | 0, _, _, _, _, _ => none
 | k + 1, x0, x3, x4, x12, x13 => if x13 < x12 then (if 0 ≤ x13 then (if x13 < (x0.length : Int) then ((ephemerisref1_Name.f k ((rd_T53 x0 x13).f0)).bind fun t209 => (if t209 = true then (ephemerisref1_MonthsError.l1 k x0 x3 x4 x13 x12 x13 x13 0) else (some 5))) else (none)) else (none)) else (if x3 = true then (if x4 = true then (some 0) else (some 8)) else (some 8))
def ephemerisref1_MonthsError.l1 : Nat → List (S53) → Bool → Bool → Int → Int → Int → Int → Int → Option (Int)
 | 0, _, _, _, _, _, _, _, _ => none
 | k + 1, x0, x3, x4, x5, x12, x13, x23, x24 => if x24 < x23 then (if 0 ≤ x24 then (if x24 < (x0.length : Int) then (if 0 ≤ x5 then (if x5 < (x0.length : Int) then (if ((rd_T53 x0 x24).f0).toList = ((rd_T53 x0 x5).f0).toList then (some 7) else (ephemerisref1_MonthsError.l1 k x0 x3 x4 x5 x12 x13 x23 (wrap64 (x24 + 1)))) else (none)) else (none)) else (none)) else (none)) else (if 0 ≤ x5 then (if x5 < (x0.length : Int) then ((ephemerisref1_In.f ((rd_T53 x0 x5).f1) 0 400).bind fun t213 => (if t213 = true then ((ephemerisref1_In.f ((rd_T53 x0 x5).f2) 0 400).bind fun t215 => (if t215 = true then (if x3 = true then (if x4 = true then (ephemerisref1_MonthsError.l0 k x0 true true x12 (wrap64 (x13 + 1))) else (ephemerisref1_MonthsError.l0 k x0 true (decide (((rd_T53 x0 x5).f2) > 0)) x12 (wrap64 (x13 + 1)))) else (if x4 = true then (ephemerisref1_MonthsError.l0 k x0 (decide (((rd_T53 x0 x5).f1) > 0)) true x12 (wrap64 (x13 + 1))) else (ephemerisref1_MonthsError.l0 k x0 (decide (((rd_T53 x0 x5).f1) > 0)) (decide (((rd_T53 x0 x5).f2) > 0)) x12 (wrap64 (x13 + 1))))) else (some 3))) else (some 3))) else (none)) else (none))
end
def ephemerisref1_MonthsError.f (k : Nat) (l0 : List (S53)) : Option (Int) := (ephemerisref1_In.f (l0.length : Int) 1 20).bind fun t207 => (if t207 = true then (ephemerisref1_MonthsError.l0 k l0 false false (l0.length : Int) 0) else (some 2))
theorem ephemerisref1_MonthsError.mono_l : ∀ k, (∀ y0 y1 y2 y3 y4, LeO (ephemerisref1_MonthsError.l0 k y0 y1 y2 y3 y4) (ephemerisref1_MonthsError.l0 (k + 1) y0 y1 y2 y3 y4)) ∧ (∀ y0 y1 y2 y3 y4 y5 y6 y7, LeO (ephemerisref1_MonthsError.l1 k y0 y1 y2 y3 y4 y5 y6 y7) (ephemerisref1_MonthsError.l1 (k + 1) y0 y1 y2 y3 y4 y5 y6 y7))
 | 0 => ⟨fun _ _ _ _ _ r h => by simp [ephemerisref1_MonthsError.l0] at h, fun _ _ _ _ _ _ _ _ r h => by simp [ephemerisref1_MonthsError.l1] at h⟩
 | k + 1 => by
  obtain ⟨ih0, ih1⟩ := ephemerisref1_MonthsError.mono_l k
  refine ⟨?_, ?_⟩
  ·intro y0 y1 y2 y3 y4
   unfold ephemerisref1_MonthsError.l0
   repeat' first
   | (with_reducible exact ih0 _ _ _ _ _)
   | (with_reducible exact ih1 _ _ _ _ _ _ _ _)
   | (with_reducible exact ephemerisref1_Name.mono _ _)
   | (with_reducible exact LeO.refl _)
   | (with_reducible exact LeO.none _)
   | (with_reducible refine LeO.ite ?_ ?_)
   | (with_reducible refine LeO.bind ?_ (fun _ => ?_))
   | exact ih0 _ _ _ _ _
   | exact ih1 _ _ _ _ _ _ _ _
   | exact ephemerisref1_Name.mono _ _
   | exact LeO.none _
   | refine LeO.ite ?_ ?_
   | refine LeO.bind ?_ (fun _ => ?_)
  ·intro y0 y1 y2 y3 y4 y5 y6 y7
   unfold ephemerisref1_MonthsError.l1
   repeat' first
   | (with_reducible exact ih0 _ _ _ _ _)
   | (with_reducible exact ih1 _ _ _ _ _ _ _ _)
   | (with_reducible exact ephemerisref1_Name.mono _ _)
   | (with_reducible exact LeO.refl _)
   | (with_reducible exact LeO.none _)
   | (with_reducible refine LeO.ite ?_ ?_)
   | (with_reducible refine LeO.bind ?_ (fun _ => ?_))
   | exact ih0 _ _ _ _ _
   | exact ih1 _ _ _ _ _ _ _ _
   | exact ephemerisref1_Name.mono _ _
   | exact LeO.none _
   | refine LeO.ite ?_ ?_
   | refine LeO.bind ?_ (fun _ => ?_)
theorem ephemerisref1_MonthsError.mono : ∀ a0 k, LeO (ephemerisref1_MonthsError.f k a0) (ephemerisref1_MonthsError.f (k + 1) a0) := by
 intro a0 k
 obtain ⟨ih0, ih1⟩ := ephemerisref1_MonthsError.mono_l k
 unfold ephemerisref1_MonthsError.f
 repeat' first
   | (with_reducible exact ih0 _ _ _ _ _)
   | (with_reducible exact ih1 _ _ _ _ _ _ _ _)
   | (with_reducible exact ephemerisref1_Name.mono _ _)
   | (with_reducible exact LeO.refl _)
   | (with_reducible exact LeO.none _)
   | (with_reducible refine LeO.ite ?_ ?_)
   | (with_reducible refine LeO.bind ?_ (fun _ => ?_))
   | exact ih0 _ _ _ _ _
   | exact ih1 _ _ _ _ _ _ _ _
   | exact ephemerisref1_Name.mono _ _
   | exact LeO.none _
   | refine LeO.ite ?_ ?_
   | refine LeO.bind ?_ (fun _ => ?_)
set_option maxHeartbeats 8000000 in
set_option maxRecDepth 100000 in
theorem ephemerisref1_MonthsError.calls (k : Nat) (A0 : Option Addr) (c0 : Nat) (l0 : List (S53)) (r : Int) (w : World) (hr0 : Kd.C k53 w A0 l0.length l0) (hc0 : l0.length ≤ c0) (h : ephemerisref1_MonthsError.f k l0 = some r) :
  Calls Tryd.prog 28 #[.slice A0 l0.length c0] w fun e w' => e = .returned (.int .i64 r) ∧ Drawn0 w w' := by
 have HR0 := Aside0.mk hr0
 have HC0 := Aside0.mk hc0
 clear hr0 hc0
 have H : ((ephemerisref1_In.f (l0.length : Int) 1 20).bind fun t207 => (if t207 = true then (ephemerisref1_MonthsError.l0 k l0 false false (l0.length : Int) 0) else (some 2))) = some r := h
 clear h
 replace H := Option.bind_eq_some_iff.mp H
 obtain ⟨t207, A20, H⟩ := H
 replace H : (if t207 = true then (ephemerisref1_MonthsError.l0 k l0 false false (l0.length : Int) 0) else (some 2)) = some r := H
 have A2 := Aside0.mk A20
 clear A20
 by_cases c3 : t207 = true
 ·subst c3
  have H1 : (ephemerisref1_MonthsError.l0 k l0 false false (l0.length : Int) 0) = some r := by rw [if_pos rfl] at H; exact H
  clear H
  have H := H1
  clear H1
  have H' := Aside0.mk H
  clear H
  go_enter Tryd.func28, Tryd.ntmps28
  go_wp2_with (first | (go_at_call 12; (with_reducible refine (ephemerisref1_In.calls (l0.length : Int) 1 20 true _ A2.out).mono ?_); rintro e w' ⟨rfl, ⟨nd, rfl⟩⟩; (try first | exact ⟨rfl, _, World.drewN_drewN _ _ _⟩ | exact ⟨rfl, _, Eq.trans (World.drewN_drewN _ _ _) (congrArg (World.drewN _) (Nat.add_assoc _ _ _))⟩)))
  repeat (go_quiet (first | (go_at_call 12; (with_reducible refine (ephemerisref1_In.calls (l0.length : Int) 1 20 true _ A2.out).mono ?_); rintro e w' ⟨rfl, ⟨nd, rfl⟩⟩; (try first | exact ⟨rfl, _, World.drewN_drewN _ _ _⟩ | exact ⟨rfl, _, Eq.trans (World.drewN_drewN _ _ _) (congrArg (World.drewN _) (Nat.add_assoc _ _ _))⟩))); try go_wp2_with (first | (go_at_call 12; (with_reducible refine (ephemerisref1_In.calls (l0.length : Int) 1 20 true _ A2.out).mono ?_); rintro e w' ⟨rfl, ⟨nd, rfl⟩⟩; (try first | exact ⟨rfl, _, World.drewN_drewN _ _ _⟩ | exact ⟨rfl, _, Eq.trans (World.drewN_drewN _ _ _) (congrArg (World.drewN _) (Nat.add_assoc _ _ _))⟩))))
  go_loopg [3, 4, 13] k (fun kq v3 v4 v13 w' => ∃ (x3_1 : Bool) (x4_1 : Bool) (x13_1 : Int), v3 = .bool x3_1 ∧ v4 = .bool x4_1 ∧ v13 = .int .i64 x13_1 ∧ Aside0 (ephemerisref1_MonthsError.l0 kq l0 x3_1 x4_1 (l0.length : Int) x13_1 = some r) ∧ Aside0 (kq ≤ k) ∧ Drawn0 w w')
  case atStart => exact ⟨(false), (false), (0), rs, rs, rs, H', ⟨Nat.le_refl _⟩, by repeat (first | exact Drawn0.refl _ | apply Drawn0.step)⟩
  case round =>
   clear H'
   (try clear c2); (try clear p2); (try clear c3)
   obtain ⟨x3_1, x4_1, x13_1, rfl, rfl, rfl, HA, HK1, ⟨m1, rfl⟩⟩ := hrel
   cases gk with
   | zero => exact absurd HA.out (by simp [ephemerisref1_MonthsError.l0])
   | succ k1 =>
    have H := HA.out
    clear HA
    simp only [ephemerisref1_MonthsError.l0] at H
    by_cases c4 : x13_1 < (l0.length : Int)
    ·rw [if_pos c4] at H
     have c4b0 : decide (x13_1 < (l0.length : Int)) = true := decide_eq_true c4
     clear c4
     by_cases c5 : 0 ≤ x13_1
     ·rw [if_pos c5] at H
      have c5b0 : decide (0 ≤ x13_1) = true := decide_eq_true c5
      clear c5
      by_cases c6 : x13_1 < (l0.length : Int)
      ·rw [if_pos c6] at H
       have c6b0 : decide (x13_1 < (l0.length : Int)) = true := decide_eq_true c6
       clear c6
       replace H := Option.bind_eq_some_iff.mp H
       obtain ⟨t209, A70, H⟩ := H
       replace H : (if t209 = true then (ephemerisref1_MonthsError.l1 k1 l0 x3_1 x4_1 x13_1 (l0.length : Int) x13_1 x13_1 0) else (some 5)) = some r := H
       have A7 := Aside0.mk A70
       clear A70
       by_cases c8 : t209 = true
       ·subst c8
        have H1 : (ephemerisref1_MonthsError.l1 k1 l0 x3_1 x4_1 x13_1 (l0.length : Int) x13_1 x13_1 0) = some r := by rw [if_pos rfl] at H; exact H
        clear H
        have H := H1
        clear H1
        have H' := Aside0.mk H
        clear H
        have p208 : 0 ≤ (x13_1 : Int) := of_decide_eq_true ka
        have q208 : x13_1 < (l0.length : Int) := of_decide_eq_true ka
        obtain ⟨ad208, e208, hx208_0, hx208_1, hx208_2⟩ := at_T53 HR0.out x13_1 p208 q208
        cases e208
        replace p208 := eq_true p208
        replace q208 := eq_true q208
        go_wp2_with (first | (go_at_call 26; (with_reducible refine (ephemerisref1_Name.calls k1 ((rd_T53 l0 x13_1).f0) true _ A7.out).mono ?_); rintro e w' ⟨rfl, ⟨nd, rfl⟩⟩; (try first | exact ⟨rfl, _, World.drewN_drewN _ _ _⟩ | exact ⟨rfl, _, Eq.trans (World.drewN_drewN _ _ _) (congrArg (World.drewN _) (Nat.add_assoc _ _ _))⟩)))
        repeat (go_quiet (first | (go_at_call 26; (with_reducible refine (ephemerisref1_Name.calls k1 ((rd_T53 l0 x13_1).f0) true _ A7.out).mono ?_); rintro e w' ⟨rfl, ⟨nd, rfl⟩⟩; (try first | exact ⟨rfl, _, World.drewN_drewN _ _ _⟩ | exact ⟨rfl, _, Eq.trans (World.drewN_drewN _ _ _) (congrArg (World.drewN _) (Nat.add_assoc _ _ _))⟩))); try go_wp2_with (first | (go_at_call 26; (with_reducible refine (ephemerisref1_Name.calls k1 ((rd_T53 l0 x13_1).f0) true _ A7.out).mono ?_); rintro e w' ⟨rfl, ⟨nd, rfl⟩⟩; (try first | exact ⟨rfl, _, World.drewN_drewN _ _ _⟩ | exact ⟨rfl, _, Eq.trans (World.drewN_drewN _ _ _) (congrArg (World.drewN _) (Nat.add_assoc _ _ _))⟩))))
        go_loopg [24] k1 (fun kq v24 w' => ∃ (x24_2 : Int), v24 = .int .i64 x24_2 ∧ Aside0 (ephemerisref1_MonthsError.l1 kq l0 x3_1 x4_1 x13_1 (l0.length : Int) x13_1 x13_1 x24_2 = some r) ∧ Aside0 (kq ≤ k1) ∧ Drawn0 w w')
        case atStart => exact ⟨(0), rs, H', ⟨Nat.le_refl _⟩, by repeat (first | exact Drawn0.refl _ | apply Drawn0.step)⟩
        case round =>
         clear H'
         (try clear c2); (try clear p2); (try clear q2); (try clear hx2); (try clear c3); (try clear c4); (try clear c4b0); (try clear c5); (try clear c5b0); (try clear c6); (try clear c6b0); (try clear c8); (try clear hx208_0); (try clear hx208_1); (try clear hx208_2); (try clear p2); (try clear p208); (try clear q208)
         obtain ⟨x24_2, rfl, HA, HK2, ⟨m2, rfl⟩⟩ := hrel
         cases gk with
         | zero => exact absurd HA.out (by simp [ephemerisref1_MonthsError.l1])
         | succ k2 =>
          have H := HA.out
          clear HA
          simp only [ephemerisref1_MonthsError.l1] at H
          by_cases c9 : x24_2 < x13_1
          ·rw [if_pos c9] at H
           have c9b0 : decide (x24_2 < x13_1) = true := decide_eq_true c9
           clear c9
           by_cases c10 : 0 ≤ x24_2
           ·rw [if_pos c10] at H
            have c10b0 : decide (0 ≤ x24_2) = true := decide_eq_true c10
            clear c10
            by_cases c11 : x24_2 < (l0.length : Int)
            ·rw [if_pos c11] at H
             have c11b0 : decide (x24_2 < (l0.length : Int)) = true := decide_eq_true c11
             clear c11
             by_cases c12 : 0 ≤ x13_1
             ·rw [if_pos c12] at H
              have c12b0 : decide (0 ≤ x13_1) = true := decide_eq_true c12
              clear c12
              by_cases c13 : x13_1 < (l0.length : Int)
              ·rw [if_pos c13] at H
               have c13b0 : decide (x13_1 < (l0.length : Int)) = true := decide_eq_true c13
               clear c13
               by_cases c14 : ((rd_T53 l0 x24_2).f0).toList = ((rd_T53 l0 x13_1).f0).toList
               ·rw [if_pos c14] at H
                have c14b0 : (((rd_T53 l0 x24_2).f0).toList == ((rd_T53 l0 x13_1).f0).toList) = true := beq_iff_eq.mpr c14
                have c14b1 : (((rd_T53 l0 x24_2).f0).toList != ((rd_T53 l0 x13_1).f0).toList) = false := bne_eq_false_iff_eq.mpr c14
                clear c14
                obtain rfl := Option.some.inj H
                have p210 : 0 ≤ (x24_2 : Int) := of_decide_eq_true ka
                have q210 : x24_2 < (l0.length : Int) := of_decide_eq_true ka
                obtain ⟨ad210, e210, hx210_0, hx210_1, hx210_2⟩ := at_T53 HR0.out x24_2 p210 q210
                obtain rfl : ad208 = ad210 := (by injection e210)
                replace p210 := eq_true p210
                replace q210 := eq_true q210
                have p211 : 0 ≤ (x13_1 : Int) := of_decide_eq_true ka
                have q211 : x13_1 < (l0.length : Int) := of_decide_eq_true ka
                obtain ⟨ad211, e211, hx211_0, hx211_1, hx211_2⟩ := at_T53 HR0.out x13_1 p211 q211
                obtain rfl : ad208 = ad211 := (by injection e211)
                replace p211 := eq_true p211
                replace q211 := eq_true q211
                go_wp2
                repeat (go_quiet (fail); try go_wp2)
                go_ret
                exact ⟨by first | rfl | (simp; done) | (simp [*]; done), by repeat (first | exact Drawn0.refl _ | apply Drawn0.step)⟩
               ·rw [if_neg c14] at H
                have c14b0 : (((rd_T53 l0 x24_2).f0).toList == ((rd_T53 l0 x13_1).f0).toList) = false := beq_eq_false_iff_ne.mpr c14
                have c14b1 : (((rd_T53 l0 x24_2).f0).toList != ((rd_T53 l0 x13_1).f0).toList) = true := bne_iff_ne.mpr c14
                have H' := Aside0.mk H
                clear H
                have p210 : 0 ≤ (x24_2 : Int) := of_decide_eq_true ka
                have q210 : x24_2 < (l0.length : Int) := of_decide_eq_true ka
                obtain ⟨ad210, e210, hx210_0, hx210_1, hx210_2⟩ := at_T53 HR0.out x24_2 p210 q210
                obtain rfl : ad208 = ad210 := (by injection e210)
                replace p210 := eq_true p210
                replace q210 := eq_true q210
                have p211 : 0 ≤ (x13_1 : Int) := of_decide_eq_true ka
                have q211 : x13_1 < (l0.length : Int) := of_decide_eq_true ka
                obtain ⟨ad211, e211, hx211_0, hx211_1, hx211_2⟩ := at_T53 HR0.out x13_1 p211 q211
                obtain rfl : ad208 = ad211 := (by injection e211)
                replace p211 := eq_true p211
                replace q211 := eq_true q211
                go_wp2
                repeat (go_quiet (fail); try go_wp2)
                go_roundg k2
                case measure => have := HK1.out; have := HK2.out; omega
                case rel => exact ⟨(wrap64 (x24_2 + 1)), rs, H', ⟨by have := HK1.out; have := HK2.out; omega⟩, by repeat (first | exact Drawn0.refl _ | apply Drawn0.step)⟩
              ·rw [if_neg c13] at H
               exact absurd H (by simp)
             ·rw [if_neg c12] at H
              exact absurd H (by simp)
            ·rw [if_neg c11] at H
             exact absurd H (by simp)
           ·rw [if_neg c10] at H
            exact absurd H (by simp)
          ·rw [if_neg c9] at H
           have c9b0 : decide (x24_2 < x13_1) = false := decide_eq_false c9
           clear c9
           by_cases c15 : 0 ≤ x13_1
           ·rw [if_pos c15] at H
            have c15b0 : decide (0 ≤ x13_1) = true := decide_eq_true c15
            clear c15
            by_cases c16 : x13_1 < (l0.length : Int)
            ·rw [if_pos c16] at H
             have c16b0 : decide (x13_1 < (l0.length : Int)) = true := decide_eq_true c16
             clear c16
             replace H := Option.bind_eq_some_iff.mp H
             obtain ⟨t213, A170, H⟩ := H
             replace H : (if t213 = true then ((ephemerisref1_In.f ((rd_T53 l0 x13_1).f2) 0 400).bind fun t215 => (if t215 = true then (if x3_1 = true then (if x4_1 = true then (ephemerisref1_MonthsError.l0 k2 l0 true true (l0.length : Int) (wrap64 (x13_1 + 1))) else (ephemerisref1_MonthsError.l0 k2 l0 true (decide (((rd_T53 l0 x13_1).f2) > 0)) (l0.length : Int) (wrap64 (x13_1 + 1)))) else (if x4_1 = true then (ephemerisref1_MonthsError.l0 k2 l0 (decide (((rd_T53 l0 x13_1).f1) > 0)) true (l0.length : Int) (wrap64 (x13_1 + 1))) else (ephemerisref1_MonthsError.l0 k2 l0 (decide (((rd_T53 l0 x13_1).f1) > 0)) (decide (((rd_T53 l0 x13_1).f2) > 0)) (l0.length : Int) (wrap64 (x13_1 + 1))))) else (some 3))) else (some 3)) = some r := H
             have A17 := Aside0.mk A170
             clear A170
             by_cases c18 : t213 = true
             ·subst c18
              have H1 : ((ephemerisref1_In.f ((rd_T53 l0 x13_1).f2) 0 400).bind fun t215 => (if t215 = true then (if x3_1 = true then (if x4_1 = true then (ephemerisref1_MonthsError.l0 k2 l0 true true (l0.length : Int) (wrap64 (x13_1 + 1))) else (ephemerisref1_MonthsError.l0 k2 l0 true (decide (((rd_T53 l0 x13_1).f2) > 0)) (l0.length : Int) (wrap64 (x13_1 + 1)))) else (if x4_1 = true then (ephemerisref1_MonthsError.l0 k2 l0 (decide (((rd_T53 l0 x13_1).f1) > 0)) true (l0.length : Int) (wrap64 (x13_1 + 1))) else (ephemerisref1_MonthsError.l0 k2 l0 (decide (((rd_T53 l0 x13_1).f1) > 0)) (decide (((rd_T53 l0 x13_1).f2) > 0)) (l0.length : Int) (wrap64 (x13_1 + 1))))) else (some 3))) = some r := by rw [if_pos rfl] at H; exact H
              clear H
              have H := H1
              clear H1
              replace H := Option.bind_eq_some_iff.mp H
              obtain ⟨t215, A190, H⟩ := H
              replace H : (if t215 = true then (if x3_1 = true then (if x4_1 = true then (ephemerisref1_MonthsError.l0 k2 l0 true true (l0.length : Int) (wrap64 (x13_1 + 1))) else (ephemerisref1_MonthsError.l0 k2 l0 true (decide (((rd_T53 l0 x13_1).f2) > 0)) (l0.length : Int) (wrap64 (x13_1 + 1)))) else (if x4_1 = true then (ephemerisref1_MonthsError.l0 k2 l0 (decide (((rd_T53 l0 x13_1).f1) > 0)) true (l0.length : Int) (wrap64 (x13_1 + 1))) else (ephemerisref1_MonthsError.l0 k2 l0 (decide (((rd_T53 l0 x13_1).f1) > 0)) (decide (((rd_T53 l0 x13_1).f2) > 0)) (l0.length : Int) (wrap64 (x13_1 + 1))))) else (some 3)) = some r := H
              have A19 := Aside0.mk A190
              clear A190
              by_cases c20 : t215 = true
              ·subst c20
               have H1 : (if x3_1 = true then (if x4_1 = true then (ephemerisref1_MonthsError.l0 k2 l0 true true (l0.length : Int) (wrap64 (x13_1 + 1))) else (ephemerisref1_MonthsError.l0 k2 l0 true (decide (((rd_T53 l0 x13_1).f2) > 0)) (l0.length : Int) (wrap64 (x13_1 + 1)))) else (if x4_1 = true then (ephemerisref1_MonthsError.l0 k2 l0 (decide (((rd_T53 l0 x13_1).f1) > 0)) true (l0.length : Int) (wrap64 (x13_1 + 1))) else (ephemerisref1_MonthsError.l0 k2 l0 (decide (((rd_T53 l0 x13_1).f1) > 0)) (decide (((rd_T53 l0 x13_1).f2) > 0)) (l0.length : Int) (wrap64 (x13_1 + 1))))) = some r := by rw [if_pos rfl] at H; exact H
               clear H
               have H := H1
               clear H1
               by_cases c21 : x3_1 = true
               ·subst c21
                have H1 : (if x4_1 = true then (ephemerisref1_MonthsError.l0 k2 l0 true true (l0.length : Int) (wrap64 (x13_1 + 1))) else (ephemerisref1_MonthsError.l0 k2 l0 true (decide (((rd_T53 l0 x13_1).f2) > 0)) (l0.length : Int) (wrap64 (x13_1 + 1)))) = some r := by rw [if_pos rfl] at H; exact H
                clear H
                have H := H1
                clear H1
                by_cases c22 : x4_1 = true
                ·subst c22
                 have H1 : (ephemerisref1_MonthsError.l0 k2 l0 true true (l0.length : Int) (wrap64 (x13_1 + 1))) = some r := by rw [if_pos rfl] at H; exact H
                 clear H
                 have H := H1
                 clear H1
                 have H' := Aside0.mk H
                 clear H
                 have p212 : 0 ≤ (x13_1 : Int) := of_decide_eq_true ka
                 have q212 : x13_1 < (l0.length : Int) := of_decide_eq_true ka
                 obtain ⟨ad212, e212, hx212_0, hx212_1, hx212_2⟩ := at_T53 HR0.out x13_1 p212 q212
                 obtain rfl : ad208 = ad212 := (by injection e212)
                 replace p212 := eq_true p212
                 replace q212 := eq_true q212
                 go_wp2_with (first | (go_at_call 12; (with_reducible refine (ephemerisref1_In.calls ((rd_T53 l0 x13_1).f1) 0 400 true _ A17.out).mono ?_); rintro e w' ⟨rfl, ⟨nd, rfl⟩⟩; (try first | exact ⟨rfl, _, World.drewN_drewN _ _ _⟩ | exact ⟨rfl, _, Eq.trans (World.drewN_drewN _ _ _) (congrArg (World.drewN _) (Nat.add_assoc _ _ _))⟩); have p214 : 0 ≤ (x13_1 : Int) := of_decide_eq_true ka; have q214 : x13_1 < (l0.length : Int) := of_decide_eq_true ka; obtain ⟨ad214, e214, hx214_0, hx214_1, hx214_2⟩ := at_T53 HR0.out x13_1 p214 q214; obtain rfl : ad208 = ad214 := (by injection e214); replace p214 := eq_true p214; replace q214 := eq_true q214) | (go_at_call 12; (with_reducible refine (ephemerisref1_In.calls ((rd_T53 l0 x13_1).f2) 0 400 true _ A19.out).mono ?_); rintro e w' ⟨rfl, ⟨nd, rfl⟩⟩; (try first | exact ⟨rfl, _, World.drewN_drewN _ _ _⟩ | exact ⟨rfl, _, Eq.trans (World.drewN_drewN _ _ _) (congrArg (World.drewN _) (Nat.add_assoc _ _ _))⟩)))
                 repeat (go_quiet (first | (go_at_call 12; (with_reducible refine (ephemerisref1_In.calls ((rd_T53 l0 x13_1).f1) 0 400 true _ A17.out).mono ?_); rintro e w' ⟨rfl, ⟨nd, rfl⟩⟩; (try first | exact ⟨rfl, _, World.drewN_drewN _ _ _⟩ | exact ⟨rfl, _, Eq.trans (World.drewN_drewN _ _ _) (congrArg (World.drewN _) (Nat.add_assoc _ _ _))⟩); have p214 : 0 ≤ (x13_1 : Int) := of_decide_eq_true ka; have q214 : x13_1 < (l0.length : Int) := of_decide_eq_true ka; obtain ⟨ad214, e214, hx214_0, hx214_1, hx214_2⟩ := at_T53 HR0.out x13_1 p214 q214; obtain rfl : ad208 = ad214 := (by injection e214); replace p214 := eq_true p214; replace q214 := eq_true q214) | (go_at_call 12; (with_reducible refine (ephemerisref1_In.calls ((rd_T53 l0 x13_1).f2) 0 400 true _ A19.out).mono ?_); rintro e w' ⟨rfl, ⟨nd, rfl⟩⟩; (try first | exact ⟨rfl, _, World.drewN_drewN _ _ _⟩ | exact ⟨rfl, _, Eq.trans (World.drewN_drewN _ _ _) (congrArg (World.drewN _) (Nat.add_assoc _ _ _))⟩))); try go_wp2_with (first | (go_at_call 12; (with_reducible refine (ephemerisref1_In.calls ((rd_T53 l0 x13_1).f1) 0 400 true _ A17.out).mono ?_); rintro e w' ⟨rfl, ⟨nd, rfl⟩⟩; (try first | exact ⟨rfl, _, World.drewN_drewN _ _ _⟩ | exact ⟨rfl, _, Eq.trans (World.drewN_drewN _ _ _) (congrArg (World.drewN _) (Nat.add_assoc _ _ _))⟩); have p214 : 0 ≤ (x13_1 : Int) := of_decide_eq_true ka; have q214 : x13_1 < (l0.length : Int) := of_decide_eq_true ka; obtain ⟨ad214, e214, hx214_0, hx214_1, hx214_2⟩ := at_T53 HR0.out x13_1 p214 q214; obtain rfl : ad208 = ad214 := (by injection e214); replace p214 := eq_true p214; replace q214 := eq_true q214) | (go_at_call 12; (with_reducible refine (ephemerisref1_In.calls ((rd_T53 l0 x13_1).f2) 0 400 true _ A19.out).mono ?_); rintro e w' ⟨rfl, ⟨nd, rfl⟩⟩; (try first | exact ⟨rfl, _, World.drewN_drewN _ _ _⟩ | exact ⟨rfl, _, Eq.trans (World.drewN_drewN _ _ _) (congrArg (World.drewN _) (Nat.add_assoc _ _ _))⟩))))
                 go_roundg k2
                 case measure => have := HK1.out; have := HK2.out; omega
                 case rel => exact ⟨(true), (true), (wrap64 (x13_1 + 1)), rs, rs, rs, H', ⟨by have := HK1.out; have := HK2.out; omega⟩, by repeat (first | exact Drawn0.refl _ | apply Drawn0.step)⟩
                ·replace c22 := Bool.eq_false_iff.mpr c22
                 subst c22
                 have H1 : (ephemerisref1_MonthsError.l0 k2 l0 true (decide (((rd_T53 l0 x13_1).f2) > 0)) (l0.length : Int) (wrap64 (x13_1 + 1))) = some r := by rw [if_neg (show ¬ (false = true) by decide)] at H; exact H
                 clear H
                 have H := H1
                 clear H1
                 have H' := Aside0.mk H
                 clear H
                 have p212 : 0 ≤ (x13_1 : Int) := of_decide_eq_true ka
                 have q212 : x13_1 < (l0.length : Int) := of_decide_eq_true ka
                 obtain ⟨ad212, e212, hx212_0, hx212_1, hx212_2⟩ := at_T53 HR0.out x13_1 p212 q212
                 obtain rfl : ad208 = ad212 := (by injection e212)
                 replace p212 := eq_true p212
                 replace q212 := eq_true q212
                 go_wp2_with (first | (go_at_call 12; (with_reducible refine (ephemerisref1_In.calls ((rd_T53 l0 x13_1).f1) 0 400 true _ A17.out).mono ?_); rintro e w' ⟨rfl, ⟨nd, rfl⟩⟩; (try first | exact ⟨rfl, _, World.drewN_drewN _ _ _⟩ | exact ⟨rfl, _, Eq.trans (World.drewN_drewN _ _ _) (congrArg (World.drewN _) (Nat.add_assoc _ _ _))⟩); have p214 : 0 ≤ (x13_1 : Int) := of_decide_eq_true ka; have q214 : x13_1 < (l0.length : Int) := of_decide_eq_true ka; obtain ⟨ad214, e214, hx214_0, hx214_1, hx214_2⟩ := at_T53 HR0.out x13_1 p214 q214; obtain rfl : ad208 = ad214 := (by injection e214); replace p214 := eq_true p214; replace q214 := eq_true q214) | (go_at_call 12; (with_reducible refine (ephemerisref1_In.calls ((rd_T53 l0 x13_1).f2) 0 400 true _ A19.out).mono ?_); rintro e w' ⟨rfl, ⟨nd, rfl⟩⟩; (try first | exact ⟨rfl, _, World.drewN_drewN _ _ _⟩ | exact ⟨rfl, _, Eq.trans (World.drewN_drewN _ _ _) (congrArg (World.drewN _) (Nat.add_assoc _ _ _))⟩); have p216 : 0 ≤ (x13_1 : Int) := of_decide_eq_true ka; have q216 : x13_1 < (l0.length : Int) := of_decide_eq_true ka; obtain ⟨ad216, e216, hx216_0, hx216_1, hx216_2⟩ := at_T53 HR0.out x13_1 p216 q216; obtain rfl : ad208 = ad216 := (by injection e216); replace p216 := eq_true p216; replace q216 := eq_true q216))
                 repeat (go_quiet (first | (go_at_call 12; (with_reducible refine (ephemerisref1_In.calls ((rd_T53 l0 x13_1).f1) 0 400 true _ A17.out).mono ?_); rintro e w' ⟨rfl, ⟨nd, rfl⟩⟩; (try first | exact ⟨rfl, _, World.drewN_drewN _ _ _⟩ | exact ⟨rfl, _, Eq.trans (World.drewN_drewN _ _ _) (congrArg (World.drewN _) (Nat.add_assoc _ _ _))⟩); have p214 : 0 ≤ (x13_1 : Int) := of_decide_eq_true ka; have q214 : x13_1 < (l0.length : Int) := of_decide_eq_true ka; obtain ⟨ad214, e214, hx214_0, hx214_1, hx214_2⟩ := at_T53 HR0.out x13_1 p214 q214; obtain rfl : ad208 = ad214 := (by injection e214); replace p214 := eq_true p214; replace q214 := eq_true q214) | (go_at_call 12; (with_reducible refine (ephemerisref1_In.calls ((rd_T53 l0 x13_1).f2) 0 400 true _ A19.out).mono ?_); rintro e w' ⟨rfl, ⟨nd, rfl⟩⟩; (try first | exact ⟨rfl, _, World.drewN_drewN _ _ _⟩ | exact ⟨rfl, _, Eq.trans (World.drewN_drewN _ _ _) (congrArg (World.drewN _) (Nat.add_assoc _ _ _))⟩); have p216 : 0 ≤ (x13_1 : Int) := of_decide_eq_true ka; have q216 : x13_1 < (l0.length : Int) := of_decide_eq_true ka; obtain ⟨ad216, e216, hx216_0, hx216_1, hx216_2⟩ := at_T53 HR0.out x13_1 p216 q216; obtain rfl : ad208 = ad216 := (by injection e216); replace p216 := eq_true p216; replace q216 := eq_true q216)); try go_wp2_with (first | (go_at_call 12; (with_reducible refine (ephemerisref1_In.calls ((rd_T53 l0 x13_1).f1) 0 400 true _ A17.out).mono ?_); rintro e w' ⟨rfl, ⟨nd, rfl⟩⟩; (try first | exact ⟨rfl, _, World.drewN_drewN _ _ _⟩ | exact ⟨rfl, _, Eq.trans (World.drewN_drewN _ _ _) (congrArg (World.drewN _) (Nat.add_assoc _ _ _))⟩); have p214 : 0 ≤ (x13_1 : Int) := of_decide_eq_true ka; have q214 : x13_1 < (l0.length : Int) := of_decide_eq_true ka; obtain ⟨ad214, e214, hx214_0, hx214_1, hx214_2⟩ := at_T53 HR0.out x13_1 p214 q214; obtain rfl : ad208 = ad214 := (by injection e214); replace p214 := eq_true p214; replace q214 := eq_true q214) | (go_at_call 12; (with_reducible refine (ephemerisref1_In.calls ((rd_T53 l0 x13_1).f2) 0 400 true _ A19.out).mono ?_); rintro e w' ⟨rfl, ⟨nd, rfl⟩⟩; (try first | exact ⟨rfl, _, World.drewN_drewN _ _ _⟩ | exact ⟨rfl, _, Eq.trans (World.drewN_drewN _ _ _) (congrArg (World.drewN _) (Nat.add_assoc _ _ _))⟩); have p216 : 0 ≤ (x13_1 : Int) := of_decide_eq_true ka; have q216 : x13_1 < (l0.length : Int) := of_decide_eq_true ka; obtain ⟨ad216, e216, hx216_0, hx216_1, hx216_2⟩ := at_T53 HR0.out x13_1 p216 q216; obtain rfl : ad208 = ad216 := (by injection e216); replace p216 := eq_true p216; replace q216 := eq_true q216)))
                 go_roundg k2
                 case measure => have := HK1.out; have := HK2.out; omega
                 case rel => exact ⟨(true), (decide (((rd_T53 l0 x13_1).f2) > 0)), (wrap64 (x13_1 + 1)), rs, rs, rs, H', ⟨by have := HK1.out; have := HK2.out; omega⟩, by repeat (first | exact Drawn0.refl _ | apply Drawn0.step)⟩
               ·replace c21 := Bool.eq_false_iff.mpr c21
                subst c21
                have H1 : (if x4_1 = true then (ephemerisref1_MonthsError.l0 k2 l0 (decide (((rd_T53 l0 x13_1).f1) > 0)) true (l0.length : Int) (wrap64 (x13_1 + 1))) else (ephemerisref1_MonthsError.l0 k2 l0 (decide (((rd_T53 l0 x13_1).f1) > 0)) (decide (((rd_T53 l0 x13_1).f2) > 0)) (l0.length : Int) (wrap64 (x13_1 + 1)))) = some r := by rw [if_neg (show ¬ (false = true) by decide)] at H; exact H
                clear H
                have H := H1
                clear H1
                by_cases c23 : x4_1 = true
                ·subst c23
                 have H1 : (ephemerisref1_MonthsError.l0 k2 l0 (decide (((rd_T53 l0 x13_1).f1) > 0)) true (l0.length : Int) (wrap64 (x13_1 + 1))) = some r := by rw [if_pos rfl] at H; exact H
                 clear H
                 have H := H1
                 clear H1
                 have H' := Aside0.mk H
                 clear H
                 have p212 : 0 ≤ (x13_1 : Int) := of_decide_eq_true ka
                 have q212 : x13_1 < (l0.length : Int) := of_decide_eq_true ka
                 obtain ⟨ad212, e212, hx212_0, hx212_1, hx212_2⟩ := at_T53 HR0.out x13_1 p212 q212
                 obtain rfl : ad208 = ad212 := (by injection e212)
                 replace p212 := eq_true p212
                 replace q212 := eq_true q212
                 go_wp2_with (first | (go_at_call 12; (with_reducible refine (ephemerisref1_In.calls ((rd_T53 l0 x13_1).f1) 0 400 true _ A17.out).mono ?_); rintro e w' ⟨rfl, ⟨nd, rfl⟩⟩; (try first | exact ⟨rfl, _, World.drewN_drewN _ _ _⟩ | exact ⟨rfl, _, Eq.trans (World.drewN_drewN _ _ _) (congrArg (World.drewN _) (Nat.add_assoc _ _ _))⟩); have p214 : 0 ≤ (x13_1 : Int) := of_decide_eq_true ka; have q214 : x13_1 < (l0.length : Int) := of_decide_eq_true ka; obtain ⟨ad214, e214, hx214_0, hx214_1, hx214_2⟩ := at_T53 HR0.out x13_1 p214 q214; obtain rfl : ad208 = ad214 := (by injection e214); replace p214 := eq_true p214; replace q214 := eq_true q214) | (go_at_call 12; (with_reducible refine (ephemerisref1_In.calls ((rd_T53 l0 x13_1).f2) 0 400 true _ A19.out).mono ?_); rintro e w' ⟨rfl, ⟨nd, rfl⟩⟩; (try first | exact ⟨rfl, _, World.drewN_drewN _ _ _⟩ | exact ⟨rfl, _, Eq.trans (World.drewN_drewN _ _ _) (congrArg (World.drewN _) (Nat.add_assoc _ _ _))⟩); have p217 : 0 ≤ (x13_1 : Int) := of_decide_eq_true ka; have q217 : x13_1 < (l0.length : Int) := of_decide_eq_true ka; obtain ⟨ad217, e217, hx217_0, hx217_1, hx217_2⟩ := at_T53 HR0.out x13_1 p217 q217; obtain rfl : ad208 = ad217 := (by injection e217); replace p217 := eq_true p217; replace q217 := eq_true q217))
                 repeat (go_quiet (first | (go_at_call 12; (with_reducible refine (ephemerisref1_In.calls ((rd_T53 l0 x13_1).f1) 0 400 true _ A17.out).mono ?_); rintro e w' ⟨rfl, ⟨nd, rfl⟩⟩; (try first | exact ⟨rfl, _, World.drewN_drewN _ _ _⟩ | exact ⟨rfl, _, Eq.trans (World.drewN_drewN _ _ _) (congrArg (World.drewN _) (Nat.add_assoc _ _ _))⟩); have p214 : 0 ≤ (x13_1 : Int) := of_decide_eq_true ka; have q214 : x13_1 < (l0.length : Int) := of_decide_eq_true ka; obtain ⟨ad214, e214, hx214_0, hx214_1, hx214_2⟩ := at_T53 HR0.out x13_1 p214 q214; obtain rfl : ad208 = ad214 := (by injection e214); replace p214 := eq_true p214; replace q214 := eq_true q214) | (go_at_call 12; (with_reducible refine (ephemerisref1_In.calls ((rd_T53 l0 x13_1).f2) 0 400 true _ A19.out).mono ?_); rintro e w' ⟨rfl, ⟨nd, rfl⟩⟩; (try first | exact ⟨rfl, _, World.drewN_drewN _ _ _⟩ | exact ⟨rfl, _, Eq.trans (World.drewN_drewN _ _ _) (congrArg (World.drewN _) (Nat.add_assoc _ _ _))⟩); have p217 : 0 ≤ (x13_1 : Int) := of_decide_eq_true ka; have q217 : x13_1 < (l0.length : Int) := of_decide_eq_true ka; obtain ⟨ad217, e217, hx217_0, hx217_1, hx217_2⟩ := at_T53 HR0.out x13_1 p217 q217; obtain rfl : ad208 = ad217 := (by injection e217); replace p217 := eq_true p217; replace q217 := eq_true q217)); try go_wp2_with (first | (go_at_call 12; (with_reducible refine (ephemerisref1_In.calls ((rd_T53 l0 x13_1).f1) 0 400 true _ A17.out).mono ?_); rintro e w' ⟨rfl, ⟨nd, rfl⟩⟩; (try first | exact ⟨rfl, _, World.drewN_drewN _ _ _⟩ | exact ⟨rfl, _, Eq.trans (World.drewN_drewN _ _ _) (congrArg (World.drewN _) (Nat.add_assoc _ _ _))⟩); have p214 : 0 ≤ (x13_1 : Int) := of_decide_eq_true ka; have q214 : x13_1 < (l0.length : Int) := of_decide_eq_true ka; obtain ⟨ad214, e214, hx214_0, hx214_1, hx214_2⟩ := at_T53 HR0.out x13_1 p214 q214; obtain rfl : ad208 = ad214 := (by injection e214); replace p214 := eq_true p214; replace q214 := eq_true q214) | (go_at_call 12; (with_reducible refine (ephemerisref1_In.calls ((rd_T53 l0 x13_1).f2) 0 400 true _ A19.out).mono ?_); rintro e w' ⟨rfl, ⟨nd, rfl⟩⟩; (try first | exact ⟨rfl, _, World.drewN_drewN _ _ _⟩ | exact ⟨rfl, _, Eq.trans (World.drewN_drewN _ _ _) (congrArg (World.drewN _) (Nat.add_assoc _ _ _))⟩); have p217 : 0 ≤ (x13_1 : Int) := of_decide_eq_true ka; have q217 : x13_1 < (l0.length : Int) := of_decide_eq_true ka; obtain ⟨ad217, e217, hx217_0, hx217_1, hx217_2⟩ := at_T53 HR0.out x13_1 p217 q217; obtain rfl : ad208 = ad217 := (by injection e217); replace p217 := eq_true p217; replace q217 := eq_true q217)))
                 go_roundg k2
                 case measure => have := HK1.out; have := HK2.out; omega
                 case rel => exact ⟨(decide (((rd_T53 l0 x13_1).f1) > 0)), (true), (wrap64 (x13_1 + 1)), rs, rs, rs, H', ⟨by have := HK1.out; have := HK2.out; omega⟩, by repeat (first | exact Drawn0.refl _ | apply Drawn0.step)⟩
                ·replace c23 := Bool.eq_false_iff.mpr c23
                 subst c23
                 have H1 : (ephemerisref1_MonthsError.l0 k2 l0 (decide (((rd_T53 l0 x13_1).f1) > 0)) (decide (((rd_T53 l0 x13_1).f2) > 0)) (l0.length : Int) (wrap64 (x13_1 + 1))) = some r := by rw [if_neg (show ¬ (false = true) by decide)] at H; exact H
                 clear H
                 have H := H1
                 clear H1
                 have H' := Aside0.mk H
                 clear H
                 have p212 : 0 ≤ (x13_1 : Int) := of_decide_eq_true ka
                 have q212 : x13_1 < (l0.length : Int) := of_decide_eq_true ka
                 obtain ⟨ad212, e212, hx212_0, hx212_1, hx212_2⟩ := at_T53 HR0.out x13_1 p212 q212
                 obtain rfl : ad208 = ad212 := (by injection e212)
                 replace p212 := eq_true p212
                 replace q212 := eq_true q212
                 go_wp2_with (first | (go_at_call 12; (with_reducible refine (ephemerisref1_In.calls ((rd_T53 l0 x13_1).f1) 0 400 true _ A17.out).mono ?_); rintro e w' ⟨rfl, ⟨nd, rfl⟩⟩; (try first | exact ⟨rfl, _, World.drewN_drewN _ _ _⟩ | exact ⟨rfl, _, Eq.trans (World.drewN_drewN _ _ _) (congrArg (World.drewN _) (Nat.add_assoc _ _ _))⟩); have p214 : 0 ≤ (x13_1 : Int) := of_decide_eq_true ka; have q214 : x13_1 < (l0.length : Int) := of_decide_eq_true ka; obtain ⟨ad214, e214, hx214_0, hx214_1, hx214_2⟩ := at_T53 HR0.out x13_1 p214 q214; obtain rfl : ad208 = ad214 := (by injection e214); replace p214 := eq_true p214; replace q214 := eq_true q214) | (go_at_call 12; (with_reducible refine (ephemerisref1_In.calls ((rd_T53 l0 x13_1).f2) 0 400 true _ A19.out).mono ?_); rintro e w' ⟨rfl, ⟨nd, rfl⟩⟩; (try first | exact ⟨rfl, _, World.drewN_drewN _ _ _⟩ | exact ⟨rfl, _, Eq.trans (World.drewN_drewN _ _ _) (congrArg (World.drewN _) (Nat.add_assoc _ _ _))⟩); have p217 : 0 ≤ (x13_1 : Int) := of_decide_eq_true ka; have q217 : x13_1 < (l0.length : Int) := of_decide_eq_true ka; obtain ⟨ad217, e217, hx217_0, hx217_1, hx217_2⟩ := at_T53 HR0.out x13_1 p217 q217; obtain rfl : ad208 = ad217 := (by injection e217); replace p217 := eq_true p217; replace q217 := eq_true q217; have p218 : 0 ≤ (x13_1 : Int) := of_decide_eq_true ka; have q218 : x13_1 < (l0.length : Int) := of_decide_eq_true ka; obtain ⟨ad218, e218, hx218_0, hx218_1, hx218_2⟩ := at_T53 HR0.out x13_1 p218 q218; obtain rfl : ad208 = ad218 := (by injection e218); replace p218 := eq_true p218; replace q218 := eq_true q218))
                 repeat (go_quiet (first | (go_at_call 12; (with_reducible refine (ephemerisref1_In.calls ((rd_T53 l0 x13_1).f1) 0 400 true _ A17.out).mono ?_); rintro e w' ⟨rfl, ⟨nd, rfl⟩⟩; (try first | exact ⟨rfl, _, World.drewN_drewN _ _ _⟩ | exact ⟨rfl, _, Eq.trans (World.drewN_drewN _ _ _) (congrArg (World.drewN _) (Nat.add_assoc _ _ _))⟩); have p214 : 0 ≤ (x13_1 : Int) := of_decide_eq_true ka; have q214 : x13_1 < (l0.length : Int) := of_decide_eq_true ka; obtain ⟨ad214, e214, hx214_0, hx214_1, hx214_2⟩ := at_T53 HR0.out x13_1 p214 q214; obtain rfl : ad208 = ad214 := (by injection e214); replace p214 := eq_true p214; replace q214 := eq_true q214) | (go_at_call 12; (with_reducible refine (ephemerisref1_In.calls ((rd_T53 l0 x13_1).f2) 0 400 true _ A19.out).mono ?_); rintro e w' ⟨rfl, ⟨nd, rfl⟩⟩; (try first | exact ⟨rfl, _, World.drewN_drewN _ _ _⟩ | exact ⟨rfl, _, Eq.trans (World.drewN_drewN _ _ _) (congrArg (World.drewN _) (Nat.add_assoc _ _ _))⟩); have p217 : 0 ≤ (x13_1 : Int) := of_decide_eq_true ka; have q217 : x13_1 < (l0.length : Int) := of_decide_eq_true ka; obtain ⟨ad217, e217, hx217_0, hx217_1, hx217_2⟩ := at_T53 HR0.out x13_1 p217 q217; obtain rfl : ad208 = ad217 := (by injection e217); replace p217 := eq_true p217; replace q217 := eq_true q217; have p218 : 0 ≤ (x13_1 : Int) := of_decide_eq_true ka; have q218 : x13_1 < (l0.length : Int) := of_decide_eq_true ka; obtain ⟨ad218, e218, hx218_0, hx218_1, hx218_2⟩ := at_T53 HR0.out x13_1 p218 q218; obtain rfl : ad208 = ad218 := (by injection e218); replace p218 := eq_true p218; replace q218 := eq_true q218)); try go_wp2_with (first | (go_at_call 12; (with_reducible refine (ephemerisref1_In.calls ((rd_T53 l0 x13_1).f1) 0 400 true _ A17.out).mono ?_); rintro e w' ⟨rfl, ⟨nd, rfl⟩⟩; (try first | exact ⟨rfl, _, World.drewN_drewN _ _ _⟩ | exact ⟨rfl, _, Eq.trans (World.drewN_drewN _ _ _) (congrArg (World.drewN _) (Nat.add_assoc _ _ _))⟩); have p214 : 0 ≤ (x13_1 : Int) := of_decide_eq_true ka; have q214 : x13_1 < (l0.length : Int) := of_decide_eq_true ka; obtain ⟨ad214, e214, hx214_0, hx214_1, hx214_2⟩ := at_T53 HR0.out x13_1 p214 q214; obtain rfl : ad208 = ad214 := (by injection e214); replace p214 := eq_true p214; replace q214 := eq_true q214) | (go_at_call 12; (with_reducible refine (ephemerisref1_In.calls ((rd_T53 l0 x13_1).f2) 0 400 true _ A19.out).mono ?_); rintro e w' ⟨rfl, ⟨nd, rfl⟩⟩; (try first | exact ⟨rfl, _, World.drewN_drewN _ _ _⟩ | exact ⟨rfl, _, Eq.trans (World.drewN_drewN _ _ _) (congrArg (World.drewN _) (Nat.add_assoc _ _ _))⟩); have p217 : 0 ≤ (x13_1 : Int) := of_decide_eq_true ka; have q217 : x13_1 < (l0.length : Int) := of_decide_eq_true ka; obtain ⟨ad217, e217, hx217_0, hx217_1, hx217_2⟩ := at_T53 HR0.out x13_1 p217 q217; obtain rfl : ad208 = ad217 := (by injection e217); replace p217 := eq_true p217; replace q217 := eq_true q217; have p218 : 0 ≤ (x13_1 : Int) := of_decide_eq_true ka; have q218 : x13_1 < (l0.length : Int) := of_decide_eq_true ka; obtain ⟨ad218, e218, hx218_0, hx218_1, hx218_2⟩ := at_T53 HR0.out x13_1 p218 q218; obtain rfl : ad208 = ad218 := (by injection e218); replace p218 := eq_true p218; replace q218 := eq_true q218)))
                 go_roundg k2
                 case measure => have := HK1.out; have := HK2.out; omega
                 case rel => exact ⟨(decide (((rd_T53 l0 x13_1).f1) > 0)), (decide (((rd_T53 l0 x13_1).f2) > 0)), (wrap64 (x13_1 + 1)), rs, rs, rs, H', ⟨by have := HK1.out; have := HK2.out; omega⟩, by repeat (first | exact Drawn0.refl _ | apply Drawn0.step)⟩
              ·replace c20 := Bool.eq_false_iff.mpr c20
               subst c20
               have H1 : (some 3) = some r := by rw [if_neg (show ¬ (false = true) by decide)] at H; exact H
               clear H
               have H := H1
               clear H1
               obtain rfl := Option.some.inj H
               have p212 : 0 ≤ (x13_1 : Int) := of_decide_eq_true ka
               have q212 : x13_1 < (l0.length : Int) := of_decide_eq_true ka
               obtain ⟨ad212, e212, hx212_0, hx212_1, hx212_2⟩ := at_T53 HR0.out x13_1 p212 q212
               obtain rfl : ad208 = ad212 := (by injection e212)
               replace p212 := eq_true p212
               replace q212 := eq_true q212
               go_wp2_with (first | (go_at_call 12; (with_reducible refine (ephemerisref1_In.calls ((rd_T53 l0 x13_1).f1) 0 400 true _ A17.out).mono ?_); rintro e w' ⟨rfl, ⟨nd, rfl⟩⟩; (try first | exact ⟨rfl, _, World.drewN_drewN _ _ _⟩ | exact ⟨rfl, _, Eq.trans (World.drewN_drewN _ _ _) (congrArg (World.drewN _) (Nat.add_assoc _ _ _))⟩); have p214 : 0 ≤ (x13_1 : Int) := of_decide_eq_true ka; have q214 : x13_1 < (l0.length : Int) := of_decide_eq_true ka; obtain ⟨ad214, e214, hx214_0, hx214_1, hx214_2⟩ := at_T53 HR0.out x13_1 p214 q214; obtain rfl : ad208 = ad214 := (by injection e214); replace p214 := eq_true p214; replace q214 := eq_true q214) | (go_at_call 12; (with_reducible refine (ephemerisref1_In.calls ((rd_T53 l0 x13_1).f2) 0 400 false _ A19.out).mono ?_); rintro e w' ⟨rfl, ⟨nd, rfl⟩⟩; (try first | exact ⟨rfl, _, World.drewN_drewN _ _ _⟩ | exact ⟨rfl, _, Eq.trans (World.drewN_drewN _ _ _) (congrArg (World.drewN _) (Nat.add_assoc _ _ _))⟩)))
               repeat (go_quiet (first | (go_at_call 12; (with_reducible refine (ephemerisref1_In.calls ((rd_T53 l0 x13_1).f1) 0 400 true _ A17.out).mono ?_); rintro e w' ⟨rfl, ⟨nd, rfl⟩⟩; (try first | exact ⟨rfl, _, World.drewN_drewN _ _ _⟩ | exact ⟨rfl, _, Eq.trans (World.drewN_drewN _ _ _) (congrArg (World.drewN _) (Nat.add_assoc _ _ _))⟩); have p214 : 0 ≤ (x13_1 : Int) := of_decide_eq_true ka; have q214 : x13_1 < (l0.length : Int) := of_decide_eq_true ka; obtain ⟨ad214, e214, hx214_0, hx214_1, hx214_2⟩ := at_T53 HR0.out x13_1 p214 q214; obtain rfl : ad208 = ad214 := (by injection e214); replace p214 := eq_true p214; replace q214 := eq_true q214) | (go_at_call 12; (with_reducible refine (ephemerisref1_In.calls ((rd_T53 l0 x13_1).f2) 0 400 false _ A19.out).mono ?_); rintro e w' ⟨rfl, ⟨nd, rfl⟩⟩; (try first | exact ⟨rfl, _, World.drewN_drewN _ _ _⟩ | exact ⟨rfl, _, Eq.trans (World.drewN_drewN _ _ _) (congrArg (World.drewN _) (Nat.add_assoc _ _ _))⟩))); try go_wp2_with (first | (go_at_call 12; (with_reducible refine (ephemerisref1_In.calls ((rd_T53 l0 x13_1).f1) 0 400 true _ A17.out).mono ?_); rintro e w' ⟨rfl, ⟨nd, rfl⟩⟩; (try first | exact ⟨rfl, _, World.drewN_drewN _ _ _⟩ | exact ⟨rfl, _, Eq.trans (World.drewN_drewN _ _ _) (congrArg (World.drewN _) (Nat.add_assoc _ _ _))⟩); have p214 : 0 ≤ (x13_1 : Int) := of_decide_eq_true ka; have q214 : x13_1 < (l0.length : Int) := of_decide_eq_true ka; obtain ⟨ad214, e214, hx214_0, hx214_1, hx214_2⟩ := at_T53 HR0.out x13_1 p214 q214; obtain rfl : ad208 = ad214 := (by injection e214); replace p214 := eq_true p214; replace q214 := eq_true q214) | (go_at_call 12; (with_reducible refine (ephemerisref1_In.calls ((rd_T53 l0 x13_1).f2) 0 400 false _ A19.out).mono ?_); rintro e w' ⟨rfl, ⟨nd, rfl⟩⟩; (try first | exact ⟨rfl, _, World.drewN_drewN _ _ _⟩ | exact ⟨rfl, _, Eq.trans (World.drewN_drewN _ _ _) (congrArg (World.drewN _) (Nat.add_assoc _ _ _))⟩))))
               go_ret
               exact ⟨by first | rfl | (simp; done) | (simp [*]; done), by repeat (first | exact Drawn0.refl _ | apply Drawn0.step)⟩
             ·replace c18 := Bool.eq_false_iff.mpr c18
              subst c18
              have H1 : (some 3) = some r := by rw [if_neg (show ¬ (false = true) by decide)] at H; exact H
              clear H
              have H := H1
              clear H1
              obtain rfl := Option.some.inj H
              have p212 : 0 ≤ (x13_1 : Int) := of_decide_eq_true ka
              have q212 : x13_1 < (l0.length : Int) := of_decide_eq_true ka
              obtain ⟨ad212, e212, hx212_0, hx212_1, hx212_2⟩ := at_T53 HR0.out x13_1 p212 q212
              obtain rfl : ad208 = ad212 := (by injection e212)
              replace p212 := eq_true p212
              replace q212 := eq_true q212
              go_wp2_with (first | (go_at_call 12; (with_reducible refine (ephemerisref1_In.calls ((rd_T53 l0 x13_1).f1) 0 400 false _ A17.out).mono ?_); rintro e w' ⟨rfl, ⟨nd, rfl⟩⟩; (try first | exact ⟨rfl, _, World.drewN_drewN _ _ _⟩ | exact ⟨rfl, _, Eq.trans (World.drewN_drewN _ _ _) (congrArg (World.drewN _) (Nat.add_assoc _ _ _))⟩)))
              repeat (go_quiet (first | (go_at_call 12; (with_reducible refine (ephemerisref1_In.calls ((rd_T53 l0 x13_1).f1) 0 400 false _ A17.out).mono ?_); rintro e w' ⟨rfl, ⟨nd, rfl⟩⟩; (try first | exact ⟨rfl, _, World.drewN_drewN _ _ _⟩ | exact ⟨rfl, _, Eq.trans (World.drewN_drewN _ _ _) (congrArg (World.drewN _) (Nat.add_assoc _ _ _))⟩))); try go_wp2_with (first | (go_at_call 12; (with_reducible refine (ephemerisref1_In.calls ((rd_T53 l0 x13_1).f1) 0 400 false _ A17.out).mono ?_); rintro e w' ⟨rfl, ⟨nd, rfl⟩⟩; (try first | exact ⟨rfl, _, World.drewN_drewN _ _ _⟩ | exact ⟨rfl, _, Eq.trans (World.drewN_drewN _ _ _) (congrArg (World.drewN _) (Nat.add_assoc _ _ _))⟩))))
              go_ret
              exact ⟨by first | rfl | (simp; done) | (simp [*]; done), by repeat (first | exact Drawn0.refl _ | apply Drawn0.step)⟩
            ·rw [if_neg c16] at H
             exact absurd H (by simp)
           ·rw [if_neg c15] at H
            exact absurd H (by simp)
       ·replace c8 := Bool.eq_false_iff.mpr c8
        subst c8
        have H1 : (some 5) = some r := by rw [if_neg (show ¬ (false = true) by decide)] at H; exact H
        clear H
        have H := H1
        clear H1
        obtain rfl := Option.some.inj H
        have p208 : 0 ≤ (x13_1 : Int) := of_decide_eq_true ka
        have q208 : x13_1 < (l0.length : Int) := of_decide_eq_true ka
        obtain ⟨ad208, e208, hx208_0, hx208_1, hx208_2⟩ := at_T53 HR0.out x13_1 p208 q208
        cases e208
        replace p208 := eq_true p208
        replace q208 := eq_true q208
        go_wp2_with (first | (go_at_call 26; (with_reducible refine (ephemerisref1_Name.calls k1 ((rd_T53 l0 x13_1).f0) false _ A7.out).mono ?_); rintro e w' ⟨rfl, ⟨nd, rfl⟩⟩; (try first | exact ⟨rfl, _, World.drewN_drewN _ _ _⟩ | exact ⟨rfl, _, Eq.trans (World.drewN_drewN _ _ _) (congrArg (World.drewN _) (Nat.add_assoc _ _ _))⟩)))
        repeat (go_quiet (first | (go_at_call 26; (with_reducible refine (ephemerisref1_Name.calls k1 ((rd_T53 l0 x13_1).f0) false _ A7.out).mono ?_); rintro e w' ⟨rfl, ⟨nd, rfl⟩⟩; (try first | exact ⟨rfl, _, World.drewN_drewN _ _ _⟩ | exact ⟨rfl, _, Eq.trans (World.drewN_drewN _ _ _) (congrArg (World.drewN _) (Nat.add_assoc _ _ _))⟩))); try go_wp2_with (first | (go_at_call 26; (with_reducible refine (ephemerisref1_Name.calls k1 ((rd_T53 l0 x13_1).f0) false _ A7.out).mono ?_); rintro e w' ⟨rfl, ⟨nd, rfl⟩⟩; (try first | exact ⟨rfl, _, World.drewN_drewN _ _ _⟩ | exact ⟨rfl, _, Eq.trans (World.drewN_drewN _ _ _) (congrArg (World.drewN _) (Nat.add_assoc _ _ _))⟩))))
        go_ret
        exact ⟨by first | rfl | (simp; done) | (simp [*]; done), by repeat (first | exact Drawn0.refl _ | apply Drawn0.step)⟩
      ·rw [if_neg c6] at H
       exact absurd H (by simp)
     ·rw [if_neg c5] at H
      exact absurd H (by simp)
    ·rw [if_neg c4] at H
     have c4b0 : decide (x13_1 < (l0.length : Int)) = false := decide_eq_false c4
     clear c4
     by_cases c24 : x3_1 = true
     ·subst c24
      have H1 : (if x4_1 = true then (some 0) else (some 8)) = some r := by rw [if_pos rfl] at H; exact H
      clear H
      have H := H1
      clear H1
      by_cases c25 : x4_1 = true
      ·subst c25
       have H1 : (some 0) = some r := by rw [if_pos rfl] at H; exact H
       clear H
       have H := H1
       clear H1
       obtain rfl := Option.some.inj H
       go_wp2
       repeat (go_quiet (fail); try go_wp2)
       go_ret
       exact ⟨by first | rfl | (simp; done) | (simp [*]; done), by repeat (first | exact Drawn0.refl _ | apply Drawn0.step)⟩
      ·replace c25 := Bool.eq_false_iff.mpr c25
       subst c25
       have H1 : (some 8) = some r := by rw [if_neg (show ¬ (false = true) by decide)] at H; exact H
       clear H
       have H := H1
       clear H1
       obtain rfl := Option.some.inj H
       go_wp2
       repeat (go_quiet (fail); try go_wp2)
       go_ret
       exact ⟨by first | rfl | (simp; done) | (simp [*]; done), by repeat (first | exact Drawn0.refl _ | apply Drawn0.step)⟩
     ·replace c24 := Bool.eq_false_iff.mpr c24
      subst c24
      have H1 : (some 8) = some r := by rw [if_neg (show ¬ (false = true) by decide)] at H; exact H
      clear H
      have H := H1
      clear H1
      obtain rfl := Option.some.inj H
      go_wp2
      repeat (go_quiet (fail); try go_wp2)
      go_ret
      exact ⟨by first | rfl | (simp; done) | (simp [*]; done), by repeat (first | exact Drawn0.refl _ | apply Drawn0.step)⟩
 ·replace c3 := Bool.eq_false_iff.mpr c3
  subst c3
  have H1 : (some 2) = some r := by rw [if_neg (show ¬ (false = true) by decide)] at H; exact H
  clear H
  have H := H1
  clear H1
  obtain rfl := Option.some.inj H
  go_enter Tryd.func28, Tryd.ntmps28
  go_wp2_with (first | (go_at_call 12; (with_reducible refine (ephemerisref1_In.calls (l0.length : Int) 1 20 false _ A2.out).mono ?_); rintro e w' ⟨rfl, ⟨nd, rfl⟩⟩; (try first | exact ⟨rfl, _, World.drewN_drewN _ _ _⟩ | exact ⟨rfl, _, Eq.trans (World.drewN_drewN _ _ _) (congrArg (World.drewN _) (Nat.add_assoc _ _ _))⟩)))
  repeat (go_quiet (first | (go_at_call 12; (with_reducible refine (ephemerisref1_In.calls (l0.length : Int) 1 20 false _ A2.out).mono ?_); rintro e w' ⟨rfl, ⟨nd, rfl⟩⟩; (try first | exact ⟨rfl, _, World.drewN_drewN _ _ _⟩ | exact ⟨rfl, _, Eq.trans (World.drewN_drewN _ _ _) (congrArg (World.drewN _) (Nat.add_assoc _ _ _))⟩))); try go_wp2_with (first | (go_at_call 12; (with_reducible refine (ephemerisref1_In.calls (l0.length : Int) 1 20 false _ A2.out).mono ?_); rintro e w' ⟨rfl, ⟨nd, rfl⟩⟩; (try first | exact ⟨rfl, _, World.drewN_drewN _ _ _⟩ | exact ⟨rfl, _, Eq.trans (World.drewN_drewN _ _ _) (congrArg (World.drewN _) (Nat.add_assoc _ _ _))⟩))))
  go_ret
  exact ⟨by first | rfl | (simp; done) | (simp [*]; done), by repeat (first | exact Drawn0.refl _ | apply Drawn0.step)⟩

end Go.Proofs.YtgcmclnjnimolaaDoor.PCompileCompiles
