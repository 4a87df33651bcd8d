/- The walks of the functions of this part, laid closer by a program of mine. -/
-- The walks of the law's functions, told by a program.
import Derived.Test.YtlfammlboncmeaaY
import Derived.Test.YtlfammlboncmeaaPArithLatersx0
import Derived.Test.YtlfammlboncmeaaPArithLatersx5
namespace Go.Proofs.Ytlfammlboncmeaa.PArithLaters
open Go.RowKit Go.Proofs.YtlfammlboncmeaaW.PrintWords Go.Proofs.YtlfammlboncmeaaW.PrintLast Go.Proofs.YtlfammlboncmeaaW.PrintMore Go.Proofs.Ytlfammlboncmeaa.Y
attribute [local go_sem] max2_int min2_int max_two min_two max_three min_three max_four min_four   -- for this text's walks alone
set_option linter.unusedVariables false
set_option linter.unusedSimpArgs false

/-! ### ephemerisref1_MonthsError: function 67 -/
mutual
def ephemerisref1_MonthsError.l0 : Nat → List (S125) → Bool → Bool → Int → Int → Option (Int)
 | 0, _, _, _, _, _ => none
 | k + 1, x0, x3, x4, x12, x13 => if x13 < x12 then (if 0 ≤ x13 then (if x13 < (x0.length : Int) then ((ephemerisref1_Name.f k ((rd_T125 x0 x13).f0)).bind fun t199 => (if t199 = true then (ephemerisref1_MonthsError.l1 k x0 x3 x4 x13 x12 x13 x13 0) else (some 5))) else (none)) else (none)) else (if x3 = true then (if x4 = true then (some 0) else (some 8)) else (some 8))
def ephemerisref1_MonthsError.l1 : Nat → List (S125) → Bool → Bool → Int → Int → Int → Int → Int → Option (Int)
 | 0, _, _, _, _, _, _, _, _ => none
 | k + 1, x0, x3, x4, x5, x12, x13, x23, x24 => if x24 < x23 then (if 0 ≤ x24 then (if x24 < (x0.length : Int) then (if 0 ≤ x5 then (if x5 < (x0.length : Int) then (if ((rd_T125 x0 x24).f0).toList = ((rd_T125 x0 x5).f0).toList then (some 7) else (ephemerisref1_MonthsError.l1 k x0 x3 x4 x5 x12 x13 x23 (wrap64 (x24 + 1)))) else (none)) else (none)) else (none)) else (none)) else (if 0 ≤ x5 then (if x5 < (x0.length : Int) then ((ephemerisref1_In.f ((rd_T125 x0 x5).f1) 0 400).bind fun t203 => (if t203 = true then ((ephemerisref1_In.f ((rd_T125 x0 x5).f2) 0 400).bind fun t205 => (if t205 = true then (if x3 = true then (if x4 = true then (ephemerisref1_MonthsError.l0 k x0 true true x12 (wrap64 (x13 + 1))) else (ephemerisref1_MonthsError.l0 k x0 true (decide (((rd_T125 x0 x5).f2) > 0)) x12 (wrap64 (x13 + 1)))) else (if x4 = true then (ephemerisref1_MonthsError.l0 k x0 (decide (((rd_T125 x0 x5).f1) > 0)) true x12 (wrap64 (x13 + 1))) else (ephemerisref1_MonthsError.l0 k x0 (decide (((rd_T125 x0 x5).f1) > 0)) (decide (((rd_T125 x0 x5).f2) > 0)) x12 (wrap64 (x13 + 1))))) else (some 3))) else (some 3))) else (none)) else (none))
end
def ephemerisref1_MonthsError.f (k : Nat) (l0 : List (S125)) : Option (Int) := (ephemerisref1_In.f (l0.length : Int) 1 20).bind fun t197 => (if t197 = true then (ephemerisref1_MonthsError.l0 k l0 false false (l0.length : Int) 0) else (some 2))
theorem ephemerisref1_MonthsError.mono_l : ∀ k, (∀ y0 y1 y2 y3 y4, LeO (ephemerisref1_MonthsError.l0 k y0 y1 y2 y3 y4) (ephemerisref1_MonthsError.l0 (k + 1) y0 y1 y2 y3 y4)) ∧ (∀ y0 y1 y2 y3 y4 y5 y6 y7, LeO (ephemerisref1_MonthsError.l1 k y0 y1 y2 y3 y4 y5 y6 y7) (ephemerisref1_MonthsError.l1 (k + 1) y0 y1 y2 y3 y4 y5 y6 y7))
 | 0 => ⟨fun _ _ _ _ _ r h => by simp [ephemerisref1_MonthsError.l0] at h, fun _ _ _ _ _ _ _ _ r h => by simp [ephemerisref1_MonthsError.l1] at h⟩
 | k + 1 => by
  obtain ⟨ih0, ih1⟩ := ephemerisref1_MonthsError.mono_l k
  refine ⟨?_, ?_⟩
  ·intro y0 y1 y2 y3 y4
   unfold ephemerisref1_MonthsError.l0
   repeat' first
   | (with_reducible exact ih0 _ _ _ _ _)
   | (with_reducible exact ih1 _ _ _ _ _ _ _ _)
   | (with_reducible exact ephemerisref1_Name.mono _ _)
   | (with_reducible exact LeO.refl _)
   | (with_reducible exact LeO.none _)
   | (with_reducible refine LeO.ite ?_ ?_)
   | (with_reducible refine LeO.bind ?_ (fun _ => ?_))
   | exact ih0 _ _ _ _ _
   | exact ih1 _ _ _ _ _ _ _ _
   | exact ephemerisref1_Name.mono _ _
   | exact LeO.none _
   | refine LeO.ite ?_ ?_
   | refine LeO.bind ?_ (fun _ => ?_)
  ·intro y0 y1 y2 y3 y4 y5 y6 y7
   unfold ephemerisref1_MonthsError.l1
   repeat' first
   | (with_reducible exact ih0 _ _ _ _ _)
   | (with_reducible exact ih1 _ _ _ _ _ _ _ _)
   | (with_reducible exact ephemerisref1_Name.mono _ _)
   | (with_reducible exact LeO.refl _)
   | (with_reducible exact LeO.none _)
   | (with_reducible refine LeO.ite ?_ ?_)
   | (with_reducible refine LeO.bind ?_ (fun _ => ?_))
   | exact ih0 _ _ _ _ _
   | exact ih1 _ _ _ _ _ _ _ _
   | exact ephemerisref1_Name.mono _ _
   | exact LeO.none _
   | refine LeO.ite ?_ ?_
   | refine LeO.bind ?_ (fun _ => ?_)
theorem ephemerisref1_MonthsError.mono : ∀ a0 k, LeO (ephemerisref1_MonthsError.f k a0) (ephemerisref1_MonthsError.f (k + 1) a0) := by
 intro a0 k
 obtain ⟨ih0, ih1⟩ := ephemerisref1_MonthsError.mono_l k
 unfold ephemerisref1_MonthsError.f
 repeat' first
   | (with_reducible exact ih0 _ _ _ _ _)
   | (with_reducible exact ih1 _ _ _ _ _ _ _ _)
   | (with_reducible exact ephemerisref1_Name.mono _ _)
   | (with_reducible exact LeO.refl _)
   | (with_reducible exact LeO.none _)
   | (with_reducible refine LeO.ite ?_ ?_)
   | (with_reducible refine LeO.bind ?_ (fun _ => ?_))
   | exact ih0 _ _ _ _ _
   | exact ih1 _ _ _ _ _ _ _ _
   | exact ephemerisref1_Name.mono _ _
   | exact LeO.none _
   | refine LeO.ite ?_ ?_
   | refine LeO.bind ?_ (fun _ => ?_)
set_option maxHeartbeats 8000000 in
set_option maxRecDepth 100000 in
theorem ephemerisref1_MonthsError.calls (k : Nat) (A0 : Option Addr) (c0 : Nat) (l0 : List (S125)) (r : Int) (w : World) (hr0 : Kd.C k125 w A0 l0.length l0) (hc0 : l0.length ≤ c0) (h : ephemerisref1_MonthsError.f k l0 = some r) :
  Calls Try.prog 67 #[.slice A0 l0.length c0] w fun e w' => e = .returned (.int .i64 r) ∧ Drawn0 w w' := by
 have HR0 := Aside0.mk hr0
 have HC0 := Aside0.mk hc0
 clear hr0 hc0
 have H : ((ephemerisref1_In.f (l0.length : Int) 1 20).bind fun t197 => (if t197 = true then (ephemerisref1_MonthsError.l0 k l0 false false (l0.length : Int) 0) else (some 2))) = some r := h
 clear h
 replace H := Option.bind_eq_some_iff.mp H
 obtain ⟨t197, A20, H⟩ := H
 replace H : (if t197 = true then (ephemerisref1_MonthsError.l0 k l0 false false (l0.length : Int) 0) else (some 2)) = some r := H
 have A2 := Aside0.mk A20
 clear A20
 by_cases c3 : t197 = true
 ·subst c3
  have H1 : (ephemerisref1_MonthsError.l0 k l0 false false (l0.length : Int) 0) = some r := by rw [if_pos rfl] at H; exact H
  clear H
  have H := H1
  clear H1
  have H' := Aside0.mk H
  clear H
  go_enter Try.func67, Try.ntmps67
  go_wp2_with (first | (go_at_call 21; (with_reducible refine (ephemerisref1_In.calls (l0.length : Int) 1 20 true _ A2.out).mono ?_); rintro e w' ⟨rfl, ⟨nd, rfl⟩⟩; (try first | exact ⟨rfl, _, World.drewN_drewN _ _ _⟩ | exact ⟨rfl, _, Eq.trans (World.drewN_drewN _ _ _) (congrArg (World.drewN _) (Nat.add_assoc _ _ _))⟩)))
  repeat (go_quiet (first | (go_at_call 21; (with_reducible refine (ephemerisref1_In.calls (l0.length : Int) 1 20 true _ A2.out).mono ?_); rintro e w' ⟨rfl, ⟨nd, rfl⟩⟩; (try first | exact ⟨rfl, _, World.drewN_drewN _ _ _⟩ | exact ⟨rfl, _, Eq.trans (World.drewN_drewN _ _ _) (congrArg (World.drewN _) (Nat.add_assoc _ _ _))⟩))); try go_wp2_with (first | (go_at_call 21; (with_reducible refine (ephemerisref1_In.calls (l0.length : Int) 1 20 true _ A2.out).mono ?_); rintro e w' ⟨rfl, ⟨nd, rfl⟩⟩; (try first | exact ⟨rfl, _, World.drewN_drewN _ _ _⟩ | exact ⟨rfl, _, Eq.trans (World.drewN_drewN _ _ _) (congrArg (World.drewN _) (Nat.add_assoc _ _ _))⟩))))
  go_loopg [3, 4, 13] k (fun kq v3 v4 v13 w' => ∃ (x3_1 : Bool) (x4_1 : Bool) (x13_1 : Int), v3 = .bool x3_1 ∧ v4 = .bool x4_1 ∧ v13 = .int .i64 x13_1 ∧ Aside0 (ephemerisref1_MonthsError.l0 kq l0 x3_1 x4_1 (l0.length : Int) x13_1 = some r) ∧ Aside0 (kq ≤ k) ∧ Drawn0 w w')
  case atStart => exact ⟨(false), (false), (0), rs, rs, rs, H', ⟨Nat.le_refl _⟩, by repeat (first | exact Drawn0.refl _ | apply Drawn0.step)⟩
  case round =>
   clear H'
   (try clear p2); (try clear c3)
   obtain ⟨x3_1, x4_1, x13_1, rfl, rfl, rfl, HA, HK1, ⟨m1, rfl⟩⟩ := hrel
   cases gk with
   | zero => exact absurd HA.out (by simp [ephemerisref1_MonthsError.l0])
   | succ k1 =>
    have H := HA.out
    clear HA
    simp only [ephemerisref1_MonthsError.l0] at H
    by_cases c4 : x13_1 < (l0.length : Int)
    ·rw [if_pos c4] at H
     have c4b0 : decide (x13_1 < (l0.length : Int)) = true := decide_eq_true c4
     clear c4
     by_cases c5 : 0 ≤ x13_1
     ·rw [if_pos c5] at H
      have c5b0 : decide (0 ≤ x13_1) = true := decide_eq_true c5
      clear c5
      by_cases c6 : x13_1 < (l0.length : Int)
      ·rw [if_pos c6] at H
       have c6b0 : decide (x13_1 < (l0.length : Int)) = true := decide_eq_true c6
       clear c6
       replace H := Option.bind_eq_some_iff.mp H
       obtain ⟨t199, A70, H⟩ := H
       replace H : (if t199 = true then (ephemerisref1_MonthsError.l1 k1 l0 x3_1 x4_1 x13_1 (l0.length : Int) x13_1 x13_1 0) else (some 5)) = some r := H
       have A7 := Aside0.mk A70
       clear A70
       by_cases c8 : t199 = true
       ·subst c8
        have H1 : (ephemerisref1_MonthsError.l1 k1 l0 x3_1 x4_1 x13_1 (l0.length : Int) x13_1 x13_1 0) = some r := by rw [if_pos rfl] at H; exact H
        clear H
        have H := H1
        clear H1
        have H' := Aside0.mk H
        clear H
        have p198 : 0 ≤ (x13_1 : Int) := of_decide_eq_true ka
        have q198 : x13_1 < (l0.length : Int) := of_decide_eq_true ka
        obtain ⟨ad198, e198, hx198_0, hx198_1, hx198_2⟩ := at_T125 HR0.out x13_1 p198 q198
        cases e198
        replace p198 := eq_true p198
        replace q198 := eq_true q198
        go_wp2_with (first | (go_at_call 36; (with_reducible refine (ephemerisref1_Name.calls k1 ((rd_T125 l0 x13_1).f0) true _ A7.out).mono ?_); rintro e w' ⟨rfl, ⟨nd, rfl⟩⟩; (try first | exact ⟨rfl, _, World.drewN_drewN _ _ _⟩ | exact ⟨rfl, _, Eq.trans (World.drewN_drewN _ _ _) (congrArg (World.drewN _) (Nat.add_assoc _ _ _))⟩)))
        repeat (go_quiet (first | (go_at_call 36; (with_reducible refine (ephemerisref1_Name.calls k1 ((rd_T125 l0 x13_1).f0) true _ A7.out).mono ?_); rintro e w' ⟨rfl, ⟨nd, rfl⟩⟩; (try first | exact ⟨rfl, _, World.drewN_drewN _ _ _⟩ | exact ⟨rfl, _, Eq.trans (World.drewN_drewN _ _ _) (congrArg (World.drewN _) (Nat.add_assoc _ _ _))⟩))); try go_wp2_with (first | (go_at_call 36; (with_reducible refine (ephemerisref1_Name.calls k1 ((rd_T125 l0 x13_1).f0) true _ A7.out).mono ?_); rintro e w' ⟨rfl, ⟨nd, rfl⟩⟩; (try first | exact ⟨rfl, _, World.drewN_drewN _ _ _⟩ | exact ⟨rfl, _, Eq.trans (World.drewN_drewN _ _ _) (congrArg (World.drewN _) (Nat.add_assoc _ _ _))⟩))))
        go_loopg [24] k1 (fun kq v24 w' => ∃ (x24_2 : Int), v24 = .int .i64 x24_2 ∧ Aside0 (ephemerisref1_MonthsError.l1 kq l0 x3_1 x4_1 x13_1 (l0.length : Int) x13_1 x13_1 x24_2 = some r) ∧ Aside0 (kq ≤ k1) ∧ Drawn0 w w')
        case atStart => exact ⟨(0), rs, H', ⟨Nat.le_refl _⟩, by repeat (first | exact Drawn0.refl _ | apply Drawn0.step)⟩
        case round =>
         clear H'
         (try clear p1); (try clear q1); (try clear hx1); (try clear p2); (try clear c3); (try clear c4); (try clear c4b0); (try clear c5); (try clear c5b0); (try clear c6); (try clear c6b0); (try clear c8); (try clear hx198_0); (try clear hx198_1); (try clear hx198_2); (try clear p198); (try clear p2); (try clear q198)
         obtain ⟨x24_2, rfl, HA, HK2, ⟨m2, rfl⟩⟩ := hrel
         cases gk with
         | zero => exact absurd HA.out (by simp [ephemerisref1_MonthsError.l1])
         | succ k2 =>
          have H := HA.out
          clear HA
          simp only [ephemerisref1_MonthsError.l1] at H
          by_cases c9 : x24_2 < x13_1
          ·rw [if_pos c9] at H
           have c9b0 : decide (x24_2 < x13_1) = true := decide_eq_true c9
           clear c9
           by_cases c10 : 0 ≤ x24_2
           ·rw [if_pos c10] at H
            have c10b0 : decide (0 ≤ x24_2) = true := decide_eq_true c10
            clear c10
            by_cases c11 : x24_2 < (l0.length : Int)
            ·rw [if_pos c11] at H
             have c11b0 : decide (x24_2 < (l0.length : Int)) = true := decide_eq_true c11
             clear c11
             by_cases c12 : 0 ≤ x13_1
             ·rw [if_pos c12] at H
              have c12b0 : decide (0 ≤ x13_1) = true := decide_eq_true c12
              clear c12
              by_cases c13 : x13_1 < (l0.length : Int)
              ·rw [if_pos c13] at H
               have c13b0 : decide (x13_1 < (l0.length : Int)) = true := decide_eq_true c13
               clear c13
               by_cases c14 : ((rd_T125 l0 x24_2).f0).toList = ((rd_T125 l0 x13_1).f0).toList
               ·rw [if_pos c14] at H
                have c14b0 : (((rd_T125 l0 x24_2).f0).toList == ((rd_T125 l0 x13_1).f0).toList) = true := beq_iff_eq.mpr c14
                have c14b1 : (((rd_T125 l0 x24_2).f0).toList != ((rd_T125 l0 x13_1).f0).toList) = false := bne_eq_false_iff_eq.mpr c14
                clear c14
                obtain rfl := Option.some.inj H
                have p200 : 0 ≤ (x24_2 : Int) := of_decide_eq_true ka
                have q200 : x24_2 < (l0.length : Int) := of_decide_eq_true ka
                obtain ⟨ad200, e200, hx200_0, hx200_1, hx200_2⟩ := at_T125 HR0.out x24_2 p200 q200
                obtain rfl : ad198 = ad200 := (by injection e200)
                replace p200 := eq_true p200
                replace q200 := eq_true q200
                have p201 : 0 ≤ (x13_1 : Int) := of_decide_eq_true ka
                have q201 : x13_1 < (l0.length : Int) := of_decide_eq_true ka
                obtain ⟨ad201, e201, hx201_0, hx201_1, hx201_2⟩ := at_T125 HR0.out x13_1 p201 q201
                obtain rfl : ad198 = ad201 := (by injection e201)
                replace p201 := eq_true p201
                replace q201 := eq_true q201
                go_wp2
                repeat (go_quiet (fail); try go_wp2)
                go_ret
                exact ⟨by first | rfl | (simp; done) | (simp [*]; done), by repeat (first | exact Drawn0.refl _ | apply Drawn0.step)⟩
               ·rw [if_neg c14] at H
                have c14b0 : (((rd_T125 l0 x24_2).f0).toList == ((rd_T125 l0 x13_1).f0).toList) = false := beq_eq_false_iff_ne.mpr c14
                have c14b1 : (((rd_T125 l0 x24_2).f0).toList != ((rd_T125 l0 x13_1).f0).toList) = true := bne_iff_ne.mpr c14
                have H' := Aside0.mk H
                clear H
                have p200 : 0 ≤ (x24_2 : Int) := of_decide_eq_true ka
                have q200 : x24_2 < (l0.length : Int) := of_decide_eq_true ka
                obtain ⟨ad200, e200, hx200_0, hx200_1, hx200_2⟩ := at_T125 HR0.out x24_2 p200 q200
                obtain rfl : ad198 = ad200 := (by injection e200)
                replace p200 := eq_true p200
                replace q200 := eq_true q200
                have p201 : 0 ≤ (x13_1 : Int) := of_decide_eq_true ka
                have q201 : x13_1 < (l0.length : Int) := of_decide_eq_true ka
                obtain ⟨ad201, e201, hx201_0, hx201_1, hx201_2⟩ := at_T125 HR0.out x13_1 p201 q201
                obtain rfl : ad198 = ad201 := (by injection e201)
                replace p201 := eq_true p201
                replace q201 := eq_true q201
                go_wp2
                repeat (go_quiet (fail); try go_wp2)
                go_roundg k2
                case measure => have := HK1.out; have := HK2.out; omega
                case rel => exact ⟨(wrap64 (x24_2 + 1)), rs, H', ⟨by have := HK1.out; have := HK2.out; omega⟩, by repeat (first | exact Drawn0.refl _ | apply Drawn0.step)⟩
              ·rw [if_neg c13] at H
               exact absurd H (by simp)
             ·rw [if_neg c12] at H
              exact absurd H (by simp)
            ·rw [if_neg c11] at H
             exact absurd H (by simp)
           ·rw [if_neg c10] at H
            exact absurd H (by simp)
          ·rw [if_neg c9] at H
           have c9b0 : decide (x24_2 < x13_1) = false := decide_eq_false c9
           clear c9
           by_cases c15 : 0 ≤ x13_1
           ·rw [if_pos c15] at H
            have c15b0 : decide (0 ≤ x13_1) = true := decide_eq_true c15
            clear c15
            by_cases c16 : x13_1 < (l0.length : Int)
            ·rw [if_pos c16] at H
             have c16b0 : decide (x13_1 < (l0.length : Int)) = true := decide_eq_true c16
             clear c16
             replace H := Option.bind_eq_some_iff.mp H
             obtain ⟨t203, A170, H⟩ := H
             replace H : (if t203 = true then ((ephemerisref1_In.f ((rd_T125 l0 x13_1).f2) 0 400).bind fun t205 => (if t205 = true then (if x3_1 = true then (if x4_1 = true then (ephemerisref1_MonthsError.l0 k2 l0 true true (l0.length : Int) (wrap64 (x13_1 + 1))) else (ephemerisref1_MonthsError.l0 k2 l0 true (decide (((rd_T125 l0 x13_1).f2) > 0)) (l0.length : Int) (wrap64 (x13_1 + 1)))) else (if x4_1 = true then (ephemerisref1_MonthsError.l0 k2 l0 (decide (((rd_T125 l0 x13_1).f1) > 0)) true (l0.length : Int) (wrap64 (x13_1 + 1))) else (ephemerisref1_MonthsError.l0 k2 l0 (decide (((rd_T125 l0 x13_1).f1) > 0)) (decide (((rd_T125 l0 x13_1).f2) > 0)) (l0.length : Int) (wrap64 (x13_1 + 1))))) else (some 3))) else (some 3)) = some r := H
             have A17 := Aside0.mk A170
             clear A170
             by_cases c18 : t203 = true
             ·subst c18
              have H1 : ((ephemerisref1_In.f ((rd_T125 l0 x13_1).f2) 0 400).bind fun t205 => (if t205 = true then (if x3_1 = true then (if x4_1 = true then (ephemerisref1_MonthsError.l0 k2 l0 true true (l0.length : Int) (wrap64 (x13_1 + 1))) else (ephemerisref1_MonthsError.l0 k2 l0 true (decide (((rd_T125 l0 x13_1).f2) > 0)) (l0.length : Int) (wrap64 (x13_1 + 1)))) else (if x4_1 = true then (ephemerisref1_MonthsError.l0 k2 l0 (decide (((rd_T125 l0 x13_1).f1) > 0)) true (l0.length : Int) (wrap64 (x13_1 + 1))) else (ephemerisref1_MonthsError.l0 k2 l0 (decide (((rd_T125 l0 x13_1).f1) > 0)) (decide (((rd_T125 l0 x13_1).f2) > 0)) (l0.length : Int) (wrap64 (x13_1 + 1))))) else (some 3))) = some r := by rw [if_pos rfl] at H; exact H
              clear H
              have H := H1
              clear H1
              replace H := Option.bind_eq_some_iff.mp H
              obtain ⟨t205, A190, H⟩ := H
              replace H : (if t205 = true then (if x3_1 = true then (if x4_1 = true then (ephemerisref1_MonthsError.l0 k2 l0 true true (l0.length : Int) (wrap64 (x13_1 + 1))) else (ephemerisref1_MonthsError.l0 k2 l0 true (decide (((rd_T125 l0 x13_1).f2) > 0)) (l0.length : Int) (wrap64 (x13_1 + 1)))) else (if x4_1 = true then (ephemerisref1_MonthsError.l0 k2 l0 (decide (((rd_T125 l0 x13_1).f1) > 0)) true (l0.length : Int) (wrap64 (x13_1 + 1))) else (ephemerisref1_MonthsError.l0 k2 l0 (decide (((rd_T125 l0 x13_1).f1) > 0)) (decide (((rd_T125 l0 x13_1).f2) > 0)) (l0.length : Int) (wrap64 (x13_1 + 1))))) else (some 3)) = some r := H
              have A19 := Aside0.mk A190
              clear A190
              by_cases c20 : t205 = true
              ·subst c20
               have H1 : (if x3_1 = true then (if x4_1 = true then (ephemerisref1_MonthsError.l0 k2 l0 true true (l0.length : Int) (wrap64 (x13_1 + 1))) else (ephemerisref1_MonthsError.l0 k2 l0 true (decide (((rd_T125 l0 x13_1).f2) > 0)) (l0.length : Int) (wrap64 (x13_1 + 1)))) else (if x4_1 = true then (ephemerisref1_MonthsError.l0 k2 l0 (decide (((rd_T125 l0 x13_1).f1) > 0)) true (l0.length : Int) (wrap64 (x13_1 + 1))) else (ephemerisref1_MonthsError.l0 k2 l0 (decide (((rd_T125 l0 x13_1).f1) > 0)) (decide (((rd_T125 l0 x13_1).f2) > 0)) (l0.length : Int) (wrap64 (x13_1 + 1))))) = some r := by rw [if_pos rfl] at H; exact H
               clear H
               have H := H1
               clear H1
               by_cases c21 : x3_1 = true
               ·subst c21
                have H1 : (if x4_1 = true then (ephemerisref1_MonthsError.l0 k2 l0 true true (l0.length : Int) (wrap64 (x13_1 + 1))) else (ephemerisref1_MonthsError.l0 k2 l0 true (decide (((rd_T125 l0 x13_1).f2) > 0)) (l0.length : Int) (wrap64 (x13_1 + 1)))) = some r := by rw [if_pos rfl] at H; exact H
                clear H
                have H := H1
                clear H1
                by_cases c22 : x4_1 = true
                ·subst c22
                 have H1 : (ephemerisref1_MonthsError.l0 k2 l0 true true (l0.length : Int) (wrap64 (x13_1 + 1))) = some r := by rw [if_pos rfl] at H; exact H
                 clear H
                 have H := H1
                 clear H1
                 have H' := Aside0.mk H
                 clear H
                 have p202 : 0 ≤ (x13_1 : Int) := of_decide_eq_true ka
                 have q202 : x13_1 < (l0.length : Int) := of_decide_eq_true ka
                 obtain ⟨ad202, e202, hx202_0, hx202_1, hx202_2⟩ := at_T125 HR0.out x13_1 p202 q202
                 obtain rfl : ad198 = ad202 := (by injection e202)
                 replace p202 := eq_true p202
                 replace q202 := eq_true q202
                 go_wp2_with (first | (go_at_call 21; (with_reducible refine (ephemerisref1_In.calls ((rd_T125 l0 x13_1).f1) 0 400 true _ A17.out).mono ?_); rintro e w' ⟨rfl, ⟨nd, rfl⟩⟩; (try first | exact ⟨rfl, _, World.drewN_drewN _ _ _⟩ | exact ⟨rfl, _, Eq.trans (World.drewN_drewN _ _ _) (congrArg (World.drewN _) (Nat.add_assoc _ _ _))⟩); have p204 : 0 ≤ (x13_1 : Int) := of_decide_eq_true ka; have q204 : x13_1 < (l0.length : Int) := of_decide_eq_true ka; obtain ⟨ad204, e204, hx204_0, hx204_1, hx204_2⟩ := at_T125 HR0.out x13_1 p204 q204; obtain rfl : ad198 = ad204 := (by injection e204); replace p204 := eq_true p204; replace q204 := eq_true q204) | (go_at_call 21; (with_reducible refine (ephemerisref1_In.calls ((rd_T125 l0 x13_1).f2) 0 400 true _ A19.out).mono ?_); rintro e w' ⟨rfl, ⟨nd, rfl⟩⟩; (try first | exact ⟨rfl, _, World.drewN_drewN _ _ _⟩ | exact ⟨rfl, _, Eq.trans (World.drewN_drewN _ _ _) (congrArg (World.drewN _) (Nat.add_assoc _ _ _))⟩)))
                 repeat (go_quiet (first | (go_at_call 21; (with_reducible refine (ephemerisref1_In.calls ((rd_T125 l0 x13_1).f1) 0 400 true _ A17.out).mono ?_); rintro e w' ⟨rfl, ⟨nd, rfl⟩⟩; (try first | exact ⟨rfl, _, World.drewN_drewN _ _ _⟩ | exact ⟨rfl, _, Eq.trans (World.drewN_drewN _ _ _) (congrArg (World.drewN _) (Nat.add_assoc _ _ _))⟩); have p204 : 0 ≤ (x13_1 : Int) := of_decide_eq_true ka; have q204 : x13_1 < (l0.length : Int) := of_decide_eq_true ka; obtain ⟨ad204, e204, hx204_0, hx204_1, hx204_2⟩ := at_T125 HR0.out x13_1 p204 q204; obtain rfl : ad198 = ad204 := (by injection e204); replace p204 := eq_true p204; replace q204 := eq_true q204) | (go_at_call 21; (with_reducible refine (ephemerisref1_In.calls ((rd_T125 l0 x13_1).f2) 0 400 true _ A19.out).mono ?_); rintro e w' ⟨rfl, ⟨nd, rfl⟩⟩; (try first | exact ⟨rfl, _, World.drewN_drewN _ _ _⟩ | exact ⟨rfl, _, Eq.trans (World.drewN_drewN _ _ _) (congrArg (World.drewN _) (Nat.add_assoc _ _ _))⟩))); try go_wp2_with (first | (go_at_call 21; (with_reducible refine (ephemerisref1_In.calls ((rd_T125 l0 x13_1).f1) 0 400 true _ A17.out).mono ?_); rintro e w' ⟨rfl, ⟨nd, rfl⟩⟩; (try first | exact ⟨rfl, _, World.drewN_drewN _ _ _⟩ | exact ⟨rfl, _, Eq.trans (World.drewN_drewN _ _ _) (congrArg (World.drewN _) (Nat.add_assoc _ _ _))⟩); have p204 : 0 ≤ (x13_1 : Int) := of_decide_eq_true ka; have q204 : x13_1 < (l0.length : Int) := of_decide_eq_true ka; obtain ⟨ad204, e204, hx204_0, hx204_1, hx204_2⟩ := at_T125 HR0.out x13_1 p204 q204; obtain rfl : ad198 = ad204 := (by injection e204); replace p204 := eq_true p204; replace q204 := eq_true q204) | (go_at_call 21; (with_reducible refine (ephemerisref1_In.calls ((rd_T125 l0 x13_1).f2) 0 400 true _ A19.out).mono ?_); rintro e w' ⟨rfl, ⟨nd, rfl⟩⟩; (try first | exact ⟨rfl, _, World.drewN_drewN _ _ _⟩ | exact ⟨rfl, _, Eq.trans (World.drewN_drewN _ _ _) (congrArg (World.drewN _) (Nat.add_assoc _ _ _))⟩))))
                 go_roundg k2
                 case measure => have := HK1.out; have := HK2.out; omega
                 case rel => exact ⟨(true), (true), (wrap64 (x13_1 + 1)), rs, rs, rs, H', ⟨by have := HK1.out; have := HK2.out; omega⟩, by repeat (first | exact Drawn0.refl _ | apply Drawn0.step)⟩
                ·replace c22 := Bool.eq_false_iff.mpr c22
                 subst c22
                 have H1 : (ephemerisref1_MonthsError.l0 k2 l0 true (decide (((rd_T125 l0 x13_1).f2) > 0)) (l0.length : Int) (wrap64 (x13_1 + 1))) = some r := by rw [if_neg (show ¬ (false = true) by decide)] at H; exact H
                 clear H
                 have H := H1
                 clear H1
                 have H' := Aside0.mk H
                 clear H
                 have p202 : 0 ≤ (x13_1 : Int) := of_decide_eq_true ka
                 have q202 : x13_1 < (l0.length : Int) := of_decide_eq_true ka
                 obtain ⟨ad202, e202, hx202_0, hx202_1, hx202_2⟩ := at_T125 HR0.out x13_1 p202 q202
                 obtain rfl : ad198 = ad202 := (by injection e202)
                 replace p202 := eq_true p202
                 replace q202 := eq_true q202
                 go_wp2_with (first | (go_at_call 21; (with_reducible refine (ephemerisref1_In.calls ((rd_T125 l0 x13_1).f1) 0 400 true _ A17.out).mono ?_); rintro e w' ⟨rfl, ⟨nd, rfl⟩⟩; (try first | exact ⟨rfl, _, World.drewN_drewN _ _ _⟩ | exact ⟨rfl, _, Eq.trans (World.drewN_drewN _ _ _) (congrArg (World.drewN _) (Nat.add_assoc _ _ _))⟩); have p204 : 0 ≤ (x13_1 : Int) := of_decide_eq_true ka; have q204 : x13_1 < (l0.length : Int) := of_decide_eq_true ka; obtain ⟨ad204, e204, hx204_0, hx204_1, hx204_2⟩ := at_T125 HR0.out x13_1 p204 q204; obtain rfl : ad198 = ad204 := (by injection e204); replace p204 := eq_true p204; replace q204 := eq_true q204) | (go_at_call 21; (with_reducible refine (ephemerisref1_In.calls ((rd_T125 l0 x13_1).f2) 0 400 true _ A19.out).mono ?_); rintro e w' ⟨rfl, ⟨nd, rfl⟩⟩; (try first | exact ⟨rfl, _, World.drewN_drewN _ _ _⟩ | exact ⟨rfl, _, Eq.trans (World.drewN_drewN _ _ _) (congrArg (World.drewN _) (Nat.add_assoc _ _ _))⟩); have p206 : 0 ≤ (x13_1 : Int) := of_decide_eq_true ka; have q206 : x13_1 < (l0.length : Int) := of_decide_eq_true ka; obtain ⟨ad206, e206, hx206_0, hx206_1, hx206_2⟩ := at_T125 HR0.out x13_1 p206 q206; obtain rfl : ad198 = ad206 := (by injection e206); replace p206 := eq_true p206; replace q206 := eq_true q206))
                 repeat (go_quiet (first | (go_at_call 21; (with_reducible refine (ephemerisref1_In.calls ((rd_T125 l0 x13_1).f1) 0 400 true _ A17.out).mono ?_); rintro e w' ⟨rfl, ⟨nd, rfl⟩⟩; (try first | exact ⟨rfl, _, World.drewN_drewN _ _ _⟩ | exact ⟨rfl, _, Eq.trans (World.drewN_drewN _ _ _) (congrArg (World.drewN _) (Nat.add_assoc _ _ _))⟩); have p204 : 0 ≤ (x13_1 : Int) := of_decide_eq_true ka; have q204 : x13_1 < (l0.length : Int) := of_decide_eq_true ka; obtain ⟨ad204, e204, hx204_0, hx204_1, hx204_2⟩ := at_T125 HR0.out x13_1 p204 q204; obtain rfl : ad198 = ad204 := (by injection e204); replace p204 := eq_true p204; replace q204 := eq_true q204) | (go_at_call 21; (with_reducible refine (ephemerisref1_In.calls ((rd_T125 l0 x13_1).f2) 0 400 true _ A19.out).mono ?_); rintro e w' ⟨rfl, ⟨nd, rfl⟩⟩; (try first | exact ⟨rfl, _, World.drewN_drewN _ _ _⟩ | exact ⟨rfl, _, Eq.trans (World.drewN_drewN _ _ _) (congrArg (World.drewN _) (Nat.add_assoc _ _ _))⟩); have p206 : 0 ≤ (x13_1 : Int) := of_decide_eq_true ka; have q206 : x13_1 < (l0.length : Int) := of_decide_eq_true ka; obtain ⟨ad206, e206, hx206_0, hx206_1, hx206_2⟩ := at_T125 HR0.out x13_1 p206 q206; obtain rfl : ad198 = ad206 := (by injection e206); replace p206 := eq_true p206; replace q206 := eq_true q206)); try go_wp2_with (first | (go_at_call 21; (with_reducible refine (ephemerisref1_In.calls ((rd_T125 l0 x13_1).f1) 0 400 true _ A17.out).mono ?_); rintro e w' ⟨rfl, ⟨nd, rfl⟩⟩; (try first | exact ⟨rfl, _, World.drewN_drewN _ _ _⟩ | exact ⟨rfl, _, Eq.trans (World.drewN_drewN _ _ _) (congrArg (World.drewN _) (Nat.add_assoc _ _ _))⟩); have p204 : 0 ≤ (x13_1 : Int) := of_decide_eq_true ka; have q204 : x13_1 < (l0.length : Int) := of_decide_eq_true ka; obtain ⟨ad204, e204, hx204_0, hx204_1, hx204_2⟩ := at_T125 HR0.out x13_1 p204 q204; obtain rfl : ad198 = ad204 := (by injection e204); replace p204 := eq_true p204; replace q204 := eq_true q204) | (go_at_call 21; (with_reducible refine (ephemerisref1_In.calls ((rd_T125 l0 x13_1).f2) 0 400 true _ A19.out).mono ?_); rintro e w' ⟨rfl, ⟨nd, rfl⟩⟩; (try first | exact ⟨rfl, _, World.drewN_drewN _ _ _⟩ | exact ⟨rfl, _, Eq.trans (World.drewN_drewN _ _ _) (congrArg (World.drewN _) (Nat.add_assoc _ _ _))⟩); have p206 : 0 ≤ (x13_1 : Int) := of_decide_eq_true ka; have q206 : x13_1 < (l0.length : Int) := of_decide_eq_true ka; obtain ⟨ad206, e206, hx206_0, hx206_1, hx206_2⟩ := at_T125 HR0.out x13_1 p206 q206; obtain rfl : ad198 = ad206 := (by injection e206); replace p206 := eq_true p206; replace q206 := eq_true q206)))
                 go_roundg k2
                 case measure => have := HK1.out; have := HK2.out; omega
                 case rel => exact ⟨(true), (decide (((rd_T125 l0 x13_1).f2) > 0)), (wrap64 (x13_1 + 1)), rs, rs, rs, H', ⟨by have := HK1.out; have := HK2.out; omega⟩, by repeat (first | exact Drawn0.refl _ | apply Drawn0.step)⟩
               ·replace c21 := Bool.eq_false_iff.mpr c21
                subst c21
                have H1 : (if x4_1 = true then (ephemerisref1_MonthsError.l0 k2 l0 (decide (((rd_T125 l0 x13_1).f1) > 0)) true (l0.length : Int) (wrap64 (x13_1 + 1))) else (ephemerisref1_MonthsError.l0 k2 l0 (decide (((rd_T125 l0 x13_1).f1) > 0)) (decide (((rd_T125 l0 x13_1).f2) > 0)) (l0.length : Int) (wrap64 (x13_1 + 1)))) = some r := by rw [if_neg (show ¬ (false = true) by decide)] at H; exact H
                clear H
                have H := H1
                clear H1
                by_cases c23 : x4_1 = true
                ·subst c23
                 have H1 : (ephemerisref1_MonthsError.l0 k2 l0 (decide (((rd_T125 l0 x13_1).f1) > 0)) true (l0.length : Int) (wrap64 (x13_1 + 1))) = some r := by rw [if_pos rfl] at H; exact H
                 clear H
                 have H := H1
                 clear H1
                 have H' := Aside0.mk H
                 clear H
                 have p202 : 0 ≤ (x13_1 : Int) := of_decide_eq_true ka
                 have q202 : x13_1 < (l0.length : Int) := of_decide_eq_true ka
                 obtain ⟨ad202, e202, hx202_0, hx202_1, hx202_2⟩ := at_T125 HR0.out x13_1 p202 q202
                 obtain rfl : ad198 = ad202 := (by injection e202)
                 replace p202 := eq_true p202
                 replace q202 := eq_true q202
                 go_wp2_with (first | (go_at_call 21; (with_reducible refine (ephemerisref1_In.calls ((rd_T125 l0 x13_1).f1) 0 400 true _ A17.out).mono ?_); rintro e w' ⟨rfl, ⟨nd, rfl⟩⟩; (try first | exact ⟨rfl, _, World.drewN_drewN _ _ _⟩ | exact ⟨rfl, _, Eq.trans (World.drewN_drewN _ _ _) (congrArg (World.drewN _) (Nat.add_assoc _ _ _))⟩); have p204 : 0 ≤ (x13_1 : Int) := of_decide_eq_true ka; have q204 : x13_1 < (l0.length : Int) := of_decide_eq_true ka; obtain ⟨ad204, e204, hx204_0, hx204_1, hx204_2⟩ := at_T125 HR0.out x13_1 p204 q204; obtain rfl : ad198 = ad204 := (by injection e204); replace p204 := eq_true p204; replace q204 := eq_true q204) | (go_at_call 21; (with_reducible refine (ephemerisref1_In.calls ((rd_T125 l0 x13_1).f2) 0 400 true _ A19.out).mono ?_); rintro e w' ⟨rfl, ⟨nd, rfl⟩⟩; (try first | exact ⟨rfl, _, World.drewN_drewN _ _ _⟩ | exact ⟨rfl, _, Eq.trans (World.drewN_drewN _ _ _) (congrArg (World.drewN _) (Nat.add_assoc _ _ _))⟩); have p207 : 0 ≤ (x13_1 : Int) := of_decide_eq_true ka; have q207 : x13_1 < (l0.length : Int) := of_decide_eq_true ka; obtain ⟨ad207, e207, hx207_0, hx207_1, hx207_2⟩ := at_T125 HR0.out x13_1 p207 q207; obtain rfl : ad198 = ad207 := (by injection e207); replace p207 := eq_true p207; replace q207 := eq_true q207))
                 repeat (go_quiet (first | (go_at_call 21; (with_reducible refine (ephemerisref1_In.calls ((rd_T125 l0 x13_1).f1) 0 400 true _ A17.out).mono ?_); rintro e w' ⟨rfl, ⟨nd, rfl⟩⟩; (try first | exact ⟨rfl, _, World.drewN_drewN _ _ _⟩ | exact ⟨rfl, _, Eq.trans (World.drewN_drewN _ _ _) (congrArg (World.drewN _) (Nat.add_assoc _ _ _))⟩); have p204 : 0 ≤ (x13_1 : Int) := of_decide_eq_true ka; have q204 : x13_1 < (l0.length : Int) := of_decide_eq_true ka; obtain ⟨ad204, e204, hx204_0, hx204_1, hx204_2⟩ := at_T125 HR0.out x13_1 p204 q204; obtain rfl : ad198 = ad204 := (by injection e204); replace p204 := eq_true p204; replace q204 := eq_true q204) | (go_at_call 21; (with_reducible refine (ephemerisref1_In.calls ((rd_T125 l0 x13_1).f2) 0 400 true _ A19.out).mono ?_); rintro e w' ⟨rfl, ⟨nd, rfl⟩⟩; (try first | exact ⟨rfl, _, World.drewN_drewN _ _ _⟩ | exact ⟨rfl, _, Eq.trans (World.drewN_drewN _ _ _) (congrArg (World.drewN _) (Nat.add_assoc _ _ _))⟩); have p207 : 0 ≤ (x13_1 : Int) := of_decide_eq_true ka; have q207 : x13_1 < (l0.length : Int) := of_decide_eq_true ka; obtain ⟨ad207, e207, hx207_0, hx207_1, hx207_2⟩ := at_T125 HR0.out x13_1 p207 q207; obtain rfl : ad198 = ad207 := (by injection e207); replace p207 := eq_true p207; replace q207 := eq_true q207)); try go_wp2_with (first | (go_at_call 21; (with_reducible refine (ephemerisref1_In.calls ((rd_T125 l0 x13_1).f1) 0 400 true _ A17.out).mono ?_); rintro e w' ⟨rfl, ⟨nd, rfl⟩⟩; (try first | exact ⟨rfl, _, World.drewN_drewN _ _ _⟩ | exact ⟨rfl, _, Eq.trans (World.drewN_drewN _ _ _) (congrArg (World.drewN _) (Nat.add_assoc _ _ _))⟩); have p204 : 0 ≤ (x13_1 : Int) := of_decide_eq_true ka; have q204 : x13_1 < (l0.length : Int) := of_decide_eq_true ka; obtain ⟨ad204, e204, hx204_0, hx204_1, hx204_2⟩ := at_T125 HR0.out x13_1 p204 q204; obtain rfl : ad198 = ad204 := (by injection e204); replace p204 := eq_true p204; replace q204 := eq_true q204) | (go_at_call 21; (with_reducible refine (ephemerisref1_In.calls ((rd_T125 l0 x13_1).f2) 0 400 true _ A19.out).mono ?_); rintro e w' ⟨rfl, ⟨nd, rfl⟩⟩; (try first | exact ⟨rfl, _, World.drewN_drewN _ _ _⟩ | exact ⟨rfl, _, Eq.trans (World.drewN_drewN _ _ _) (congrArg (World.drewN _) (Nat.add_assoc _ _ _))⟩); have p207 : 0 ≤ (x13_1 : Int) := of_decide_eq_true ka; have q207 : x13_1 < (l0.length : Int) := of_decide_eq_true ka; obtain ⟨ad207, e207, hx207_0, hx207_1, hx207_2⟩ := at_T125 HR0.out x13_1 p207 q207; obtain rfl : ad198 = ad207 := (by injection e207); replace p207 := eq_true p207; replace q207 := eq_true q207)))
                 go_roundg k2
                 case measure => have := HK1.out; have := HK2.out; omega
                 case rel => exact ⟨(decide (((rd_T125 l0 x13_1).f1) > 0)), (true), (wrap64 (x13_1 + 1)), rs, rs, rs, H', ⟨by have := HK1.out; have := HK2.out; omega⟩, by repeat (first | exact Drawn0.refl _ | apply Drawn0.step)⟩
                ·replace c23 := Bool.eq_false_iff.mpr c23
                 subst c23
                 have H1 : (ephemerisref1_MonthsError.l0 k2 l0 (decide (((rd_T125 l0 x13_1).f1) > 0)) (decide (((rd_T125 l0 x13_1).f2) > 0)) (l0.length : Int) (wrap64 (x13_1 + 1))) = some r := by rw [if_neg (show ¬ (false = true) by decide)] at H; exact H
                 clear H
                 have H := H1
                 clear H1
                 have H' := Aside0.mk H
                 clear H
                 have p202 : 0 ≤ (x13_1 : Int) := of_decide_eq_true ka
                 have q202 : x13_1 < (l0.length : Int) := of_decide_eq_true ka
                 obtain ⟨ad202, e202, hx202_0, hx202_1, hx202_2⟩ := at_T125 HR0.out x13_1 p202 q202
                 obtain rfl : ad198 = ad202 := (by injection e202)
                 replace p202 := eq_true p202
                 replace q202 := eq_true q202
                 go_wp2_with (first | (go_at_call 21; (with_reducible refine (ephemerisref1_In.calls ((rd_T125 l0 x13_1).f1) 0 400 true _ A17.out).mono ?_); rintro e w' ⟨rfl, ⟨nd, rfl⟩⟩; (try first | exact ⟨rfl, _, World.drewN_drewN _ _ _⟩ | exact ⟨rfl, _, Eq.trans (World.drewN_drewN _ _ _) (congrArg (World.drewN _) (Nat.add_assoc _ _ _))⟩); have p204 : 0 ≤ (x13_1 : Int) := of_decide_eq_true ka; have q204 : x13_1 < (l0.length : Int) := of_decide_eq_true ka; obtain ⟨ad204, e204, hx204_0, hx204_1, hx204_2⟩ := at_T125 HR0.out x13_1 p204 q204; obtain rfl : ad198 = ad204 := (by injection e204); replace p204 := eq_true p204; replace q204 := eq_true q204) | (go_at_call 21; (with_reducible refine (ephemerisref1_In.calls ((rd_T125 l0 x13_1).f2) 0 400 true _ A19.out).mono ?_); rintro e w' ⟨rfl, ⟨nd, rfl⟩⟩; (try first | exact ⟨rfl, _, World.drewN_drewN _ _ _⟩ | exact ⟨rfl, _, Eq.trans (World.drewN_drewN _ _ _) (congrArg (World.drewN _) (Nat.add_assoc _ _ _))⟩); have p207 : 0 ≤ (x13_1 : Int) := of_decide_eq_true ka; have q207 : x13_1 < (l0.length : Int) := of_decide_eq_true ka; obtain ⟨ad207, e207, hx207_0, hx207_1, hx207_2⟩ := at_T125 HR0.out x13_1 p207 q207; obtain rfl : ad198 = ad207 := (by injection e207); replace p207 := eq_true p207; replace q207 := eq_true q207; have p208 : 0 ≤ (x13_1 : Int) := of_decide_eq_true ka; have q208 : x13_1 < (l0.length : Int) := of_decide_eq_true ka; obtain ⟨ad208, e208, hx208_0, hx208_1, hx208_2⟩ := at_T125 HR0.out x13_1 p208 q208; obtain rfl : ad198 = ad208 := (by injection e208); replace p208 := eq_true p208; replace q208 := eq_true q208))
                 repeat (go_quiet (first | (go_at_call 21; (with_reducible refine (ephemerisref1_In.calls ((rd_T125 l0 x13_1).f1) 0 400 true _ A17.out).mono ?_); rintro e w' ⟨rfl, ⟨nd, rfl⟩⟩; (try first | exact ⟨rfl, _, World.drewN_drewN _ _ _⟩ | exact ⟨rfl, _, Eq.trans (World.drewN_drewN _ _ _) (congrArg (World.drewN _) (Nat.add_assoc _ _ _))⟩); have p204 : 0 ≤ (x13_1 : Int) := of_decide_eq_true ka; have q204 : x13_1 < (l0.length : Int) := of_decide_eq_true ka; obtain ⟨ad204, e204, hx204_0, hx204_1, hx204_2⟩ := at_T125 HR0.out x13_1 p204 q204; obtain rfl : ad198 = ad204 := (by injection e204); replace p204 := eq_true p204; replace q204 := eq_true q204) | (go_at_call 21; (with_reducible refine (ephemerisref1_In.calls ((rd_T125 l0 x13_1).f2) 0 400 true _ A19.out).mono ?_); rintro e w' ⟨rfl, ⟨nd, rfl⟩⟩; (try first | exact ⟨rfl, _, World.drewN_drewN _ _ _⟩ | exact ⟨rfl, _, Eq.trans (World.drewN_drewN _ _ _) (congrArg (World.drewN _) (Nat.add_assoc _ _ _))⟩); have p207 : 0 ≤ (x13_1 : Int) := of_decide_eq_true ka; have q207 : x13_1 < (l0.length : Int) := of_decide_eq_true ka; obtain ⟨ad207, e207, hx207_0, hx207_1, hx207_2⟩ := at_T125 HR0.out x13_1 p207 q207; obtain rfl : ad198 = ad207 := (by injection e207); replace p207 := eq_true p207; replace q207 := eq_true q207; have p208 : 0 ≤ (x13_1 : Int) := of_decide_eq_true ka; have q208 : x13_1 < (l0.length : Int) := of_decide_eq_true ka; obtain ⟨ad208, e208, hx208_0, hx208_1, hx208_2⟩ := at_T125 HR0.out x13_1 p208 q208; obtain rfl : ad198 = ad208 := (by injection e208); replace p208 := eq_true p208; replace q208 := eq_true q208)); try go_wp2_with (first | (go_at_call 21; (with_reducible refine (ephemerisref1_In.calls ((rd_T125 l0 x13_1).f1) 0 400 true _ A17.out).mono ?_); rintro e w' ⟨rfl, ⟨nd, rfl⟩⟩; (try first | exact ⟨rfl, _, World.drewN_drewN _ _ _⟩ | exact ⟨rfl, _, Eq.trans (World.drewN_drewN _ _ _) (congrArg (World.drewN _) (Nat.add_assoc _ _ _))⟩); have p204 : 0 ≤ (x13_1 : Int) := of_decide_eq_true ka; have q204 : x13_1 < (l0.length : Int) := of_decide_eq_true ka; obtain ⟨ad204, e204, hx204_0, hx204_1, hx204_2⟩ := at_T125 HR0.out x13_1 p204 q204; obtain rfl : ad198 = ad204 := (by injection e204); replace p204 := eq_true p204; replace q204 := eq_true q204) | (go_at_call 21; (with_reducible refine (ephemerisref1_In.calls ((rd_T125 l0 x13_1).f2) 0 400 true _ A19.out).mono ?_); rintro e w' ⟨rfl, ⟨nd, rfl⟩⟩; (try first | exact ⟨rfl, _, World.drewN_drewN _ _ _⟩ | exact ⟨rfl, _, Eq.trans (World.drewN_drewN _ _ _) (congrArg (World.drewN _) (Nat.add_assoc _ _ _))⟩); have p207 : 0 ≤ (x13_1 : Int) := of_decide_eq_true ka; have q207 : x13_1 < (l0.length : Int) := of_decide_eq_true ka; obtain ⟨ad207, e207, hx207_0, hx207_1, hx207_2⟩ := at_T125 HR0.out x13_1 p207 q207; obtain rfl : ad198 = ad207 := (by injection e207); replace p207 := eq_true p207; replace q207 := eq_true q207; have p208 : 0 ≤ (x13_1 : Int) := of_decide_eq_true ka; have q208 : x13_1 < (l0.length : Int) := of_decide_eq_true ka; obtain ⟨ad208, e208, hx208_0, hx208_1, hx208_2⟩ := at_T125 HR0.out x13_1 p208 q208; obtain rfl : ad198 = ad208 := (by injection e208); replace p208 := eq_true p208; replace q208 := eq_true q208)))
                 go_roundg k2
                 case measure => have := HK1.out; have := HK2.out; omega
                 case rel => exact ⟨(decide (((rd_T125 l0 x13_1).f1) > 0)), (decide (((rd_T125 l0 x13_1).f2) > 0)), (wrap64 (x13_1 + 1)), rs, rs, rs, H', ⟨by have := HK1.out; have := HK2.out; omega⟩, by repeat (first | exact Drawn0.refl _ | apply Drawn0.step)⟩
              ·replace c20 := Bool.eq_false_iff.mpr c20
               subst c20
               have H1 : (some 3) = some r := by rw [if_neg (show ¬ (false = true) by decide)] at H; exact H
               clear H
               have H := H1
               clear H1
               obtain rfl := Option.some.inj H
               have p202 : 0 ≤ (x13_1 : Int) := of_decide_eq_true ka
               have q202 : x13_1 < (l0.length : Int) := of_decide_eq_true ka
               obtain ⟨ad202, e202, hx202_0, hx202_1, hx202_2⟩ := at_T125 HR0.out x13_1 p202 q202
               obtain rfl : ad198 = ad202 := (by injection e202)
               replace p202 := eq_true p202
               replace q202 := eq_true q202
               go_wp2_with (first | (go_at_call 21; (with_reducible refine (ephemerisref1_In.calls ((rd_T125 l0 x13_1).f1) 0 400 true _ A17.out).mono ?_); rintro e w' ⟨rfl, ⟨nd, rfl⟩⟩; (try first | exact ⟨rfl, _, World.drewN_drewN _ _ _⟩ | exact ⟨rfl, _, Eq.trans (World.drewN_drewN _ _ _) (congrArg (World.drewN _) (Nat.add_assoc _ _ _))⟩); have p204 : 0 ≤ (x13_1 : Int) := of_decide_eq_true ka; have q204 : x13_1 < (l0.length : Int) := of_decide_eq_true ka; obtain ⟨ad204, e204, hx204_0, hx204_1, hx204_2⟩ := at_T125 HR0.out x13_1 p204 q204; obtain rfl : ad198 = ad204 := (by injection e204); replace p204 := eq_true p204; replace q204 := eq_true q204) | (go_at_call 21; (with_reducible refine (ephemerisref1_In.calls ((rd_T125 l0 x13_1).f2) 0 400 false _ A19.out).mono ?_); rintro e w' ⟨rfl, ⟨nd, rfl⟩⟩; (try first | exact ⟨rfl, _, World.drewN_drewN _ _ _⟩ | exact ⟨rfl, _, Eq.trans (World.drewN_drewN _ _ _) (congrArg (World.drewN _) (Nat.add_assoc _ _ _))⟩)))
               repeat (go_quiet (first | (go_at_call 21; (with_reducible refine (ephemerisref1_In.calls ((rd_T125 l0 x13_1).f1) 0 400 true _ A17.out).mono ?_); rintro e w' ⟨rfl, ⟨nd, rfl⟩⟩; (try first | exact ⟨rfl, _, World.drewN_drewN _ _ _⟩ | exact ⟨rfl, _, Eq.trans (World.drewN_drewN _ _ _) (congrArg (World.drewN _) (Nat.add_assoc _ _ _))⟩); have p204 : 0 ≤ (x13_1 : Int) := of_decide_eq_true ka; have q204 : x13_1 < (l0.length : Int) := of_decide_eq_true ka; obtain ⟨ad204, e204, hx204_0, hx204_1, hx204_2⟩ := at_T125 HR0.out x13_1 p204 q204; obtain rfl : ad198 = ad204 := (by injection e204); replace p204 := eq_true p204; replace q204 := eq_true q204) | (go_at_call 21; (with_reducible refine (ephemerisref1_In.calls ((rd_T125 l0 x13_1).f2) 0 400 false _ A19.out).mono ?_); rintro e w' ⟨rfl, ⟨nd, rfl⟩⟩; (try first | exact ⟨rfl, _, World.drewN_drewN _ _ _⟩ | exact ⟨rfl, _, Eq.trans (World.drewN_drewN _ _ _) (congrArg (World.drewN _) (Nat.add_assoc _ _ _))⟩))); try go_wp2_with (first | (go_at_call 21; (with_reducible refine (ephemerisref1_In.calls ((rd_T125 l0 x13_1).f1) 0 400 true _ A17.out).mono ?_); rintro e w' ⟨rfl, ⟨nd, rfl⟩⟩; (try first | exact ⟨rfl, _, World.drewN_drewN _ _ _⟩ | exact ⟨rfl, _, Eq.trans (World.drewN_drewN _ _ _) (congrArg (World.drewN _) (Nat.add_assoc _ _ _))⟩); have p204 : 0 ≤ (x13_1 : Int) := of_decide_eq_true ka; have q204 : x13_1 < (l0.length : Int) := of_decide_eq_true ka; obtain ⟨ad204, e204, hx204_0, hx204_1, hx204_2⟩ := at_T125 HR0.out x13_1 p204 q204; obtain rfl : ad198 = ad204 := (by injection e204); replace p204 := eq_true p204; replace q204 := eq_true q204) | (go_at_call 21; (with_reducible refine (ephemerisref1_In.calls ((rd_T125 l0 x13_1).f2) 0 400 false _ A19.out).mono ?_); rintro e w' ⟨rfl, ⟨nd, rfl⟩⟩; (try first | exact ⟨rfl, _, World.drewN_drewN _ _ _⟩ | exact ⟨rfl, _, Eq.trans (World.drewN_drewN _ _ _) (congrArg (World.drewN _) (Nat.add_assoc _ _ _))⟩))))
               go_ret
               exact ⟨by first | rfl | (simp; done) | (simp [*]; done), by repeat (first | exact Drawn0.refl _ | apply Drawn0.step)⟩
             ·replace c18 := Bool.eq_false_iff.mpr c18
              subst c18
              have H1 : (some 3) = some r := by rw [if_neg (show ¬ (false = true) by decide)] at H; exact H
              clear H
              have H := H1
              clear H1
              obtain rfl := Option.some.inj H
              have p202 : 0 ≤ (x13_1 : Int) := of_decide_eq_true ka
              have q202 : x13_1 < (l0.length : Int) := of_decide_eq_true ka
              obtain ⟨ad202, e202, hx202_0, hx202_1, hx202_2⟩ := at_T125 HR0.out x13_1 p202 q202
              obtain rfl : ad198 = ad202 := (by injection e202)
              replace p202 := eq_true p202
              replace q202 := eq_true q202
              go_wp2_with (first | (go_at_call 21; (with_reducible refine (ephemerisref1_In.calls ((rd_T125 l0 x13_1).f1) 0 400 false _ A17.out).mono ?_); rintro e w' ⟨rfl, ⟨nd, rfl⟩⟩; (try first | exact ⟨rfl, _, World.drewN_drewN _ _ _⟩ | exact ⟨rfl, _, Eq.trans (World.drewN_drewN _ _ _) (congrArg (World.drewN _) (Nat.add_assoc _ _ _))⟩)))
              repeat (go_quiet (first | (go_at_call 21; (with_reducible refine (ephemerisref1_In.calls ((rd_T125 l0 x13_1).f1) 0 400 false _ A17.out).mono ?_); rintro e w' ⟨rfl, ⟨nd, rfl⟩⟩; (try first | exact ⟨rfl, _, World.drewN_drewN _ _ _⟩ | exact ⟨rfl, _, Eq.trans (World.drewN_drewN _ _ _) (congrArg (World.drewN _) (Nat.add_assoc _ _ _))⟩))); try go_wp2_with (first | (go_at_call 21; (with_reducible refine (ephemerisref1_In.calls ((rd_T125 l0 x13_1).f1) 0 400 false _ A17.out).mono ?_); rintro e w' ⟨rfl, ⟨nd, rfl⟩⟩; (try first | exact ⟨rfl, _, World.drewN_drewN _ _ _⟩ | exact ⟨rfl, _, Eq.trans (World.drewN_drewN _ _ _) (congrArg (World.drewN _) (Nat.add_assoc _ _ _))⟩))))
              go_ret
              exact ⟨by first | rfl | (simp; done) | (simp [*]; done), by repeat (first | exact Drawn0.refl _ | apply Drawn0.step)⟩
            ·rw [if_neg c16] at H
             exact absurd H (by simp)
           ·rw [if_neg c15] at H
            exact absurd H (by simp)
       ·replace c8 := Bool.eq_false_iff.mpr c8
        subst c8
        have H1 : (some 5) = some r := by rw [if_neg (show ¬ (false = true) by decide)] at H; exact H
        clear H
        have H := H1
        clear H1
        obtain rfl := Option.some.inj H
        have p198 : 0 ≤ (x13_1 : Int) := of_decide_eq_true ka
        have q198 : x13_1 < (l0.length : Int) := of_decide_eq_true ka
        obtain ⟨ad198, e198, hx198_0, hx198_1, hx198_2⟩ := at_T125 HR0.out x13_1 p198 q198
        cases e198
        replace p198 := eq_true p198
        replace q198 := eq_true q198
        go_wp2_with (first | (go_at_call 36; (with_reducible refine (ephemerisref1_Name.calls k1 ((rd_T125 l0 x13_1).f0) false _ A7.out).mono ?_); rintro e w' ⟨rfl, ⟨nd, rfl⟩⟩; (try first | exact ⟨rfl, _, World.drewN_drewN _ _ _⟩ | exact ⟨rfl, _, Eq.trans (World.drewN_drewN _ _ _) (congrArg (World.drewN _) (Nat.add_assoc _ _ _))⟩)))
        repeat (go_quiet (first | (go_at_call 36; (with_reducible refine (ephemerisref1_Name.calls k1 ((rd_T125 l0 x13_1).f0) false _ A7.out).mono ?_); rintro e w' ⟨rfl, ⟨nd, rfl⟩⟩; (try first | exact ⟨rfl, _, World.drewN_drewN _ _ _⟩ | exact ⟨rfl, _, Eq.trans (World.drewN_drewN _ _ _) (congrArg (World.drewN _) (Nat.add_assoc _ _ _))⟩))); try go_wp2_with (first | (go_at_call 36; (with_reducible refine (ephemerisref1_Name.calls k1 ((rd_T125 l0 x13_1).f0) false _ A7.out).mono ?_); rintro e w' ⟨rfl, ⟨nd, rfl⟩⟩; (try first | exact ⟨rfl, _, World.drewN_drewN _ _ _⟩ | exact ⟨rfl, _, Eq.trans (World.drewN_drewN _ _ _) (congrArg (World.drewN _) (Nat.add_assoc _ _ _))⟩))))
        go_ret
        exact ⟨by first | rfl | (simp; done) | (simp [*]; done), by repeat (first | exact Drawn0.refl _ | apply Drawn0.step)⟩
      ·rw [if_neg c6] at H
       exact absurd H (by simp)
     ·rw [if_neg c5] at H
      exact absurd H (by simp)
    ·rw [if_neg c4] at H
     have c4b0 : decide (x13_1 < (l0.length : Int)) = false := decide_eq_false c4
     clear c4
     by_cases c24 : x3_1 = true
     ·subst c24
      have H1 : (if x4_1 = true then (some 0) else (some 8)) = some r := by rw [if_pos rfl] at H; exact H
      clear H
      have H := H1
      clear H1
      by_cases c25 : x4_1 = true
      ·subst c25
       have H1 : (some 0) = some r := by rw [if_pos rfl] at H; exact H
       clear H
       have H := H1
       clear H1
       obtain rfl := Option.some.inj H
       go_wp2
       repeat (go_quiet (fail); try go_wp2)
       go_ret
       exact ⟨by first | rfl | (simp; done) | (simp [*]; done), by repeat (first | exact Drawn0.refl _ | apply Drawn0.step)⟩
      ·replace c25 := Bool.eq_false_iff.mpr c25
       subst c25
       have H1 : (some 8) = some r := by rw [if_neg (show ¬ (false = true) by decide)] at H; exact H
       clear H
       have H := H1
       clear H1
       obtain rfl := Option.some.inj H
       go_wp2
       repeat (go_quiet (fail); try go_wp2)
       go_ret
       exact ⟨by first | rfl | (simp; done) | (simp [*]; done), by repeat (first | exact Drawn0.refl _ | apply Drawn0.step)⟩
     ·replace c24 := Bool.eq_false_iff.mpr c24
      subst c24
      have H1 : (some 8) = some r := by rw [if_neg (show ¬ (false = true) by decide)] at H; exact H
      clear H
      have H := H1
      clear H1
      obtain rfl := Option.some.inj H
      go_wp2
      repeat (go_quiet (fail); try go_wp2)
      go_ret
      exact ⟨by first | rfl | (simp; done) | (simp [*]; done), by repeat (first | exact Drawn0.refl _ | apply Drawn0.step)⟩
 ·replace c3 := Bool.eq_false_iff.mpr c3
  subst c3
  have H1 : (some 2) = some r := by rw [if_neg (show ¬ (false = true) by decide)] at H; exact H
  clear H
  have H := H1
  clear H1
  obtain rfl := Option.some.inj H
  go_enter Try.func67, Try.ntmps67
  go_wp2_with (first | (go_at_call 21; (with_reducible refine (ephemerisref1_In.calls (l0.length : Int) 1 20 false _ A2.out).mono ?_); rintro e w' ⟨rfl, ⟨nd, rfl⟩⟩; (try first | exact ⟨rfl, _, World.drewN_drewN _ _ _⟩ | exact ⟨rfl, _, Eq.trans (World.drewN_drewN _ _ _) (congrArg (World.drewN _) (Nat.add_assoc _ _ _))⟩)))
  repeat (go_quiet (first | (go_at_call 21; (with_reducible refine (ephemerisref1_In.calls (l0.length : Int) 1 20 false _ A2.out).mono ?_); rintro e w' ⟨rfl, ⟨nd, rfl⟩⟩; (try first | exact ⟨rfl, _, World.drewN_drewN _ _ _⟩ | exact ⟨rfl, _, Eq.trans (World.drewN_drewN _ _ _) (congrArg (World.drewN _) (Nat.add_assoc _ _ _))⟩))); try go_wp2_with (first | (go_at_call 21; (with_reducible refine (ephemerisref1_In.calls (l0.length : Int) 1 20 false _ A2.out).mono ?_); rintro e w' ⟨rfl, ⟨nd, rfl⟩⟩; (try first | exact ⟨rfl, _, World.drewN_drewN _ _ _⟩ | exact ⟨rfl, _, Eq.trans (World.drewN_drewN _ _ _) (congrArg (World.drewN _) (Nat.add_assoc _ _ _))⟩))))
  go_ret
  exact ⟨by first | rfl | (simp; done) | (simp [*]; done), by repeat (first | exact Drawn0.refl _ | apply Drawn0.step)⟩

end Go.Proofs.Ytlfammlboncmeaa.PArithLaters
