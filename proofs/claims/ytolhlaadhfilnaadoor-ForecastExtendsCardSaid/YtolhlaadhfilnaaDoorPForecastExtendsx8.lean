/- The walks of the functions of this part, laid closer by a program of mine. -/
-- The walks of the law's functions, told by a program.
import Derived.Test.YtolhlaadhfilnaaDoorY
import Derived.Test.YtolhlaadhfilnaaDoorPForecastExtendsx0
import Derived.Test.YtolhlaadhfilnaaDoorPForecastExtendsx4
import Derived.Test.YtolhlaadhfilnaaDoorPForecastExtendsx7
namespace Go.Proofs.YtolhlaadhfilnaaDoor.PForecastExtends
open Go.RowKit Go.Proofs.YtolhlaadhfilnaaDoorW.PrintWords Go.Proofs.YtolhlaadhfilnaaDoorW.PrintLast Go.Proofs.YtolhlaadhfilnaaDoorW.PrintMore Go.Proofs.YtolhlaadhfilnaaDoor.Y
attribute [local go_sem] max2_int min2_int max_two min_two max_three min_three max_four min_four   -- for this text's walks alone
set_option linter.unusedVariables false
set_option linter.unusedSimpArgs false

/-! ### line_Nth: function 105 -/
mutual
def line_Nth.j0 : Nat → Int → Int → Int → Bool → Option (Int × Int)
 | 0, _, _, _, _ => none
 | k + 1, x0, x1, x2, x25 => if x25 = true then (some (0, 1)) else (if x2 < (-1000000) then (line_Nth.j1 k x0 x1 x2 true) else (line_Nth.j1 k x0 x1 x2 (decide (x2 > 1000000))))
def line_Nth.j1 : Nat → Int → Int → Int → Bool → Option (Int × Int)
 | 0, _, _, _, _ => none
 | k + 1, x0, x1, x2, x31 => if x31 = true then (some (0, 3)) else ((whole_Mod.f (wrap64 (x1 - (wrap64 (x0 - 1)))) 7).bind fun t175 => (if x2 < 0 then ((whole_Mod.f (wrap64 ((wrap64 (x0 - 1)) - x1)) 7).bind fun t176 => ((line_Check.f (wrap64 ((wrap64 (x0 - t176)) + (wrap64 (7 * (wrap64 (x2 + 1))))))).bind fun t177 => (if t177 = 0 then (some (wrap64 ((wrap64 (x0 - t176)) + (wrap64 (7 * (wrap64 (x2 + 1))))), 0)) else (some (0, t177))))) else ((line_Check.f (wrap64 ((wrap64 (x0 + t175)) + (wrap64 (7 * (wrap64 (x2 - 1))))))).bind fun t178 => (if t178 = 0 then (some (wrap64 ((wrap64 (x0 + t175)) + (wrap64 (7 * (wrap64 (x2 - 1))))), 0)) else (some (0, t178))))))
end
def line_Nth.f (k : Nat) (a0 : Int) (a1 : Int) (a2 : Int) : Option (Int × Int) := (line_Check.f a0).bind fun t174 => (if t174 = 0 then (if a1 < 0 then (line_Nth.j0 k a0 a1 a2 true) else (if a1 > 6 then (line_Nth.j0 k a0 a1 a2 true) else (line_Nth.j0 k a0 a1 a2 (a2 == 0)))) else (some (0, t174)))
theorem line_Nth.mono_l : ∀ k, (∀ y0 y1 y2 y3, LeO (line_Nth.j0 k y0 y1 y2 y3) (line_Nth.j0 (k + 1) y0 y1 y2 y3)) ∧ (∀ y0 y1 y2 y3, LeO (line_Nth.j1 k y0 y1 y2 y3) (line_Nth.j1 (k + 1) y0 y1 y2 y3))
 | 0 => ⟨fun _ _ _ _ r h => by simp [line_Nth.j0] at h, fun _ _ _ _ r h => by simp [line_Nth.j1] at h⟩
 | k + 1 => by
  obtain ⟨ih0, ih1⟩ := line_Nth.mono_l k
  refine ⟨?_, ?_⟩
  ·intro y0 y1 y2 y3
   unfold line_Nth.j0
   repeat' first
   | (with_reducible exact ih0 _ _ _ _)
   | (with_reducible exact ih1 _ _ _ _)
   | (with_reducible exact LeO.refl _)
   | (with_reducible exact LeO.none _)
   | (with_reducible refine LeO.ite ?_ ?_)
   | (with_reducible refine LeO.bind ?_ (fun _ => ?_))
   | exact ih0 _ _ _ _
   | exact ih1 _ _ _ _
   | exact LeO.none _
   | refine LeO.ite ?_ ?_
   | refine LeO.bind ?_ (fun _ => ?_)
  ·intro y0 y1 y2 y3
   unfold line_Nth.j1
   repeat' first
   | (with_reducible exact ih0 _ _ _ _)
   | (with_reducible exact ih1 _ _ _ _)
   | (with_reducible exact LeO.refl _)
   | (with_reducible exact LeO.none _)
   | (with_reducible refine LeO.ite ?_ ?_)
   | (with_reducible refine LeO.bind ?_ (fun _ => ?_))
   | exact ih0 _ _ _ _
   | exact ih1 _ _ _ _
   | exact LeO.none _
   | refine LeO.ite ?_ ?_
   | refine LeO.bind ?_ (fun _ => ?_)
theorem line_Nth.mono : ∀ a0 a1 a2 k, LeO (line_Nth.f k a0 a1 a2) (line_Nth.f (k + 1) a0 a1 a2) := by
 intro a0 a1 a2 k
 obtain ⟨ih0, ih1⟩ := line_Nth.mono_l k
 unfold line_Nth.f
 repeat' first
   | (with_reducible exact ih0 _ _ _ _)
   | (with_reducible exact ih1 _ _ _ _)
   | (with_reducible exact LeO.refl _)
   | (with_reducible exact LeO.none _)
   | (with_reducible refine LeO.ite ?_ ?_)
   | (with_reducible refine LeO.bind ?_ (fun _ => ?_))
   | exact ih0 _ _ _ _
   | exact ih1 _ _ _ _
   | exact LeO.none _
   | refine LeO.ite ?_ ?_
   | refine LeO.bind ?_ (fun _ => ?_)
set_option maxHeartbeats 8000000 in
set_option maxRecDepth 100000 in
theorem line_Nth.calls (k : Nat) (a0 : Int) (a1 : Int) (a2 : Int) (r1 : Int) (r2 : Int) (w : World) (h : line_Nth.f k a0 a1 a2 = some (r1, r2)) :
  Calls Tryd.prog 105 #[.int .i64 a0, .int .i64 a1, .int .i64 a2] w fun e w' => e = .returned (.tuple #[.int .i64 r1, .int .i64 r2]) ∧ Drawn0 w w' := by
 have H : ((line_Check.f a0).bind fun t174 => (if t174 = 0 then (if a1 < 0 then (line_Nth.j0 k a0 a1 a2 true) else (if a1 > 6 then (line_Nth.j0 k a0 a1 a2 true) else (line_Nth.j0 k a0 a1 a2 (a2 == 0)))) else (some (0, t174)))) = some (r1, r2) := h
 clear h
 replace H := Option.bind_eq_some_iff.mp H
 obtain ⟨t174, A40, H⟩ := H
 replace H : (if t174 = 0 then (if a1 < 0 then (line_Nth.j0 k a0 a1 a2 true) else (if a1 > 6 then (line_Nth.j0 k a0 a1 a2 true) else (line_Nth.j0 k a0 a1 a2 (a2 == 0)))) else (some (0, t174))) = some (r1, r2) := H
 have A4 := Aside0.mk A40
 clear A40
 by_cases c5 : t174 = 0
 ·rw [if_pos c5] at H
  have c5b0 : (t174 == 0) = true := beq_iff_eq.mpr c5
  have c5b1 : (t174 != 0) = false := bne_eq_false_iff_eq.mpr c5
  clear c5
  have HC6 := Aside0.mk H
  clear H
  go_enter Tryd.func105, Tryd.ntmps105
  go_upto_region 4 with (first | ((with_reducible refine gate_callee (f := 73) rfl ?_); refine goesL_ (some 12) rfl rfl Tryd.func73 kx rfl #[.int .i64 a0] rfl aa ?_; (with_reducible refine (line_Check.calls a0 t174 _ A4.out).mono ?_); rintro e w' ⟨rfl, ⟨nd, rfl⟩⟩; refine ⟨_, rfl, ?_⟩))
  (try simp only [Act.put, List.setIfInBounds_toArray, List.set_cons_zero, List.set_cons_succ])
  go_cut [25] (fun v25 wc => ∃ (kq : Nat) (x25_5 : Bool), v25 = .bool x25_5 ∧ Aside0 (line_Nth.j0 kq a0 a1 a2 x25_5 = some (r1, r2)) ∧ Aside0 (kq ≤ k) ∧ Drawn0 w wc)
  case first =>
   have H := HC6.out
   clear HC6
   by_cases c7 : a1 < 0
   ·rw [if_pos c7] at H
    have c7b0 : decide (a1 < 0) = true := decide_eq_true c7
    clear c7
    (first | rw [c7b0] | (simp only [i64_w, i32_w]; rw [c7b0]) | skip)
    have H' := Aside0.mk H
    clear H
    go_wp2
    go_meet
    case rel => exact ⟨_, (true), rs, H', ⟨by first | omega | exact Nat.le_refl _⟩, by repeat (first | exact Drawn0.refl _ | apply Drawn0.step)⟩
   ·rw [if_neg c7] at H
    have c7b0 : decide (a1 < 0) = false := decide_eq_false c7
    clear c7
    (first | rw [c7b0] | (simp only [i64_w, i32_w]; rw [c7b0]) | skip)
    by_cases c8 : a1 > 6
    ·rw [if_pos c8] at H
     have c8b0 : decide (6 < a1) = true := decide_eq_true c8
     clear c8
     have H' := Aside0.mk H
     clear H
     go_wp2
     go_meet
     case rel => exact ⟨_, (true), rs, H', ⟨by first | omega | exact Nat.le_refl _⟩, by repeat (first | exact Drawn0.refl _ | apply Drawn0.step)⟩
    ·rw [if_neg c8] at H
     have c8b0 : decide (6 < a1) = false := decide_eq_false c8
     clear c8
     have H' := Aside0.mk H
     clear H
     go_wp2
     go_meet
     case rel => exact ⟨_, ((a2 == 0)), rs, H', ⟨by first | omega | exact Nat.le_refl _⟩, by repeat (first | exact Drawn0.refl _ | apply Drawn0.step)⟩
  case rest =>
   clear HC6
   (try clear c1); (try clear p2); (try clear c5); (try clear c5b0); (try clear c5b1); (try clear c7); (try clear c7b0); (try clear c8); (try clear c8b0)
   obtain ⟨kq, x25_5, rfl, HA, HJ5, ⟨mc5, rfl⟩⟩ := hcut
   cases kq with
   | zero => exact absurd HA.out (by simp [line_Nth.j0])
   | succ kj5 =>
    have H := HA.out
    clear HA
    simp only [line_Nth.j0] at H
    by_cases c9 : x25_5 = true
    ·subst c9
     have H1 : (some (0, 1)) = some (r1, r2) := by rw [if_pos rfl] at H; exact H
     clear H
     have H := H1
     clear H1
     simp only [Option.some.injEq, Prod.mk.injEq] at H
     obtain ⟨rfl, rfl⟩ := H
     go_wp2
     go_ret2
     exact ⟨by first | rfl | (simp; done) | (simp [*]; done), by repeat (first | exact Drawn0.refl _ | apply Drawn0.step)⟩
    ·replace c9 := Bool.eq_false_iff.mpr c9
     subst c9
     have H1 : (if a2 < (-1000000) then (line_Nth.j1 kj5 a0 a1 a2 true) else (line_Nth.j1 kj5 a0 a1 a2 (decide (a2 > 1000000)))) = some (r1, r2) := by rw [if_neg (show ¬ (false = true) by decide)] at H; exact H
     clear H
     have H := H1
     clear H1
     have HC10 := Aside0.mk H
     clear H
     go_upto_region 6 with (fail)
     go_cut [31] (fun v31 wc => ∃ (kq : Nat) (x31_9 : Bool), v31 = .bool x31_9 ∧ Aside0 (line_Nth.j1 kq a0 a1 a2 x31_9 = some (r1, r2)) ∧ Aside0 (kq ≤ kj5) ∧ Drawn0 w wc)
     case first =>
      have H := HC10.out
      clear HC10
      by_cases c11 : a2 < (-1000000)
      ·rw [if_pos c11] at H
       have c11b0 : decide (a2 < (-1000000)) = true := decide_eq_true c11
       clear c11
       (first | rw [c11b0] | (simp only [i64_w, i32_w]; rw [c11b0]) | skip)
       have H' := Aside0.mk H
       clear H
       go_wp2
       go_meet
       case rel => exact ⟨_, (true), rs, H', ⟨by have := HJ5.out; first | omega | exact Nat.le_refl _⟩, by repeat (first | exact Drawn0.refl _ | apply Drawn0.step)⟩
      ·rw [if_neg c11] at H
       have c11b0 : decide (a2 < (-1000000)) = false := decide_eq_false c11
       clear c11
       (first | rw [c11b0] | (simp only [i64_w, i32_w]; rw [c11b0]) | skip)
       have H' := Aside0.mk H
       clear H
       go_wp2
       go_meet
       case rel => exact ⟨_, (decide (a2 > 1000000)), rs, H', ⟨by have := HJ5.out; first | omega | exact Nat.le_refl _⟩, by repeat (first | exact Drawn0.refl _ | apply Drawn0.step)⟩
     case rest =>
      clear HC10
      (try clear c1); (try clear p2); (try clear c5); (try clear c5b0); (try clear c5b1); (try clear c7); (try clear c7b0); (try clear c8); (try clear c8b0); (try clear c9); (try clear c10); (try clear c11); (try clear c11b0); (try clear p2)
      obtain ⟨kq, x31_9, rfl, HA, HJ9, ⟨mc9, rfl⟩⟩ := hcut
      cases kq with
      | zero => exact absurd HA.out (by simp [line_Nth.j1])
      | succ kj9 =>
       have H := HA.out
       clear HA
       simp only [line_Nth.j1] at H
       by_cases c12 : x31_9 = true
       ·subst c12
        have H1 : (some (0, 3)) = some (r1, r2) := by rw [if_pos rfl] at H; exact H
        clear H
        have H := H1
        clear H1
        simp only [Option.some.injEq, Prod.mk.injEq] at H
        obtain ⟨rfl, rfl⟩ := H
        go_wp2
        go_ret2
        exact ⟨by first | rfl | (simp; done) | (simp [*]; done), by repeat (first | exact Drawn0.refl _ | apply Drawn0.step)⟩
       ·replace c12 := Bool.eq_false_iff.mpr c12
        subst c12
        have H1 : ((whole_Mod.f (wrap64 (a1 - (wrap64 (a0 - 1)))) 7).bind fun t175 => (if a2 < 0 then ((whole_Mod.f (wrap64 ((wrap64 (a0 - 1)) - a1)) 7).bind fun t176 => ((line_Check.f (wrap64 ((wrap64 (a0 - t176)) + (wrap64 (7 * (wrap64 (a2 + 1))))))).bind fun t177 => (if t177 = 0 then (some (wrap64 ((wrap64 (a0 - t176)) + (wrap64 (7 * (wrap64 (a2 + 1))))), 0)) else (some (0, t177))))) else ((line_Check.f (wrap64 ((wrap64 (a0 + t175)) + (wrap64 (7 * (wrap64 (a2 - 1))))))).bind fun t178 => (if t178 = 0 then (some (wrap64 ((wrap64 (a0 + t175)) + (wrap64 (7 * (wrap64 (a2 - 1))))), 0)) else (some (0, t178)))))) = some (r1, r2) := by rw [if_neg (show ¬ (false = true) by decide)] at H; exact H
        clear H
        have H := H1
        clear H1
        replace H := Option.bind_eq_some_iff.mp H
        obtain ⟨t175, A130, H⟩ := H
        replace H : (if a2 < 0 then ((whole_Mod.f (wrap64 ((wrap64 (a0 - 1)) - a1)) 7).bind fun t176 => ((line_Check.f (wrap64 ((wrap64 (a0 - t176)) + (wrap64 (7 * (wrap64 (a2 + 1))))))).bind fun t177 => (if t177 = 0 then (some (wrap64 ((wrap64 (a0 - t176)) + (wrap64 (7 * (wrap64 (a2 + 1))))), 0)) else (some (0, t177))))) else ((line_Check.f (wrap64 ((wrap64 (a0 + t175)) + (wrap64 (7 * (wrap64 (a2 - 1))))))).bind fun t178 => (if t178 = 0 then (some (wrap64 ((wrap64 (a0 + t175)) + (wrap64 (7 * (wrap64 (a2 - 1))))), 0)) else (some (0, t178))))) = some (r1, r2) := H
        have A13 := Aside0.mk A130
        clear A130
        by_cases c14 : a2 < 0
        ·rw [if_pos c14] at H
         have c14b0 : decide (a2 < 0) = true := decide_eq_true c14
         clear c14
         replace H := Option.bind_eq_some_iff.mp H
         obtain ⟨t176, A150, H⟩ := H
         replace H : ((line_Check.f (wrap64 ((wrap64 (a0 - t176)) + (wrap64 (7 * (wrap64 (a2 + 1))))))).bind fun t177 => (if t177 = 0 then (some (wrap64 ((wrap64 (a0 - t176)) + (wrap64 (7 * (wrap64 (a2 + 1))))), 0)) else (some (0, t177)))) = some (r1, r2) := H
         have A15 := Aside0.mk A150
         clear A150
         replace H := Option.bind_eq_some_iff.mp H
         obtain ⟨t177, A160, H⟩ := H
         replace H : (if t177 = 0 then (some (wrap64 ((wrap64 (a0 - t176)) + (wrap64 (7 * (wrap64 (a2 + 1))))), 0)) else (some (0, t177))) = some (r1, r2) := H
         have A16 := Aside0.mk A160
         clear A160
         by_cases c17 : t177 = 0
         ·rw [if_pos c17] at H
          have c17b0 : (t177 == 0) = true := beq_iff_eq.mpr c17
          have c17b1 : (t177 != 0) = false := bne_eq_false_iff_eq.mpr c17
          clear c17
          simp only [Option.some.injEq, Prod.mk.injEq] at H
          obtain ⟨rfl, rfl⟩ := H
          go_wp2_with (first | ((with_reducible refine gate_callee (f := 124) rfl ?_); refine goesL_ (some 37) rfl rfl Tryd.func124 kx rfl #[.int .i64 (wrap64 (a1 - (wrap64 (a0 - 1)))), .int .i64 7] rfl aa ?_; (with_reducible refine (whole_Mod.calls (wrap64 (a1 - (wrap64 (a0 - 1)))) 7 t175 _ A13.out).mono ?_); rintro e w' ⟨rfl, ⟨nd, rfl⟩⟩; refine ⟨_, rfl, ?_⟩) | ((with_reducible refine gate_callee (f := 124) rfl ?_); refine goesL_ (some 50) rfl rfl Tryd.func124 kx rfl #[.int .i64 (wrap64 ((wrap64 (a0 - 1)) - a1)), .int .i64 7] rfl aa ?_; (with_reducible refine (whole_Mod.calls (wrap64 ((wrap64 (a0 - 1)) - a1)) 7 t176 _ A15.out).mono ?_); rintro e w' ⟨rfl, ⟨nd, rfl⟩⟩; refine ⟨_, rfl, ?_⟩) | ((with_reducible refine gate_callee (f := 73) rfl ?_); refine goesL_ (some 57) rfl rfl Tryd.func73 kx rfl #[.int .i64 (wrap64 ((wrap64 (a0 - t176)) + (wrap64 (7 * (wrap64 (a2 + 1))))))] rfl aa ?_; (with_reducible refine (line_Check.calls (wrap64 ((wrap64 (a0 - t176)) + (wrap64 (7 * (wrap64 (a2 + 1)))))) t177 _ A16.out).mono ?_); rintro e w' ⟨rfl, ⟨nd, rfl⟩⟩; refine ⟨_, rfl, ?_⟩))
          go_ret2
          exact ⟨by first | rfl | (simp; done) | (simp [*]; done), by repeat (first | exact Drawn0.refl _ | apply Drawn0.step)⟩
         ·rw [if_neg c17] at H
          have c17b0 : (t177 == 0) = false := beq_eq_false_iff_ne.mpr c17
          have c17b1 : (t177 != 0) = true := bne_iff_ne.mpr c17
          simp only [Option.some.injEq, Prod.mk.injEq] at H
          obtain ⟨rfl, rfl⟩ := H
          go_wp2_with (first | ((with_reducible refine gate_callee (f := 124) rfl ?_); refine goesL_ (some 37) rfl rfl Tryd.func124 kx rfl #[.int .i64 (wrap64 (a1 - (wrap64 (a0 - 1)))), .int .i64 7] rfl aa ?_; (with_reducible refine (whole_Mod.calls (wrap64 (a1 - (wrap64 (a0 - 1)))) 7 t175 _ A13.out).mono ?_); rintro e w' ⟨rfl, ⟨nd, rfl⟩⟩; refine ⟨_, rfl, ?_⟩) | ((with_reducible refine gate_callee (f := 124) rfl ?_); refine goesL_ (some 50) rfl rfl Tryd.func124 kx rfl #[.int .i64 (wrap64 ((wrap64 (a0 - 1)) - a1)), .int .i64 7] rfl aa ?_; (with_reducible refine (whole_Mod.calls (wrap64 ((wrap64 (a0 - 1)) - a1)) 7 t176 _ A15.out).mono ?_); rintro e w' ⟨rfl, ⟨nd, rfl⟩⟩; refine ⟨_, rfl, ?_⟩) | ((with_reducible refine gate_callee (f := 73) rfl ?_); refine goesL_ (some 57) rfl rfl Tryd.func73 kx rfl #[.int .i64 (wrap64 ((wrap64 (a0 - t176)) + (wrap64 (7 * (wrap64 (a2 + 1))))))] rfl aa ?_; (with_reducible refine (line_Check.calls (wrap64 ((wrap64 (a0 - t176)) + (wrap64 (7 * (wrap64 (a2 + 1)))))) t177 _ A16.out).mono ?_); rintro e w' ⟨rfl, ⟨nd, rfl⟩⟩; refine ⟨_, rfl, ?_⟩))
          go_ret2
          exact ⟨by first | rfl | (simp; done) | (simp [*]; done), by repeat (first | exact Drawn0.refl _ | apply Drawn0.step)⟩
        ·rw [if_neg c14] at H
         have c14b0 : decide (a2 < 0) = false := decide_eq_false c14
         clear c14
         replace H := Option.bind_eq_some_iff.mp H
         obtain ⟨t178, A180, H⟩ := H
         replace H : (if t178 = 0 then (some (wrap64 ((wrap64 (a0 + t175)) + (wrap64 (7 * (wrap64 (a2 - 1))))), 0)) else (some (0, t178))) = some (r1, r2) := H
         have A18 := Aside0.mk A180
         clear A180
         by_cases c19 : t178 = 0
         ·rw [if_pos c19] at H
          have c19b0 : (t178 == 0) = true := beq_iff_eq.mpr c19
          have c19b1 : (t178 != 0) = false := bne_eq_false_iff_eq.mpr c19
          clear c19
          simp only [Option.some.injEq, Prod.mk.injEq] at H
          obtain ⟨rfl, rfl⟩ := H
          go_wp2_with (first | ((with_reducible refine gate_callee (f := 124) rfl ?_); refine goesL_ (some 37) rfl rfl Tryd.func124 kx rfl #[.int .i64 (wrap64 (a1 - (wrap64 (a0 - 1)))), .int .i64 7] rfl aa ?_; (with_reducible refine (whole_Mod.calls (wrap64 (a1 - (wrap64 (a0 - 1)))) 7 t175 _ A13.out).mono ?_); rintro e w' ⟨rfl, ⟨nd, rfl⟩⟩; refine ⟨_, rfl, ?_⟩) | ((with_reducible refine gate_callee (f := 73) rfl ?_); refine goesL_ (some 57) rfl rfl Tryd.func73 kx rfl #[.int .i64 (wrap64 ((wrap64 (a0 + t175)) + (wrap64 (7 * (wrap64 (a2 - 1))))))] rfl aa ?_; (with_reducible refine (line_Check.calls (wrap64 ((wrap64 (a0 + t175)) + (wrap64 (7 * (wrap64 (a2 - 1)))))) t178 _ A18.out).mono ?_); rintro e w' ⟨rfl, ⟨nd, rfl⟩⟩; refine ⟨_, rfl, ?_⟩))
          go_ret2
          exact ⟨by first | rfl | (simp; done) | (simp [*]; done), by repeat (first | exact Drawn0.refl _ | apply Drawn0.step)⟩
         ·rw [if_neg c19] at H
          have c19b0 : (t178 == 0) = false := beq_eq_false_iff_ne.mpr c19
          have c19b1 : (t178 != 0) = true := bne_iff_ne.mpr c19
          simp only [Option.some.injEq, Prod.mk.injEq] at H
          obtain ⟨rfl, rfl⟩ := H
          go_wp2_with (first | ((with_reducible refine gate_callee (f := 124) rfl ?_); refine goesL_ (some 37) rfl rfl Tryd.func124 kx rfl #[.int .i64 (wrap64 (a1 - (wrap64 (a0 - 1)))), .int .i64 7] rfl aa ?_; (with_reducible refine (whole_Mod.calls (wrap64 (a1 - (wrap64 (a0 - 1)))) 7 t175 _ A13.out).mono ?_); rintro e w' ⟨rfl, ⟨nd, rfl⟩⟩; refine ⟨_, rfl, ?_⟩) | ((with_reducible refine gate_callee (f := 73) rfl ?_); refine goesL_ (some 57) rfl rfl Tryd.func73 kx rfl #[.int .i64 (wrap64 ((wrap64 (a0 + t175)) + (wrap64 (7 * (wrap64 (a2 - 1))))))] rfl aa ?_; (with_reducible refine (line_Check.calls (wrap64 ((wrap64 (a0 + t175)) + (wrap64 (7 * (wrap64 (a2 - 1)))))) t178 _ A18.out).mono ?_); rintro e w' ⟨rfl, ⟨nd, rfl⟩⟩; refine ⟨_, rfl, ?_⟩))
          go_ret2
          exact ⟨by first | rfl | (simp; done) | (simp [*]; done), by repeat (first | exact Drawn0.refl _ | apply Drawn0.step)⟩
 ·rw [if_neg c5] at H
  have c5b0 : (t174 == 0) = false := beq_eq_false_iff_ne.mpr c5
  have c5b1 : (t174 != 0) = true := bne_iff_ne.mpr c5
  simp only [Option.some.injEq, Prod.mk.injEq] at H
  obtain ⟨rfl, rfl⟩ := H
  go_enter Tryd.func105, Tryd.ntmps105
  go_wp2_with (first | ((with_reducible refine gate_callee (f := 73) rfl ?_); refine goesL_ (some 12) rfl rfl Tryd.func73 kx rfl #[.int .i64 a0] rfl aa ?_; (with_reducible refine (line_Check.calls a0 t174 _ A4.out).mono ?_); rintro e w' ⟨rfl, ⟨nd, rfl⟩⟩; refine ⟨_, rfl, ?_⟩))
  go_ret2
  exact ⟨by first | rfl | (simp; done) | (simp [*]; done), by repeat (first | exact Drawn0.refl _ | apply Drawn0.step)⟩

/-! ### forecast_day: function 77 -/
def forecast_day.l0 : Nat → Int → Int → Int → Int → Int → ByteArray → Int → Int → Int → Option (Int)
 | 0, _, _, _, _, _, _, _, _, _ => none
 | k + 1, x180000, x180001, x180002, x180003, x180004, x180005, x181000, x181001, x181002 => (line_Day.f k x181000 x181001 x181002).bind fun bt181 => (if bt181.2 = 0 then ((line_Nth.f k bt181.1 x180002 (-1)).bind fun bt183 => (some bt183.1)) else (forecast_day.l0 k x180000 x180001 x180002 x180003 x180004 x180005 x181000 x181001 (wrap64 (x181002 - 1))))
def forecast_day.f (k : Nat) (a0_0 : Int) (a0_1 : Int) (a0_2 : Int) (a0_3 : Int) (a0_4 : Int) (a0_5 : ByteArray) (a1 : Int) : Option (Int) := if a0_1 = 5 then (forecast_day.l0 k a0_0 a0_1 a0_2 a0_3 a0_4 a0_5 a1 a0_0 31) else ((line_Day.f k a1 a0_0 1).bind fun bt185 => ((line_Nth.f k bt185.1 a0_2 a0_1).bind fun bt187 => (some bt187.1)))
theorem forecast_day.mono_l : ∀ k, (∀ y0 y1 y2 y3 y4 y5 y6 y7 y8, LeO (forecast_day.l0 k y0 y1 y2 y3 y4 y5 y6 y7 y8) (forecast_day.l0 (k + 1) y0 y1 y2 y3 y4 y5 y6 y7 y8))
 | 0 => fun _ _ _ _ _ _ _ _ _ r h => by simp [forecast_day.l0] at h
 | k + 1 => by
  have ih0 := forecast_day.mono_l k
  ·intro y0 y1 y2 y3 y4 y5 y6 y7 y8
   unfold forecast_day.l0
   repeat' first
   | (with_reducible exact ih0 _ _ _ _ _ _ _ _ _)
   | (with_reducible exact line_Day.mono _ _ _ _)
   | (with_reducible exact line_Nth.mono _ _ _ _)
   | (with_reducible exact LeO.refl _)
   | (with_reducible exact LeO.none _)
   | (with_reducible refine LeO.ite ?_ ?_)
   | (with_reducible refine LeO.bind ?_ (fun _ => ?_))
   | exact ih0 _ _ _ _ _ _ _ _ _
   | exact line_Day.mono _ _ _ _
   | exact line_Nth.mono _ _ _ _
   | exact LeO.none _
   | refine LeO.ite ?_ ?_
   | refine LeO.bind ?_ (fun _ => ?_)
theorem forecast_day.mono : ∀ a0 a1 a2 a3 a4 a5 a6 k, LeO (forecast_day.f k a0 a1 a2 a3 a4 a5 a6) (forecast_day.f (k + 1) a0 a1 a2 a3 a4 a5 a6) := by
 intro a0 a1 a2 a3 a4 a5 a6 k
 have ih0 := forecast_day.mono_l k
 unfold forecast_day.f
 repeat' first
   | (with_reducible exact ih0 _ _ _ _ _ _ _ _ _)
   | (with_reducible exact line_Day.mono _ _ _ _)
   | (with_reducible exact line_Nth.mono _ _ _ _)
   | (with_reducible exact LeO.refl _)
   | (with_reducible exact LeO.none _)
   | (with_reducible refine LeO.ite ?_ ?_)
   | (with_reducible refine LeO.bind ?_ (fun _ => ?_))
   | exact ih0 _ _ _ _ _ _ _ _ _
   | exact line_Day.mono _ _ _ _
   | exact line_Nth.mono _ _ _ _
   | exact LeO.none _
   | refine LeO.ite ?_ ?_
   | refine LeO.bind ?_ (fun _ => ?_)
set_option maxHeartbeats 8000000 in
set_option maxRecDepth 100000 in
theorem forecast_day.calls (k : Nat) (a0_0 : Int) (a0_1 : Int) (a0_2 : Int) (a0_3 : Int) (a0_4 : Int) (a0_5 : ByteArray) (a1 : Int) (r : Int) (w : World) (h : forecast_day.f k a0_0 a0_1 a0_2 a0_3 a0_4 a0_5 a1 = some r) :
  Calls Tryd.prog 77 #[.agg #[.int .i64 a0_0, .int .i64 a0_1, .int .i64 a0_2, .int .i64 a0_3, .int .i64 a0_4, .string a0_5], .int .i64 a1] w fun e w' => e = .returned (.int .i64 r) ∧ Below w.heap.size w w' := by
 have hu92 := Tryd.underlying92
 have hu138 := Tryd.underlying138
 have HB := Aside0.mk (Below.refl w.heap.size w)
 have H : (if a0_1 = 5 then (forecast_day.l0 k a0_0 a0_1 a0_2 a0_3 a0_4 a0_5 a1 a0_0 31) else ((line_Day.f k a1 a0_0 1).bind fun bt185 => ((line_Nth.f k bt185.1 a0_2 a0_1).bind fun bt187 => (some bt187.1)))) = some r := h
 clear h
 by_cases c3 : a0_1 = 5
 ·rw [if_pos c3] at H
  have c3b0 : (a0_1 == 5) = true := beq_iff_eq.mpr c3
  have c3b1 : (a0_1 != 5) = false := bne_eq_false_iff_eq.mpr c3
  clear c3
  have H' := Aside0.mk H
  clear H
  go_enter Tryd.func77, Tryd.ntmps77
  go_wp2_with (first | ((with_reducible refine gate_dst (N := 2) rfl ?_); refine box_event ?hg (N := 2) ?hd (cs := #[.int .i64 a0_0, .int .i64 a0_1, .int .i64 a0_2, .int .i64 a0_3, .int .i64 a0_4, .string a0_5]) (t := 92) ?hr ?_; (case hd => rfl); (case hg => rfl); (case hr => first | (go_simp; done) | (go_simp; rfl)); intro gb179 hg w4 hbox hb; have n0_ := Aside0.mk (below_step be hb); have n1_ := Aside0.mk (hbox); have n2_ := gs hg HB; have n3_ := n2_; clear HB; have HB := n0_; have BK179 := n1_; have GW179 := n2_; have GE179 := n3_; clear n0_ n1_ n2_ n3_; clear hb hbox hg; obtain ⟨hcz5_0, hcz5_1, hcz5_2, hcz5_3, hcz5_4, hcz5_5, hfz5_0, hfz5_1, hfz5_2, hfz5_3, hfz5_4, hfz5_5⟩ := bc6 BK179) | ((with_reducible refine gate_dst (N := 5) rfl ?_); refine box_event ?hg (N := 5) ?hd (cs := #[.int .i64 0, .int .i64 0, .int .i64 0]) (t := 138) ?hr ?_; (case hd => rfl); (case hg => rfl); (case hr => first | (go_simp; done) | (go_simp; rfl)); intro gb180 hg w6 hbox hb; have n0_ := bb BK179 hb; have n1_ := Aside0.mk (below_step be hb); have n2_ := Aside0.mk (hbox); have n3_ := gs hg HB; have n4_ := n3_; have n5_ := nl BK179 hg; have n6_ := ns n5_; clear BK179; clear HB; have BK179 := n0_; have HB := n1_; have BK180 := n2_; have GW180 := n3_; have GE180 := n4_; have NB179_180 := n5_; have NB180_179 := n6_; clear n0_ n1_ n2_ n3_ n4_ n5_ n6_; clear hb hbox hg; have hnb7 := NB180_179.out; have hnc7 := NB179_180.out; obtain ⟨hcz8_0, hcz8_1, hcz8_2, hfz8_0, hfz8_1, hfz8_2⟩ := bc3 BK180))
  go_loopg [] k (fun kq w' => ∃ (x181002_1 : Int), Aside0 (forecast_day.l0 kq a0_0 a0_1 a0_2 a0_3 a0_4 a0_5 a1 a0_0 x181002_1 = some r) ∧ Aside0 (kq ≤ k) ∧ Aside0 (w'.heap[gb179]? = some (.cells #[.int .i64 a0_0, .int .i64 a0_1, .int .i64 a0_2, .int .i64 a0_3, .int .i64 a0_4, .string a0_5] 92 (0, 0))) ∧ Aside0 (w'.heap[gb180]? = some (.cells #[.int .i64 a1, .int .i64 a0_0, .int .i64 x181002_1] 138 (0, 0))) ∧ Aside0 (Below w.heap.size w w'))
  case atStart => exact ⟨(31), H', ⟨Nat.le_refl _⟩, ⟨bk BK179⟩, ⟨bk BK180⟩, ⟨be⟩⟩
  case round =>
   clear H'
   (try clear p2); (try clear c3); (try clear c3b0); (try clear c3b1); (try clear c7); (try clear hcz5_0); (try clear hcz5_1); (try clear hcz5_2); (try clear hcz5_3); (try clear hcz5_4); (try clear hcz5_5); (try clear hcz8_0); (try clear hcz8_1); (try clear hcz8_2); (try clear hfz5_0); (try clear hfz5_1); (try clear hfz5_2); (try clear hfz5_3); (try clear hfz5_4); (try clear hfz5_5); (try clear hfz8_0); (try clear hfz8_1); (try clear hfz8_2)
   obtain ⟨x181002_1, HA, HK1, BK179, BK180, HB⟩ := hrel
   cases gk with
   | zero => exact absurd HA.out (by simp [forecast_day.l0])
   | succ k1 =>
    have H := HA.out
    clear HA
    simp only [forecast_day.l0] at H
    replace H := Option.bind_eq_some_iff.mp H
    obtain ⟨⟨t181, t182⟩, A90, H⟩ := H
    replace H : (if t182 = 0 then ((line_Nth.f k1 t181 a0_2 (-1)).bind fun bt183 => (some bt183.1)) else (forecast_day.l0 k1 a0_0 a0_1 a0_2 a0_3 a0_4 a0_5 a1 a0_0 (wrap64 (x181002_1 - 1)))) = some r := H
    have A9 := Aside0.mk A90
    clear A90
    by_cases c10 : t182 = 0
    ·rw [if_pos c10] at H
     have c10b0 : (t182 == 0) = true := beq_iff_eq.mpr c10
     have c10b1 : (t182 != 0) = false := bne_eq_false_iff_eq.mpr c10
     clear c10
     replace H := Option.bind_eq_some_iff.mp H
     obtain ⟨⟨t183, t184⟩, A110, H⟩ := H
     replace H : (some t183) = some r := H
     have A11 := Aside0.mk A110
     clear A110
     obtain rfl := Option.some.inj H
     have hnb12 := NB180_179.out
     have hnc12 := NB179_180.out
     obtain ⟨hcz13_0, hcz13_1, hcz13_2, hfz13_0, hfz13_1, hfz13_2⟩ := bc3 BK180
     go_wp2_with (first | ((with_reducible refine gate_callee (f := 104) rfl ?_); refine goesL_ (some 23) rfl rfl Tryd.func104 kx rfl #[.agg #[.int .i64 a1, .int .i64 a0_0, .int .i64 x181002_1]] rfl aa ?_; (with_reducible refine (line_Day.calls k1 a1 a0_0 x181002_1 t181 t182 _ A9.out).mono ?_); rintro e w14 ⟨rfl, hb⟩; refine ⟨_, rfl, ?_⟩; have n0_ := bb BK179 hb; have n1_ := bb BK180 hb; have n2_ := Aside0.mk (below_step be hb); clear BK179; clear BK180; clear HB; have BK179 := n0_; have BK180 := n1_; have HB := n2_; clear n0_ n1_ n2_; (try clear hb); (try clear hb2); (try clear hk); (try clear hi); obtain ⟨hcz15_0, hcz15_1, hcz15_2, hcz15_3, hcz15_4, hcz15_5, hfz15_0, hfz15_1, hfz15_2, hfz15_3, hfz15_4, hfz15_5⟩ := bc6 BK179) | ((with_reducible refine gate_callee (f := 105) rfl ?_); refine goesL_ (some 32) rfl rfl Tryd.func105 kx rfl #[.int .i64 t181, .int .i64 a0_2, .int .i64 (-1)] rfl aa ?_; (with_reducible refine (line_Nth.calls k1 t181 a0_2 (-1) t183 t184 _ A11.out).mono ?_); rintro e w' ⟨rfl, ⟨nd, rfl⟩⟩; refine ⟨_, rfl, ?_⟩))
     go_ret
     exact ⟨by first | rfl | (simp [errW_none, errW_some] <;> rfl) | (simp [*, errW_none, errW_some] <;> rfl), be⟩
    ·rw [if_neg c10] at H
     have c10b0 : (t182 == 0) = false := beq_eq_false_iff_ne.mpr c10
     have c10b1 : (t182 != 0) = true := bne_iff_ne.mpr c10
     have H' := Aside0.mk H
     clear H
     have hnb16 := NB180_179.out
     have hnc16 := NB179_180.out
     obtain ⟨hcz17_0, hcz17_1, hcz17_2, hfz17_0, hfz17_1, hfz17_2⟩ := bc3 BK180
     go_wp2_with (first | ((with_reducible refine gate_callee (f := 104) rfl ?_); refine goesL_ (some 23) rfl rfl Tryd.func104 kx rfl #[.agg #[.int .i64 a1, .int .i64 a0_0, .int .i64 x181002_1]] rfl aa ?_; (with_reducible refine (line_Day.calls k1 a1 a0_0 x181002_1 t181 t182 _ A9.out).mono ?_); rintro e w18 ⟨rfl, hb⟩; refine ⟨_, rfl, ?_⟩; have n0_ := bb BK179 hb; have n1_ := bb BK180 hb; have n2_ := Aside0.mk (below_step be hb); clear BK179; clear BK180; clear HB; have BK179 := n0_; have BK180 := n1_; have HB := n2_; clear n0_ n1_ n2_; (try clear hb); (try clear hb2); (try clear hk); (try clear hi); obtain ⟨hcz19_0, hcz19_1, hcz19_2, hfz19_0, hfz19_1, hfz19_2⟩ := bc3 BK180))
     go_roundg k1
     case measure => have := HK1.out; omega
     case rel => exact ⟨(wrap64 (x181002_1 - 1)), H', ⟨by have := HK1.out; omega⟩, ⟨bk BK179⟩, ⟨bk BK180⟩, ⟨be⟩⟩
 ·rw [if_neg c3] at H
  have c3b0 : (a0_1 == 5) = false := beq_eq_false_iff_ne.mpr c3
  have c3b1 : (a0_1 != 5) = true := bne_iff_ne.mpr c3
  replace H := Option.bind_eq_some_iff.mp H
  obtain ⟨⟨t185, t186⟩, A200, H⟩ := H
  replace H : ((line_Nth.f k t185 a0_2 a0_1).bind fun bt187 => (some bt187.1)) = some r := H
  have A20 := Aside0.mk A200
  clear A200
  replace H := Option.bind_eq_some_iff.mp H
  obtain ⟨⟨t187, t188⟩, A210, H⟩ := H
  replace H : (some t187) = some r := H
  have A21 := Aside0.mk A210
  clear A210
  obtain rfl := Option.some.inj H
  go_enter Tryd.func77, Tryd.ntmps77
  go_wp2_with (first | ((with_reducible refine gate_dst (N := 2) rfl ?_); refine box_event ?hg (N := 2) ?hd (cs := #[.int .i64 a0_0, .int .i64 a0_1, .int .i64 a0_2, .int .i64 a0_3, .int .i64 a0_4, .string a0_5]) (t := 92) ?hr ?_; (case hd => rfl); (case hg => rfl); (case hr => first | (go_simp; done) | (go_simp; rfl)); intro gb179 hg w22 hbox hb; have n0_ := Aside0.mk (below_step be hb); have n1_ := Aside0.mk (hbox); have n2_ := gs hg HB; have n3_ := n2_; clear HB; have HB := n0_; have BK179 := n1_; have GW179 := n2_; have GE179 := n3_; clear n0_ n1_ n2_ n3_; clear hb hbox hg; obtain ⟨hcz23_0, hcz23_1, hcz23_2, hcz23_3, hcz23_4, hcz23_5, hfz23_0, hfz23_1, hfz23_2, hfz23_3, hfz23_4, hfz23_5⟩ := bc6 BK179) | ((with_reducible refine gate_callee (f := 104) rfl ?_); refine goesL_ (some 45) rfl rfl Tryd.func104 kx rfl #[.agg #[.int .i64 a1, .int .i64 a0_0, .int .i64 1]] rfl aa ?_; (with_reducible refine (line_Day.calls k a1 a0_0 1 t185 t186 _ A20.out).mono ?_); rintro e w24 ⟨rfl, hb⟩; refine ⟨_, rfl, ?_⟩; have n0_ := bb BK179 hb; have n1_ := Aside0.mk (below_step be hb); clear BK179; clear HB; have BK179 := n0_; have HB := n1_; clear n0_ n1_; (try clear hb); (try clear hb2); (try clear hk); (try clear hi); obtain ⟨hcz25_0, hcz25_1, hcz25_2, hcz25_3, hcz25_4, hcz25_5, hfz25_0, hfz25_1, hfz25_2, hfz25_3, hfz25_4, hfz25_5⟩ := bc6 BK179) | ((with_reducible refine gate_callee (f := 105) rfl ?_); refine goesL_ (some 54) rfl rfl Tryd.func105 kx rfl #[.int .i64 t185, .int .i64 a0_2, .int .i64 a0_1] rfl aa ?_; (with_reducible refine (line_Nth.calls k t185 a0_2 a0_1 t187 t188 _ A21.out).mono ?_); rintro e w' ⟨rfl, ⟨nd, rfl⟩⟩; refine ⟨_, rfl, ?_⟩))
  go_ret
  exact ⟨by first | rfl | (simp [errW_none, errW_some] <;> rfl) | (simp [*, errW_none, errW_some] <;> rfl), be⟩

end Go.Proofs.YtolhlaadhfilnaaDoor.PForecastExtends
