/- The walks of the functions of this part, laid closer by a program of mine. -/
-- The walks of the law's functions, told by a program.
import Derived.Test.YtolhlaadhfilnaaDoorY
import Derived.Test.YtolhlaadhfilnaaDoorPForecastExtendsx0
import Derived.Test.YtolhlaadhfilnaaDoorPForecastExtendsx5
import Derived.Test.YtolhlaadhfilnaaDoorPForecastExtendsx6
import Derived.Test.YtolhlaadhfilnaaDoorPForecastExtendsx8
namespace Go.Proofs.YtolhlaadhfilnaaDoor.PForecastExtends
open Go.RowKit Go.Proofs.YtolhlaadhfilnaaDoorW.PrintWords Go.Proofs.YtolhlaadhfilnaaDoorW.PrintLast Go.Proofs.YtolhlaadhfilnaaDoorW.PrintMore Go.Proofs.YtolhlaadhfilnaaDoor.Y
attribute [local go_sem] max2_int min2_int max_two min_two max_three min_three max_four min_four   -- for this text's walks alone
set_option linter.unusedVariables false
set_option linter.unusedSimpArgs false

/-! ### forecast_Year: function 49 -/
mutual
def forecast_Year.j0 : Nat → List (S92) → Int → Int → Bool → Option ((List (S43)) × Int)
 | 0, _, _, _, _ => none
 | k + 1, x0, x1, x2, x27 => if x27 = true then (some (([] : List (S43)), 3)) else (forecast_Year.l0 k x1 x2 ([] : List (S43)) x0 (x0.length : Int) 0)
def forecast_Year.l0 : Nat → Int → Int → List (S43) → List (S92) → Int → Int → Option ((List (S43)) × Int)
 | 0, _, _, _, _, _, _ => none
 | k + 1, x1, x2, x9, x28, x29, x30 => if x30 < x29 then (if 0 ≤ x30 then (if x30 < (x28.length : Int) then ((forecast_day.f k ((rd_T92 x28 x30).f0) ((rd_T92 x28 x30).f1) ((rd_T92 x28 x30).f2) ((rd_T92 x28 x30).f3) ((rd_T92 x28 x30).f4) ((rd_T92 x28 x30).f5) x2).bind fun t193 => (if x9.length < 4398046511104 then (forecast_Year.l0 k ((rd_T92 x28 x30).f4) x2 (x9 ++ [(⟨wrap64 ((wrap64 ((wrap64 (t193 * 86400000)) + ((rd_T92 x28 x30).f3))) - x1), (rd_T92 x28 x30).f4, (rd_T92 x28 x30).f5⟩ : S43)]) x28 x29 (wrap64 (x30 + 1))) else (none))) else (none)) else (none)) else (some (x9, 0))
end
def forecast_Year.f (k : Nat) (l0 : List (S92)) (a1 : Int) (a2 : Int) : Option ((List (S43)) × Int) := (forecast_Check.f k l0).bind fun t189 => (if t189 = 0 then ((zone_IsOffset.f a1).bind fun t190 => (if t190 = true then (if a2 < (-10000) then (forecast_Year.j0 k l0 a1 a2 true) else (forecast_Year.j0 k l0 a1 a2 (decide (a2 > 10000)))) else (forecast_Year.j0 k l0 a1 a2 true))) else (some (([] : List (S43)), t189)))
theorem forecast_Year.mono_l : ∀ k, (∀ y0 y1 y2 y3, LeO (forecast_Year.j0 k y0 y1 y2 y3) (forecast_Year.j0 (k + 1) y0 y1 y2 y3)) ∧ (∀ y0 y1 y2 y3 y4 y5, LeO (forecast_Year.l0 k y0 y1 y2 y3 y4 y5) (forecast_Year.l0 (k + 1) y0 y1 y2 y3 y4 y5))
 | 0 => ⟨fun _ _ _ _ r h => by simp [forecast_Year.j0] at h, fun _ _ _ _ _ _ r h => by simp [forecast_Year.l0] at h⟩
 | k + 1 => by
  obtain ⟨ih0, ih1⟩ := forecast_Year.mono_l k
  refine ⟨?_, ?_⟩
  ·intro y0 y1 y2 y3
   unfold forecast_Year.j0
   repeat' first
   | (with_reducible exact ih0 _ _ _ _)
   | (with_reducible exact ih1 _ _ _ _ _ _)
   | (with_reducible exact forecast_Check.mono _ _)
   | (with_reducible exact forecast_day.mono _ _ _ _ _ _ _ _)
   | (with_reducible exact LeO.refl _)
   | (with_reducible exact LeO.none _)
   | (with_reducible refine LeO.ite ?_ ?_)
   | (with_reducible refine LeO.bind ?_ (fun _ => ?_))
   | exact ih0 _ _ _ _
   | exact ih1 _ _ _ _ _ _
   | exact forecast_Check.mono _ _
   | exact forecast_day.mono _ _ _ _ _ _ _ _
   | exact LeO.none _
   | refine LeO.ite ?_ ?_
   | refine LeO.bind ?_ (fun _ => ?_)
  ·intro y0 y1 y2 y3 y4 y5
   unfold forecast_Year.l0
   repeat' first
   | (with_reducible exact ih0 _ _ _ _)
   | (with_reducible exact ih1 _ _ _ _ _ _)
   | (with_reducible exact forecast_Check.mono _ _)
   | (with_reducible exact forecast_day.mono _ _ _ _ _ _ _ _)
   | (with_reducible exact LeO.refl _)
   | (with_reducible exact LeO.none _)
   | (with_reducible refine LeO.ite ?_ ?_)
   | (with_reducible refine LeO.bind ?_ (fun _ => ?_))
   | exact ih0 _ _ _ _
   | exact ih1 _ _ _ _ _ _
   | exact forecast_Check.mono _ _
   | exact forecast_day.mono _ _ _ _ _ _ _ _
   | exact LeO.none _
   | refine LeO.ite ?_ ?_
   | refine LeO.bind ?_ (fun _ => ?_)
theorem forecast_Year.mono : ∀ a0 a1 a2 k, LeO (forecast_Year.f k a0 a1 a2) (forecast_Year.f (k + 1) a0 a1 a2) := by
 intro a0 a1 a2 k
 obtain ⟨ih0, ih1⟩ := forecast_Year.mono_l k
 unfold forecast_Year.f
 repeat' first
   | (with_reducible exact ih0 _ _ _ _)
   | (with_reducible exact ih1 _ _ _ _ _ _)
   | (with_reducible exact forecast_Check.mono _ _)
   | (with_reducible exact forecast_day.mono _ _ _ _ _ _ _ _)
   | (with_reducible exact LeO.refl _)
   | (with_reducible exact LeO.none _)
   | (with_reducible refine LeO.ite ?_ ?_)
   | (with_reducible refine LeO.bind ?_ (fun _ => ?_))
   | exact ih0 _ _ _ _
   | exact ih1 _ _ _ _ _ _
   | exact forecast_Check.mono _ _
   | exact forecast_day.mono _ _ _ _ _ _ _ _
   | exact LeO.none _
   | refine LeO.ite ?_ ?_
   | refine LeO.bind ?_ (fun _ => ?_)
def forecast_Year.T10 : Bool × List (List Nat × List Nat) := (true, [([], []), ([], []), ([], []), ([1, 2], [1, 2]), ([3], [3]), ([], []), ([5], [5]), ([4, 6], [4, 6]), ([], []), ([7, 8], [7, 8]), ([], []), ([10], [10]), ([], []), ([12], [12]), ([9, 11, 13], [9, 11, 13]), ([14], [14]), ([0, 15, 3], [0, 15]), ([16, 16, 0, 1, 2, 3, 4, 5, 6, 7, 8, 9, 10, 11, 12, 13, 14, 15, 16], [0, 16])])
def forecast_Year.B10 : List Nat := [0, 0, 0, 6, 14, 0, 32, 126, 0, 510, 0, 1024, 0, 4096, 16382, 32766, 65535, 131071]
theorem forecast_Year.tab10 : rtab .any (opsOf Tryd.f49 10) = forecast_Year.T10 := by kernel_rfl
theorem forecast_Year.bits10 : waitsOk forecast_Year.T10.2 forecast_Year.B10 = true := by kernel_rfl
set_option maxHeartbeats 8000000 in
set_option maxRecDepth 100000 in
theorem forecast_Year.calls (k : Nat) (A0 : Option Addr) (c0 : Nat) (l0 : List (S92)) (a1 : Int) (a2 : Int) (r1 : List (S43)) (r2 : Int) (w : World) (hr0 : Kd.C k92 w A0 l0.length l0) (hc0 : l0.length ≤ c0) (h : forecast_Year.f k l0 a1 a2 = some (r1, r2)) :
  Calls Tryd.prog 49 #[.slice A0 l0.length c0, .int .i64 a1, .int .i64 a2] w fun e w' => ∃ v0_ : Value, e = .returned (.tuple #[v0_, .int .i64 r2]) ∧ Kd.R k43 43 w' w.heap.size (fun _ => True) v0_ r1 ∧ Below w.heap.size w w' := by
 have hu92 := Tryd.underlying92
 have hu43 := Tryd.underlying43
 have HR0 := Aside0.mk hr0
 have HC0 := Aside0.mk hc0
 clear hr0 hc0
 have HB := Aside0.mk (Below.refl w.heap.size w)
 have H : ((forecast_Check.f k l0).bind fun t189 => (if t189 = 0 then ((zone_IsOffset.f a1).bind fun t190 => (if t190 = true then (if a2 < (-10000) then (forecast_Year.j0 k l0 a1 a2 true) else (forecast_Year.j0 k l0 a1 a2 (decide (a2 > 10000)))) else (forecast_Year.j0 k l0 a1 a2 true))) else (some (([] : List (S43)), t189)))) = some (r1, r2) := h
 clear h
 replace H := Option.bind_eq_some_iff.mp H
 obtain ⟨t189, A40, H⟩ := H
 replace H : (if t189 = 0 then ((zone_IsOffset.f a1).bind fun t190 => (if t190 = true then (if a2 < (-10000) then (forecast_Year.j0 k l0 a1 a2 true) else (forecast_Year.j0 k l0 a1 a2 (decide (a2 > 10000)))) else (forecast_Year.j0 k l0 a1 a2 true))) else (some (([] : List (S43)), t189))) = some (r1, r2) := H
 have A4 := Aside0.mk A40
 clear A40
 by_cases c5 : t189 = 0
 ·rw [if_pos c5] at H
  have c5b0 : (t189 == 0) = true := beq_iff_eq.mpr c5
  have c5b1 : (t189 != 0) = false := bne_eq_false_iff_eq.mpr c5
  clear c5
  have HC6 := Aside0.mk H
  clear H
  go_enter Tryd.func49, Tryd.ntmps49
  go_upto_region 4 with (first | ((with_reducible refine gate_callee (f := 47) rfl ?_); refine goesL_ (some 13) rfl rfl Tryd.func47 kx rfl #[.slice A0 l0.length c0] rfl aa ?_; (with_reducible refine (forecast_Check.calls k _ _ l0 t189 _ ?side1 ?side2 A4.out).mono ?_); (case side1 => repeat (first | exact HR0.out | (with_reducible refine Kd.C_alloc ?_ _) | (with_reducible refine Kd.C_drewN ?_ _) | (with_reducible refine Kd.C_drew ?_))); (case side2 => exact HC0.out); rintro e w7 ⟨rfl, hb⟩; refine ⟨_, rfl, ?_⟩; have n0_ := Aside0.mk (below_step be hb); clear HB; have HB := n0_; clear n0_; (try clear hb); (try clear hb2); (try clear hk); (try clear hi)))
  (try simp only [Act.put, List.setIfInBounds_toArray, List.set_cons_zero, List.set_cons_succ])
  go_cut [27] (fun v27 wc => ∃ (kq : Nat) (x27_5 : Bool), v27 = .bool x27_5 ∧ Aside0 (forecast_Year.j0 kq l0 a1 a2 x27_5 = some (r1, r2)) ∧ Aside0 (kq ≤ k) ∧ Aside0 (Below w.heap.size w wc))
  case first =>
   have H := HC6.out
   clear HC6
   replace H := Option.bind_eq_some_iff.mp H
   obtain ⟨t190, A80, H⟩ := H
   replace H : (if t190 = true then (if a2 < (-10000) then (forecast_Year.j0 k l0 a1 a2 true) else (forecast_Year.j0 k l0 a1 a2 (decide (a2 > 10000)))) else (forecast_Year.j0 k l0 a1 a2 true)) = some (r1, r2) := H
   have A8 := Aside0.mk A80
   clear A80
   by_cases c9 : t190 = true
   ·subst c9
    have H1 : (if a2 < (-10000) then (forecast_Year.j0 k l0 a1 a2 true) else (forecast_Year.j0 k l0 a1 a2 (decide (a2 > 10000)))) = some (r1, r2) := by rw [if_pos rfl] at H; exact H
    clear H
    have H := H1
    clear H1
    by_cases c10 : a2 < (-10000)
    ·rw [if_pos c10] at H
     have c10b0 : decide (a2 < (-10000)) = true := decide_eq_true c10
     clear c10
     (first | rw [c10b0] | (simp only [i64_w, i32_w]; rw [c10b0]) | skip)
     have H' := Aside0.mk H
     clear H
     go_wp2_with (first | ((with_reducible refine gate_callee (f := 71) rfl ?_); refine goesL_ (some 18) rfl rfl Tryd.func71 kx rfl #[.int .i64 a1] rfl aa ?_; (with_reducible refine (zone_IsOffset.calls a1 true _ A8.out).mono ?_); rintro e w' ⟨rfl, ⟨nd, rfl⟩⟩; refine ⟨_, rfl, ?_⟩))
     go_meet
     case rel => exact ⟨_, (true), rs, H', ⟨by first | omega | exact Nat.le_refl _⟩, ⟨be⟩⟩
    ·rw [if_neg c10] at H
     have c10b0 : decide (a2 < (-10000)) = false := decide_eq_false c10
     clear c10
     (first | rw [c10b0] | (simp only [i64_w, i32_w]; rw [c10b0]) | skip)
     have H' := Aside0.mk H
     clear H
     go_wp2_with (first | ((with_reducible refine gate_callee (f := 71) rfl ?_); refine goesL_ (some 18) rfl rfl Tryd.func71 kx rfl #[.int .i64 a1] rfl aa ?_; (with_reducible refine (zone_IsOffset.calls a1 true _ A8.out).mono ?_); rintro e w' ⟨rfl, ⟨nd, rfl⟩⟩; refine ⟨_, rfl, ?_⟩))
     go_meet
     case rel => exact ⟨_, (decide (a2 > 10000)), rs, H', ⟨by first | omega | exact Nat.le_refl _⟩, ⟨be⟩⟩
   ·replace c9 := Bool.eq_false_iff.mpr c9
    subst c9
    have H1 : (forecast_Year.j0 k l0 a1 a2 true) = some (r1, r2) := by rw [if_neg (show ¬ (false = true) by decide)] at H; exact H
    clear H
    have H := H1
    clear H1
    have H' := Aside0.mk H
    clear H
    go_wp2_with (first | ((with_reducible refine gate_callee (f := 71) rfl ?_); refine goesL_ (some 18) rfl rfl Tryd.func71 kx rfl #[.int .i64 a1] rfl aa ?_; (with_reducible refine (zone_IsOffset.calls a1 false _ A8.out).mono ?_); rintro e w' ⟨rfl, ⟨nd, rfl⟩⟩; refine ⟨_, rfl, ?_⟩))
    go_meet
    case rel => exact ⟨_, (true), rs, H', ⟨by first | omega | exact Nat.le_refl _⟩, ⟨be⟩⟩
  case rest =>
   clear HC6
   (try clear c1); (try clear p2); (try clear c4); (try clear c5); (try clear c5b0); (try clear c5b1); (try clear c7); (try clear c9); (try clear c10); (try clear c10b0)
   obtain ⟨kq, x27_5, rfl, HA, HJ5, HB⟩ := hcut
   cases kq with
   | zero => exact absurd HA.out (by simp [forecast_Year.j0])
   | succ kj5 =>
    have H := HA.out
    clear HA
    simp only [forecast_Year.j0] at H
    by_cases c11 : x27_5 = true
    ·subst c11
     have H1 : (some (([] : List (S43)), 3)) = some (r1, r2) := by rw [if_pos rfl] at H; exact H
     clear H
     have H := H1
     clear H1
     simp only [Option.some.injEq, Prod.mk.injEq] at H
     obtain ⟨rfl, rfl⟩ := H
     go_wp2
     go_ret2
     exact ⟨_, by first | rfl | (simp [errW_none, errW_some] <;> rfl) | (simp [*, errW_none, errW_some] <;> rfl), by first | exact Kd.R_nil _ _ _ _ _ | exact Kd.N_nil _ _ _ _ _ | exact Kd.V_nil _ _ _ _ _ | exact Kd.Q_nil _ _ _ _ _ | exact Kd.S_nil _ _ _ _ _, be⟩
    ·replace c11 := Bool.eq_false_iff.mpr c11
     subst c11
     have H1 : (forecast_Year.l0 kj5 a1 a2 ([] : List (S43)) l0 (l0.length : Int) 0) = some (r1, r2) := by rw [if_neg (show ¬ (false = true) by decide)] at H; exact H
     clear H
     have H := H1
     clear H1
     have H' := Aside0.mk H
     clear H
     go_wp2
     go_loopg [1, 9, 30] kj5 (fun kq v1 v9 v30 w' => ∃ (x1_2 : Int) (x9_2 : List (S43)) (x30_2 : Int), v1 = .int .i64 x1_2 ∧ v30 = .int .i64 x30_2 ∧ Aside0 (forecast_Year.l0 kq x1_2 a2 x9_2 l0 (l0.length : Int) x30_2 = some (r1, r2)) ∧ Aside0 (kq ≤ kj5) ∧ Aside0 (Kd.R k43 43 w' w.heap.size (fun _ => True) v9 x9_2) ∧ Aside0 (Below w.heap.size w w'))
     case atStart => exact ⟨(a1), (([] : List (S43))), (0), rs, rs, H', ⟨Nat.le_refl _⟩, ⟨by first | exact Kd.R_nil _ _ _ _ _ | exact Kd.N_nil _ _ _ _ _ | exact Kd.V_nil _ _ _ _ _ | exact Kd.Q_nil _ _ _ _ _ | exact Kd.S_nil _ _ _ _ _⟩, ⟨be⟩⟩
     case round =>
      clear H'
      (try clear c1); (try clear p2); (try clear c4); (try clear c5); (try clear c5b0); (try clear c5b1); (try clear c7); (try clear c9); (try clear c10); (try clear c10b0); (try clear c11); (try clear p2)
      obtain ⟨x1_2, x9_2, x30_2, rfl, rfl, HA, HK2, HO_9, HB⟩ := hrel
      cases gk with
      | zero => exact absurd HA.out (by simp [forecast_Year.l0])
      | succ k2 =>
       have H := HA.out
       clear HA
       simp only [forecast_Year.l0] at H
       by_cases c12 : x30_2 < (l0.length : Int)
       ·rw [if_pos c12] at H
        have c12b0 : decide (x30_2 < (l0.length : Int)) = true := decide_eq_true c12
        clear c12
        by_cases c13 : 0 ≤ x30_2
        ·rw [if_pos c13] at H
         have c13b0 : decide (0 ≤ x30_2) = true := decide_eq_true c13
         clear c13
         by_cases c14 : x30_2 < (l0.length : Int)
         ·rw [if_pos c14] at H
          have c14b0 : decide (x30_2 < (l0.length : Int)) = true := decide_eq_true c14
          clear c14
          replace H := Option.bind_eq_some_iff.mp H
          obtain ⟨t193, A150, H⟩ := H
          replace H : (if x9_2.length < 4398046511104 then (forecast_Year.l0 k2 ((rd_T92 l0 x30_2).f4) a2 (x9_2 ++ [(⟨wrap64 ((wrap64 ((wrap64 (t193 * 86400000)) + ((rd_T92 l0 x30_2).f3))) - x1_2), (rd_T92 l0 x30_2).f4, (rd_T92 l0 x30_2).f5⟩ : S43)]) l0 (l0.length : Int) (wrap64 (x30_2 + 1))) else (none)) = some (r1, r2) := H
          have A15 := Aside0.mk A150
          clear A150
          by_cases c16 : x9_2.length < 4398046511104
          ·rw [if_pos c16] at H
           have LMc16 := Aside0.mk c16
           clear c16
           obtain ⟨y194, hy194⟩ : ∃ y_ : List (S43), y_ = (x9_2 ++ [(⟨wrap64 ((wrap64 ((wrap64 (t193 * 86400000)) + ((rd_T92 l0 x30_2).f3))) - x1_2), (rd_T92 l0 x30_2).f4, (rd_T92 l0 x30_2).f5⟩ : S43)]) := ⟨_, rfl⟩
           replace H : (forecast_Year.l0 k2 ((rd_T92 l0 x30_2).f4) a2 y194 l0 (l0.length : Int) (wrap64 (x30_2 + 1))) = some (r1, r2) := rp hy194 H
           have Ny194 := Aside0.mk hy194
           clear hy194
           have H' := Aside0.mk H
           clear H
           have p191 : 0 ≤ (x30_2 : Int) := of_decide_eq_true ka
           have q191 : x30_2 < (l0.length : Int) := of_decide_eq_true ka
           obtain ⟨ad191, e191, hx191_0, hx191_1, hx191_2, hx191_3, hx191_4, hx191_5⟩ := at_T92 HR0.out x30_2 p191 q191
           cases e191
           replace hx191_0 := (HB.out.cell (World.block_lt_of_cell? w _ hx191_0)).trans hx191_0
           replace hx191_1 := (HB.out.cell (World.block_lt_of_cell? w _ hx191_1)).trans hx191_1
           replace hx191_2 := (HB.out.cell (World.block_lt_of_cell? w _ hx191_2)).trans hx191_2
           replace hx191_3 := (HB.out.cell (World.block_lt_of_cell? w _ hx191_3)).trans hx191_3
           replace hx191_4 := (HB.out.cell (World.block_lt_of_cell? w _ hx191_4)).trans hx191_4
           replace hx191_5 := (HB.out.cell (World.block_lt_of_cell? w _ hx191_5)).trans hx191_5
           replace p191 := eq_true p191
           replace q191 := eq_true q191
           try go_wp2_with (first | ((with_reducible refine gate_dst (N := 11) rfl ?_); refine box_event ?hg (N := 11) ?hd (cs := #[.int .i64 0, .int .i64 0, .int .i64 0, .int .i64 0, .int .i64 0, .string (⟨#[]⟩ : ByteArray)]) (t := 92) ?hr ?_; (case hd => rfl); (case hg => rfl); (case hr => first | (go_simp; done) | (go_simp; rfl)); intro gb192 hg w17 hbox hb; have n0_ := Aside0.mk (Kd.R_below (by (with_reducible repeat (first | apply Kd.R_alloc | apply Kd.R_drewN | apply Kd.R_drew)); exact HO_9.out) hb); have n1_ := Aside0.mk (below_step be hb); have n2_ := Aside0.mk (hbox); have n3_ := gs hg HB; have n4_ := n3_; clear HO_9; clear HB; have HO_9 := n0_; have HB := n1_; have BK192 := n2_; have GW192 := n3_; have GE192 := n4_; clear n0_ n1_ n2_ n3_ n4_; clear hb hbox hg; obtain ⟨hcz18_0, hcz18_1, hcz18_2, hcz18_3, hcz18_4, hcz18_5, hfz18_0, hfz18_1, hfz18_2, hfz18_3, hfz18_4, hfz18_5⟩ := bc6 BK192))
           have n0_ : Aside0 (Kd.R k43 43 ((((((w17.setCell ⟨gb192, 0, none⟩ (.int .i64 ((rd_T92 l0 x30_2).f0))).setCell ⟨gb192, 1, none⟩ (.int .i64 ((rd_T92 l0 x30_2).f1))).setCell ⟨gb192, 2, none⟩ (.int .i64 ((rd_T92 l0 x30_2).f2))).setCell ⟨gb192, 3, none⟩ (.int .i64 ((rd_T92 l0 x30_2).f3))).setCell ⟨gb192, 4, none⟩ (.int .i64 ((rd_T92 l0 x30_2).f4))).setCell ⟨gb192, 5, none⟩ (.string ((rd_T92 l0 x30_2).f5))) w.heap.size (fun _ => True) u9 x9_2) := ⟨by (with_reducible repeat (first | apply Kd.R_alloc | apply Kd.R_drewN | apply Kd.R_drew)); exact Kd.R_mono (Kd.R_far (p := ⟨gb192, 5, none⟩) (Kd.R_far (p := ⟨gb192, 4, none⟩) (Kd.R_far (p := ⟨gb192, 3, none⟩) (Kd.R_far (p := ⟨gb192, 2, none⟩) (Kd.R_far (p := ⟨gb192, 1, none⟩) (Kd.R_far (p := ⟨gb192, 0, none⟩) (Kd.R_types HO_9.out BK192.out (by decide)) (fun _ hk => hk.2) (.int .i64 ((rd_T92 l0 x30_2).f0))) (fun _ hk => hk.2) (.int .i64 ((rd_T92 l0 x30_2).f1))) (fun _ hk => hk.2) (.int .i64 ((rd_T92 l0 x30_2).f2))) (fun _ hk => hk.2) (.int .i64 ((rd_T92 l0 x30_2).f3))) (fun _ hk => hk.2) (.int .i64 ((rd_T92 l0 x30_2).f4))) (fun _ hk => hk.2) (.string ((rd_T92 l0 x30_2).f5))) (fun _ hk => trivial)⟩
           have n1_ : Aside0 (((((((w17.setCell ⟨gb192, 0, none⟩ (.int .i64 ((rd_T92 l0 x30_2).f0))).setCell ⟨gb192, 1, none⟩ (.int .i64 ((rd_T92 l0 x30_2).f1))).setCell ⟨gb192, 2, none⟩ (.int .i64 ((rd_T92 l0 x30_2).f2))).setCell ⟨gb192, 3, none⟩ (.int .i64 ((rd_T92 l0 x30_2).f3))).setCell ⟨gb192, 4, none⟩ (.int .i64 ((rd_T92 l0 x30_2).f4))).setCell ⟨gb192, 5, none⟩ (.string ((rd_T92 l0 x30_2).f5))).heap[gb192]? = some (.cells #[.int .i64 ((rd_T92 l0 x30_2).f0), .int .i64 ((rd_T92 l0 x30_2).f1), .int .i64 ((rd_T92 l0 x30_2).f2), .int .i64 ((rd_T92 l0 x30_2).f3), .int .i64 ((rd_T92 l0 x30_2).f4), .string ((rd_T92 l0 x30_2).f5)] 92 (0, 0))) := ⟨bk BK192⟩
           have n2_ : Aside0 (Below w.heap.size w ((((((w17.setCell ⟨gb192, 0, none⟩ (.int .i64 ((rd_T92 l0 x30_2).f0))).setCell ⟨gb192, 1, none⟩ (.int .i64 ((rd_T92 l0 x30_2).f1))).setCell ⟨gb192, 2, none⟩ (.int .i64 ((rd_T92 l0 x30_2).f2))).setCell ⟨gb192, 3, none⟩ (.int .i64 ((rd_T92 l0 x30_2).f3))).setCell ⟨gb192, 4, none⟩ (.int .i64 ((rd_T92 l0 x30_2).f4))).setCell ⟨gb192, 5, none⟩ (.string ((rd_T92 l0 x30_2).f5)))) := ⟨be⟩
           (try clear HO_9)
           (try clear BK192)
           (try clear HB)
           generalize ((((((w17.setCell ⟨gb192, 0, none⟩ (.int .i64 ((rd_T92 l0 x30_2).f0))).setCell ⟨gb192, 1, none⟩ (.int .i64 ((rd_T92 l0 x30_2).f1))).setCell ⟨gb192, 2, none⟩ (.int .i64 ((rd_T92 l0 x30_2).f2))).setCell ⟨gb192, 3, none⟩ (.int .i64 ((rd_T92 l0 x30_2).f3))).setCell ⟨gb192, 4, none⟩ (.int .i64 ((rd_T92 l0 x30_2).f4))).setCell ⟨gb192, 5, none⟩ (.string ((rd_T92 l0 x30_2).f5))) = w19 at n0_ n1_ n2_ ⊢
           have HO_9 := n0_
           have BK192 := n1_
           have HB := n2_
           clear n0_ n1_ n2_
           have n0_ := Aside0.mk (Kd.R_drew HO_9.out)
           have n1_ := Aside0.mk (blk_drew BK192.out)
           have n2_ := Aside0.mk (below_drew1 HB.out)
           clear HO_9
           clear BK192
           clear HB
           have HO_9 := n0_
           have BK192 := n1_
           have HB := n2_
           clear n0_ n1_ n2_
           refine start_ (n := 18) (S := fun w' => w'.cell? ⟨gb192, 0, none⟩ = some (.int .i64 ((rd_T92 l0 x30_2).f0)) ∧ w'.cell? ⟨gb192, 1, none⟩ = some (.int .i64 ((rd_T92 l0 x30_2).f1)) ∧ w'.cell? ⟨gb192, 2, none⟩ = some (.int .i64 ((rd_T92 l0 x30_2).f2)) ∧ w'.cell? ⟨gb192, 3, none⟩ = some (.int .i64 ((rd_T92 l0 x30_2).f3)) ∧ w'.cell? ⟨gb192, 4, none⟩ = some (.int .i64 ((rd_T92 l0 x30_2).f4)) ∧ w'.cell? ⟨gb192, 5, none⟩ = some (.string ((rd_T92 l0 x30_2).f5))) (ds := []) #[false, false, false, false, false, false, false, false, false, false, false, false, false, false, false, false, false, false] kx rfl rfl ⟨(blk_cell BK192.out 0).trans rfl, (blk_cell BK192.out 1).trans rfl, (blk_cell BK192.out 2).trans rfl, (blk_cell BK192.out 3).trans rfl, (blk_cell BK192.out 4).trans rfl, (blk_cell BK192.out 5).trans rfl⟩ (fun hHeld => ?_); refine with_tabW forecast_Year.tab10 forecast_Year.bits10 (fun HT_ HW_ => ?_)
           generalize w19.drew = w20 at HO_9 BK192 HB hHeld ⊢
           refine pure_ (i := 0) (N := some 34) (v := ?_) (a' := ?_) #[true, false, false, false, false, false, false, false, false, false, false, false, false, false, false, false, false, false] rfl rfl (any_of HT_.out kx) (fun _ _ _ h => h) (Or.inl ⟨by rfl, ?_⟩) ?_ ?_
           rotate_left
           ·intro w'
            go_simp
            with_reducible rfl
           rotate_left
           ·simp only [Act.put, List.setIfInBounds_toArray, List.set_cons_zero, List.set_cons_succ, i64_w, i32_w]
            rfl
           refine pure_ (i := 2) (N := some 36) (v := ?_) (a' := ?_) #[true, false, true, false, false, false, false, false, false, false, false, false, false, false, false, false, false, false] rfl rfl (any_of HT_.out kx) (fun _ _ _ h => h) (Or.inl ⟨by rfl, ?_⟩) ?_ ?_
           rotate_left
           ·intro w'
            go_simp
            with_reducible rfl
           rotate_left
           ·simp only [Act.put, List.setIfInBounds_toArray, List.set_cons_zero, List.set_cons_succ, i64_w, i32_w]
            rfl
           refine pure_ (i := 5) (N := some 39) (v := ?_) (a' := ?_) #[true, false, true, false, false, true, false, false, false, false, false, false, false, false, false, false, false, false] rfl rfl (any_of HT_.out kx) (fun _ _ _ h => h) (Or.inl ⟨by rfl, ?_⟩) ?_ ?_
           rotate_left
           ·intro w'
            go_simp
            with_reducible rfl
           rotate_left
           ·simp only [Act.put, List.setIfInBounds_toArray, List.set_cons_zero, List.set_cons_succ, i64_w, i32_w]
            rfl
           refine pure_ (i := 8) (N := some 42) (v := ?_) (a' := ?_) #[true, false, true, false, false, true, false, false, true, false, false, false, false, false, false, false, false, false] rfl rfl (any_of HT_.out kx) (fun _ _ _ h => h) (Or.inl ⟨by rfl, ?_⟩) ?_ ?_
           rotate_left
           ·intro w'
            go_simp
            with_reducible rfl
           rotate_left
           ·simp only [Act.put, List.setIfInBounds_toArray, List.set_cons_zero, List.set_cons_succ, i64_w, i32_w]
            rfl
           refine pure_ (i := 10) (N := some 44) (v := ?_) (a' := ?_) #[true, false, true, false, false, true, false, false, true, false, true, false, false, false, false, false, false, false] rfl rfl (any_of HT_.out kx) (fun _ _ _ h => h) (Or.inl ⟨by rfl, ?_⟩) ?_ ?_
           rotate_left
           ·intro w'
            go_simp
            with_reducible rfl
           rotate_left
           ·simp only [Act.put, List.setIfInBounds_toArray, List.set_cons_zero, List.set_cons_succ, i64_w, i32_w]
            rfl
           refine pure_ (i := 12) (N := some 46) (v := ?_) (a' := ?_) #[true, false, true, false, false, true, false, false, true, false, true, false, true, false, false, false, false, false] rfl rfl (any_of HT_.out kx) (fun _ _ _ h => h) (Or.inl ⟨by rfl, ?_⟩) ?_ ?_
           rotate_left
           ·intro w'
            go_simp
            with_reducible rfl
           rotate_left
           ·simp only [Act.put, List.setIfInBounds_toArray, List.set_cons_zero, List.set_cons_succ, i64_w, i32_w]
            rfl
           refine take_ (i := 1) (N := some 35) (v := ?_) (a' := ?_) #[true, true, true, false, false, true, false, false, true, false, true, false, true, false, false, false, false, false] rfl rfl (take_ofW HT_.out HW_.out kx) (fun _ _ _ h => h) (Or.inl ⟨by rfl, ?_⟩) hHeld ?_ ?_
           rotate_left
           ·rintro w' ⟨s0, s1, s2, s3, s4, s5⟩
            go_simp
            with_reducible rfl
           rotate_left
           ·simp only [Act.put, List.setIfInBounds_toArray, List.set_cons_zero, List.set_cons_succ, i64_w, i32_w]
            rfl
           refine take_ (i := 6) (N := some 40) (v := ?_) (a' := ?_) #[true, true, true, false, false, true, true, false, true, false, true, false, true, false, false, false, false, false] rfl rfl (take_ofW HT_.out HW_.out kx) (fun _ _ _ h => h) (Or.inl ⟨by rfl, ?_⟩) hHeld ?_ ?_
           rotate_left
           ·rintro w' ⟨s0, s1, s2, s3, s4, s5⟩
            go_simp
            with_reducible rfl
           rotate_left
           ·simp only [Act.put, List.setIfInBounds_toArray, List.set_cons_zero, List.set_cons_succ, i64_w, i32_w]
            rfl
           refine take_ (i := 11) (N := some 45) (v := ?_) (a' := ?_) #[true, true, true, false, false, true, true, false, true, false, true, true, true, false, false, false, false, false] rfl rfl (take_ofW HT_.out HW_.out kx) (fun _ _ _ h => h) (Or.inl ⟨by rfl, ?_⟩) hHeld ?_ ?_
           rotate_left
           ·rintro w' ⟨s0, s1, s2, s3, s4, s5⟩
            go_simp
            with_reducible rfl
           rotate_left
           ·simp only [Act.put, List.setIfInBounds_toArray, List.set_cons_zero, List.set_cons_succ, i64_w, i32_w]
            rfl
           refine take_ (i := 13) (N := some 47) (v := ?_) (a' := ?_) #[true, true, true, false, false, true, true, false, true, false, true, true, true, true, false, false, false, false] rfl rfl (take_ofW HT_.out HW_.out kx) (fun _ _ _ h => h) (Or.inl ⟨by rfl, ?_⟩) hHeld ?_ ?_
           rotate_left
           ·rintro w' ⟨s0, s1, s2, s3, s4, s5⟩
            go_simp
            with_reducible rfl
           rotate_left
           ·simp only [Act.put, List.setIfInBounds_toArray, List.set_cons_zero, List.set_cons_succ, i64_w, i32_w]
            rfl
           refine one_ (i := 3) (N := some 37) #[true, true, true, true, false, true, true, false, true, false, true, true, true, true, false, false, false, false] rfl rfl (one_of HT_.out kx) (by decide) (fun K hK => ?_)
           refine goes_ Tryd.func77 kx rfl #[.agg #[.int .i64 ((rd_T92 l0 x30_2).f0), .int .i64 ((rd_T92 l0 x30_2).f1), .int .i64 ((rd_T92 l0 x30_2).f2), .int .i64 ((rd_T92 l0 x30_2).f3), .int .i64 ((rd_T92 l0 x30_2).f4), .string ((rd_T92 l0 x30_2).f5)], .int .i64 a2] (by rfl) rfl rfl aa ?_
           with_reducible refine (forecast_day.calls k2 ((rd_T92 l0 x30_2).f0) ((rd_T92 l0 x30_2).f1) ((rd_T92 l0 x30_2).f2) ((rd_T92 l0 x30_2).f3) ((rd_T92 l0 x30_2).f4) ((rd_T92 l0 x30_2).f5) a2 t193 _ A15.out).mono ?_
           rintro e w21 ⟨rfl, hb⟩
           refine ⟨_, rfl, ?_⟩
           have n0_ := Aside0.mk (Kd.R_below (by (with_reducible repeat (first | apply Kd.R_alloc | apply Kd.R_drewN | apply Kd.R_drew)); exact HO_9.out) hb)
           have n1_ := bb BK192 hb
           have n2_ := Aside0.mk (below_step be hb)
           clear HO_9
           clear BK192
           clear HB
           have HO_9 := n0_
           have BK192 := n1_
           have HB := n2_
           clear n0_ n1_ n2_
           (try clear hb)
           (try clear hb2)
           (try clear hk)
           (try clear hi)
           refine hK.out _ _ ⟨(blk_cell BK192.out 0).trans rfl, (blk_cell BK192.out 1).trans rfl, (blk_cell BK192.out 2).trans rfl, (blk_cell BK192.out 3).trans rfl, (blk_cell BK192.out 4).trans rfl, (blk_cell BK192.out 5).trans rfl⟩ (fun hHeld => ?_)
           clear hK K
           refine norm_ (a' := ?_) ?_ ?_
           rotate_left
           ·show Act.put _ (some 37) _ = _
            simp only [Act.put, List.setIfInBounds_toArray, List.set_cons_zero, List.set_cons_succ, i64_w, i32_w]
            rfl
           refine pure_ (i := 4) (N := some 38) (v := ?_) (a' := ?_) #[true, true, true, true, true, true, true, false, true, false, true, true, true, true, false, false, false, false] rfl rfl (any_of HT_.out kx) (fun _ _ _ h => h) (Or.inl ⟨by rfl, ?_⟩) ?_ ?_
           rotate_left
           ·intro w'
            go_simp
            with_reducible rfl
           rotate_left
           ·simp only [Act.put, List.setIfInBounds_toArray, List.set_cons_zero, List.set_cons_succ, i64_w, i32_w]
            rfl
           refine pure_ (i := 7) (N := some 41) (v := ?_) (a' := ?_) #[true, true, true, true, true, true, true, true, true, false, true, true, true, true, false, false, false, false] rfl rfl (any_of HT_.out kx) (fun _ _ _ h => h) (Or.inl ⟨by rfl, ?_⟩) ?_ ?_
           rotate_left
           ·intro w'
            go_simp
            with_reducible rfl
           rotate_left
           ·simp only [Act.put, List.setIfInBounds_toArray, List.set_cons_zero, List.set_cons_succ, i64_w, i32_w]
            rfl
           refine pure_ (i := 9) (N := some 43) (v := ?_) (a' := ?_) #[true, true, true, true, true, true, true, true, true, true, true, true, true, true, false, false, false, false] rfl rfl (any_of HT_.out kx) (fun _ _ _ h => h) (Or.inl ⟨by rfl, ?_⟩) ?_ ?_
           rotate_left
           ·intro w'
            go_simp
            with_reducible rfl
           rotate_left
           ·simp only [Act.put, List.setIfInBounds_toArray, List.set_cons_zero, List.set_cons_succ, i64_w, i32_w]
            rfl
           refine pure_ (i := 14) (N := some 48) (v := ?_) (a' := ?_) #[true, true, true, true, true, true, true, true, true, true, true, true, true, true, true, false, false, false] rfl rfl (any_of HT_.out kx) (fun _ _ _ h => h) (Or.inl ⟨by rfl, ?_⟩) ?_ ?_
           rotate_left
           ·intro w'
            go_simp
            with_reducible rfl
           rotate_left
           ·simp only [Act.put, List.setIfInBounds_toArray, List.set_cons_zero, List.set_cons_succ, i64_w, i32_w]
            rfl
           refine one_ (i := 15) (N := some 49) #[true, true, true, true, true, true, true, true, true, true, true, true, true, true, true, true, false, false] rfl rfl (one_of HT_.out kx) (by decide) (fun K hK => ?_)
           refine value_ (w1 := ?_) (v := ?_) (by rfl) rfl ?_ ?_
           rotate_left 2
           ·go_simp
            constructor
            ·rfl
            ·rfl
           refine hK.out _ _ ⟨(blk_cell (blk_alloc BK192.out _) 0).trans rfl, (blk_cell (blk_alloc BK192.out _) 1).trans rfl, (blk_cell (blk_alloc BK192.out _) 2).trans rfl, (blk_cell (blk_alloc BK192.out _) 3).trans rfl, (blk_cell (blk_alloc BK192.out _) 4).trans rfl, (blk_cell (blk_alloc BK192.out _) 5).trans rfl⟩ (fun hHeld => ?_)
           clear hK K
           refine norm_ (a' := ?_) ?_ ?_
           rotate_left
           ·show Act.put _ (some 49) _ = _
            simp only [Act.put, List.setIfInBounds_toArray, List.set_cons_zero, List.set_cons_succ, i64_w, i32_w]
            rfl
           refine one_ (i := 16) (N := some 50) #[true, true, true, true, true, true, true, true, true, true, true, true, true, true, true, true, true, false] rfl rfl (one_of HT_.out kx) (by decide) (fun K hK => ?_)
           refine Kd.R_append_step k43 (w0 := w) w.heap.size (by rfl) (.tmp 34) (.tmp 49) 22 43 (.agg #[(.int .i64 0), (.int .i64 0), (.string ⟨#[]⟩)]) 32 rfl Tryd.underlying22 info43 rfl (by decide) (by omega) u9 x9_2 (⟨wrap64 ((wrap64 ((wrap64 (t193 * 86400000)) + ((rd_T92 l0 x30_2).f3))) - x1_2), (rd_T92 l0 x30_2).f4, (rd_T92 l0 x30_2).f5⟩ : S43) [.int .i64 (wrap64 ((wrap64 ((wrap64 (t193 * 86400000)) + ((rd_T92 l0 x30_2).f3))) - x1_2)), .int .i64 ((rd_T92 l0 x30_2).f4), .string ((rd_T92 l0 x30_2).f5)] (fun _ => True) (fun _ => False) rfl rfl ?aP (fun _ hk => hk.elim) ?aF ?aO ?aB ?aS ?aL ?_
           (case aP => exact k43_mkM _ _ _ (⟨wrap64 ((wrap64 ((wrap64 (t193 * 86400000)) + ((rd_T92 l0 x30_2).f3))) - x1_2), (rd_T92 l0 x30_2).f4, (rd_T92 l0 x30_2).f5⟩ : S43))
           (case aB => exact be)
           (case aF => exact (fun _ _ => trivial))
           (case aO => exact (by (with_reducible repeat (first | apply Kd.R_alloc | apply Kd.R_drewN | apply Kd.R_drew)); exact HO_9.out))
           (case aS => exact (below_size be))
           (case aL => have := LMc16.out; omega)
           intro v195 w22 ho hb hg hat
           rw [← Ny194.out] at ho
           have n0_ := Aside0.mk (blk_grown (g := gb192) (o := .cells #[.int .i64 ((rd_T92 l0 x30_2).f0), .int .i64 ((rd_T92 l0 x30_2).f1), .int .i64 ((rd_T92 l0 x30_2).f2), .int .i64 ((rd_T92 l0 x30_2).f3), .int .i64 ((rd_T92 l0 x30_2).f4), .string ((rd_T92 l0 x30_2).f5)] 92 (0, 0)) (bk BK192) hg (Kd.R_ne HO_9.out BK192.out (by decide)))
           have n1_ := Aside0.mk (hb)
           have n2_ := Aside0.mk (ho)
           clear BK192
           clear HB
           clear HO_9
           have BK192 := n0_
           have HB := n1_
           have HO196 := n2_
           clear n0_ n1_ n2_
           clear ho hb hg hat
           refine hK.out _ _ ⟨(blk_cell BK192.out 0).trans rfl, (blk_cell BK192.out 1).trans rfl, (blk_cell BK192.out 2).trans rfl, (blk_cell BK192.out 3).trans rfl, (blk_cell BK192.out 4).trans rfl, (blk_cell BK192.out 5).trans rfl⟩ (fun hHeld => ?_)
           clear hK K
           refine norm_ (a' := ?_) ?_ ?_
           rotate_left
           ·show Act.put _ (some 50) _ = _
            simp only [Act.put, List.setIfInBounds_toArray, List.set_cons_zero, List.set_cons_succ, i64_w, i32_w]
            rfl
           refine pure_ (i := 17) (N := some 9) (v := ?_) (a' := ?_) #[true, true, true, true, true, true, true, true, true, true, true, true, true, true, true, true, true, true] rfl rfl (any_of HT_.out kx) (fun _ _ _ h => h) (Or.inl ⟨by rfl, ?_⟩) ?_ ?_
           rotate_left
           ·intro w'
            go_simp
            with_reducible rfl
           rotate_left
           ·simp only [Act.put, List.setIfInBounds_toArray, List.set_cons_zero, List.set_cons_succ, i64_w, i32_w]
            rfl
           refine done_ (done_of HT_.out kx) ?_
           obtain ⟨hcz23_0, hcz23_1, hcz23_2, hcz23_3, hcz23_4, hcz23_5, hfz23_0, hfz23_1, hfz23_2, hfz23_3, hfz23_4, hfz23_5⟩ := bc6 BK192
           try go_wp2
           go_roundg k2
           case measure => have := HJ5.out; have := HK2.out; omega
           case rel => exact ⟨((rd_T92 l0 x30_2).f4), (y194), (wrap64 (x30_2 + 1)), rs, rs, H', ⟨by have := HJ5.out; have := HK2.out; omega⟩, ⟨by (with_reducible repeat (first | apply Kd.R_alloc | apply Kd.R_drewN | apply Kd.R_drew)); exact HO196.out⟩, ⟨be⟩⟩
          ·rw [if_neg c16] at H
           exact absurd H (by simp)
         ·rw [if_neg c14] at H
          exact absurd H (by simp)
        ·rw [if_neg c13] at H
         exact absurd H (by simp)
       ·rw [if_neg c12] at H
        have c12b0 : decide (x30_2 < (l0.length : Int)) = false := decide_eq_false c12
        clear c12
        simp only [Option.some.injEq, Prod.mk.injEq] at H
        obtain ⟨rfl, rfl⟩ := H
        go_wp2
        go_ret2
        exact ⟨_, by first | rfl | (simp [errW_none, errW_some] <;> rfl) | (simp [*, errW_none, errW_some] <;> rfl), by (with_reducible repeat (first | apply Kd.R_alloc | apply Kd.R_drewN | apply Kd.R_drew)); exact HO_9.out, be⟩
 ·rw [if_neg c5] at H
  have c5b0 : (t189 == 0) = false := beq_eq_false_iff_ne.mpr c5
  have c5b1 : (t189 != 0) = true := bne_iff_ne.mpr c5
  simp only [Option.some.injEq, Prod.mk.injEq] at H
  obtain ⟨rfl, rfl⟩ := H
  go_enter Tryd.func49, Tryd.ntmps49
  go_wp2_with (first | ((with_reducible refine gate_callee (f := 47) rfl ?_); refine goesL_ (some 13) rfl rfl Tryd.func47 kx rfl #[.slice A0 l0.length c0] rfl aa ?_; (with_reducible refine (forecast_Check.calls k _ _ l0 t189 _ ?side1 ?side2 A4.out).mono ?_); (case side1 => repeat (first | exact HR0.out | (with_reducible refine Kd.C_alloc ?_ _) | (with_reducible refine Kd.C_drewN ?_ _) | (with_reducible refine Kd.C_drew ?_))); (case side2 => exact HC0.out); rintro e w24 ⟨rfl, hb⟩; refine ⟨_, rfl, ?_⟩; have n0_ := Aside0.mk (below_step be hb); clear HB; have HB := n0_; clear n0_; (try clear hb); (try clear hb2); (try clear hk); (try clear hi)))
  go_ret2
  exact ⟨_, by first | rfl | (simp [errW_none, errW_some] <;> rfl) | (simp [*, errW_none, errW_some] <;> rfl), by first | exact Kd.R_nil _ _ _ _ _ | exact Kd.N_nil _ _ _ _ _ | exact Kd.V_nil _ _ _ _ _ | exact Kd.Q_nil _ _ _ _ _ | exact Kd.S_nil _ _ _ _ _, be⟩

end Go.Proofs.YtolhlaadhfilnaaDoor.PForecastExtends
