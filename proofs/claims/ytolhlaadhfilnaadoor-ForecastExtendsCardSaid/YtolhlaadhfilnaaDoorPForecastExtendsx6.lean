/- The walks of the functions of this part. The proof of api_ZoneChange (in part) is written by hand; the other ones are as the kit's print tells them. -/
-- The walks of the law's functions, told by a program.
import Derived.Lib.SliceRun
import Derived.Test.YtolhlaadhfilnaaDoorY
import Derived.Test.YtolhlaadhfilnaaDoorPForecastExtendsx0
import Derived.Test.YtolhlaadhfilnaaDoorPForecastExtendsx5
namespace Go.Proofs.YtolhlaadhfilnaaDoor.PForecastExtends
open Go.RowKit Go.Proofs.YtolhlaadhfilnaaDoorW.PrintWords Go.Proofs.YtolhlaadhfilnaaDoorW.PrintLast Go.Proofs.YtolhlaadhfilnaaDoorW.PrintMore Go.Proofs.YtolhlaadhfilnaaDoor.Y
attribute [local go_sem] max2_int min2_int max_two min_two max_three min_three max_four min_four   -- for this text's walks alone
set_option linter.unusedVariables false
set_option linter.unusedSimpArgs false

/-! ### forecast_Check: function 47 -/
mutual
def forecast_Check.j0 : Nat → List (S92) → Bool → Option (Int)
 | 0, _, _ => none
 | k + 1, x0, x12 => if x12 = true then (some 2) else (forecast_Check.l0 k x0 x0 (x0.length : Int) 0)
def forecast_Check.l0 : Nat → List (S92) → List (S92) → Int → Int → Option (Int)
 | 0, _, _, _, _ => none
 | k + 1, x0, x13, x14, x15 => if x15 < x14 then (if 0 ≤ x15 then (if x15 < (x13.length : Int) then (if ((rd_T92 x13 x15).f0) < 1 then (forecast_Check.j2 k x0 x15 x13 x14 x15 true ((rd_T92 x13 x15).f0) ((rd_T92 x13 x15).f1) ((rd_T92 x13 x15).f2) ((rd_T92 x13 x15).f3) ((rd_T92 x13 x15).f4) ((rd_T92 x13 x15).f5)) else (if ((rd_T92 x13 x15).f0) > 12 then (forecast_Check.j2 k x0 x15 x13 x14 x15 true ((rd_T92 x13 x15).f0) ((rd_T92 x13 x15).f1) ((rd_T92 x13 x15).f2) ((rd_T92 x13 x15).f3) ((rd_T92 x13 x15).f4) ((rd_T92 x13 x15).f5)) else (if ((rd_T92 x13 x15).f1) < 1 then (forecast_Check.j2 k x0 x15 x13 x14 x15 true ((rd_T92 x13 x15).f0) ((rd_T92 x13 x15).f1) ((rd_T92 x13 x15).f2) ((rd_T92 x13 x15).f3) ((rd_T92 x13 x15).f4) ((rd_T92 x13 x15).f5)) else (if ((rd_T92 x13 x15).f1) > 5 then (forecast_Check.j2 k x0 x15 x13 x14 x15 true ((rd_T92 x13 x15).f0) ((rd_T92 x13 x15).f1) ((rd_T92 x13 x15).f2) ((rd_T92 x13 x15).f3) ((rd_T92 x13 x15).f4) ((rd_T92 x13 x15).f5)) else (if ((rd_T92 x13 x15).f2) < 0 then (forecast_Check.j2 k x0 x15 x13 x14 x15 true ((rd_T92 x13 x15).f0) ((rd_T92 x13 x15).f1) ((rd_T92 x13 x15).f2) ((rd_T92 x13 x15).f3) ((rd_T92 x13 x15).f4) ((rd_T92 x13 x15).f5)) else (if ((rd_T92 x13 x15).f2) > 6 then (forecast_Check.j2 k x0 x15 x13 x14 x15 true ((rd_T92 x13 x15).f0) ((rd_T92 x13 x15).f1) ((rd_T92 x13 x15).f2) ((rd_T92 x13 x15).f3) ((rd_T92 x13 x15).f4) ((rd_T92 x13 x15).f5)) else (if ((rd_T92 x13 x15).f3) < 0 then (forecast_Check.j2 k x0 x15 x13 x14 x15 true ((rd_T92 x13 x15).f0) ((rd_T92 x13 x15).f1) ((rd_T92 x13 x15).f2) ((rd_T92 x13 x15).f3) ((rd_T92 x13 x15).f4) ((rd_T92 x13 x15).f5)) else (if ((rd_T92 x13 x15).f3) ≥ 86400000 then (forecast_Check.j2 k x0 x15 x13 x14 x15 true ((rd_T92 x13 x15).f0) ((rd_T92 x13 x15).f1) ((rd_T92 x13 x15).f2) ((rd_T92 x13 x15).f3) ((rd_T92 x13 x15).f4) ((rd_T92 x13 x15).f5)) else ((zone_IsOffset.f ((rd_T92 x13 x15).f4)).bind fun t151 => (forecast_Check.j2 k x0 x15 x13 x14 x15 (!t151) ((rd_T92 x13 x15).f0) ((rd_T92 x13 x15).f1) ((rd_T92 x13 x15).f2) ((rd_T92 x13 x15).f3) ((rd_T92 x13 x15).f4) ((rd_T92 x13 x15).f5))))))))))) else (none)) else (none)) else (some 0)
def forecast_Check.j2 : Nat → List (S92) → Int → List (S92) → Int → Int → Bool → Int → Int → Int → Int → Int → ByteArray → Option (Int)
 | 0, _, _, _, _, _, _, _, _, _, _, _, _ => none
 | k + 1, x0, x3, x13, x14, x15, x63, x151000, x151001, x151002, x151003, x151004, x151005 => if x63 = true then (some 3) else ((zone_IsLabel.f x151005).bind fun t152 => (if t152 = true then (if x3 > 0 then (if 0 ≤ (wrap64 (x3 - 1)) then (if (wrap64 (x3 - 1)) < (x0.length : Int) then (if x151000 ≤ ((rd_T92 x0 (wrap64 (x3 - 1))).f0) then (some 9) else (forecast_Check.l0 k x0 x13 x14 (wrap64 (x15 + 1)))) else (none)) else (none)) else (forecast_Check.l0 k x0 x13 x14 (wrap64 (x15 + 1)))) else (some 8)))
end
def forecast_Check.f (k : Nat) (l0 : List (S92)) : Option (Int) := if (l0.length : Int) < 1 then (forecast_Check.j0 k l0 true) else (forecast_Check.j0 k l0 (decide ((l0.length : Int) > 4)))
theorem forecast_Check.mono_l : ∀ k, (∀ y0 y1, LeO (forecast_Check.j0 k y0 y1) (forecast_Check.j0 (k + 1) y0 y1)) ∧ (∀ y0 y1 y2 y3, LeO (forecast_Check.l0 k y0 y1 y2 y3) (forecast_Check.l0 (k + 1) y0 y1 y2 y3)) ∧ (∀ y0 y1 y2 y3 y4 y5 y6 y7 y8 y9 y10 y11, LeO (forecast_Check.j2 k y0 y1 y2 y3 y4 y5 y6 y7 y8 y9 y10 y11) (forecast_Check.j2 (k + 1) y0 y1 y2 y3 y4 y5 y6 y7 y8 y9 y10 y11))
 | 0 => ⟨fun _ _ r h => by simp [forecast_Check.j0] at h, fun _ _ _ _ r h => by simp [forecast_Check.l0] at h, fun _ _ _ _ _ _ _ _ _ _ _ _ r h => by simp [forecast_Check.j2] at h⟩
 | k + 1 => by
  obtain ⟨ih0, ih1, ih2⟩ := forecast_Check.mono_l k
  refine ⟨?_, ?_, ?_⟩
  ·intro y0 y1
   unfold forecast_Check.j0
   repeat' first
   | (with_reducible exact ih0 _ _)
   | (with_reducible exact ih1 _ _ _ _)
   | (with_reducible exact ih2 _ _ _ _ _ _ _ _ _ _ _ _)
   | (with_reducible exact LeO.refl _)
   | (with_reducible exact LeO.none _)
   | (with_reducible refine LeO.ite ?_ ?_)
   | (with_reducible refine LeO.bind ?_ (fun _ => ?_))
   | exact ih0 _ _
   | exact ih1 _ _ _ _
   | exact ih2 _ _ _ _ _ _ _ _ _ _ _ _
   | exact LeO.none _
   | refine LeO.ite ?_ ?_
   | refine LeO.bind ?_ (fun _ => ?_)
  ·intro y0 y1 y2 y3
   unfold forecast_Check.l0
   repeat' first
   | (with_reducible exact ih0 _ _)
   | (with_reducible exact ih1 _ _ _ _)
   | (with_reducible exact ih2 _ _ _ _ _ _ _ _ _ _ _ _)
   | (with_reducible exact LeO.refl _)
   | (with_reducible exact LeO.none _)
   | (with_reducible refine LeO.ite ?_ ?_)
   | (with_reducible refine LeO.bind ?_ (fun _ => ?_))
   | exact ih0 _ _
   | exact ih1 _ _ _ _
   | exact ih2 _ _ _ _ _ _ _ _ _ _ _ _
   | exact LeO.none _
   | refine LeO.ite ?_ ?_
   | refine LeO.bind ?_ (fun _ => ?_)
  ·intro y0 y1 y2 y3 y4 y5 y6 y7 y8 y9 y10 y11
   unfold forecast_Check.j2
   repeat' first
   | (with_reducible exact ih0 _ _)
   | (with_reducible exact ih1 _ _ _ _)
   | (with_reducible exact ih2 _ _ _ _ _ _ _ _ _ _ _ _)
   | (with_reducible exact LeO.refl _)
   | (with_reducible exact LeO.none _)
   | (with_reducible refine LeO.ite ?_ ?_)
   | (with_reducible refine LeO.bind ?_ (fun _ => ?_))
   | exact ih0 _ _
   | exact ih1 _ _ _ _
   | exact ih2 _ _ _ _ _ _ _ _ _ _ _ _
   | exact LeO.none _
   | refine LeO.ite ?_ ?_
   | refine LeO.bind ?_ (fun _ => ?_)
theorem forecast_Check.mono : ∀ a0 k, LeO (forecast_Check.f k a0) (forecast_Check.f (k + 1) a0) := by
 intro a0 k
 obtain ⟨ih0, ih1, ih2⟩ := forecast_Check.mono_l k
 unfold forecast_Check.f
 repeat' first
   | (with_reducible exact ih0 _ _)
   | (with_reducible exact ih1 _ _ _ _)
   | (with_reducible exact ih2 _ _ _ _ _ _ _ _ _ _ _ _)
   | (with_reducible exact LeO.refl _)
   | (with_reducible exact LeO.none _)
   | (with_reducible refine LeO.ite ?_ ?_)
   | (with_reducible refine LeO.bind ?_ (fun _ => ?_))
   | exact ih0 _ _
   | exact ih1 _ _ _ _
   | exact ih2 _ _ _ _ _ _ _ _ _ _ _ _
   | exact LeO.none _
   | refine LeO.ite ?_ ?_
   | refine LeO.bind ?_ (fun _ => ?_)
set_option maxHeartbeats 8000000 in
set_option maxRecDepth 100000 in
theorem forecast_Check.calls (k : Nat) (A0 : Option Addr) (c0 : Nat) (l0 : List (S92)) (r : Int) (w : World) (hr0 : Kd.C k92 w A0 l0.length l0) (hc0 : l0.length ≤ c0) (h : forecast_Check.f k l0 = some r) :
  Calls Tryd.prog 47 #[.slice A0 l0.length c0] w fun e w' => e = .returned (.int .i64 r) ∧ Below w.heap.size w w' := by
 have hu92 := Tryd.underlying92
 have HR0 := Aside0.mk hr0
 have HC0 := Aside0.mk hc0
 clear hr0 hc0
 have HB := Aside0.mk (Below.refl w.heap.size w)
 have H : (if (l0.length : Int) < 1 then (forecast_Check.j0 k l0 true) else (forecast_Check.j0 k l0 (decide ((l0.length : Int) > 4)))) = some r := h
 clear h
 have HC2 := Aside0.mk H
 clear H
 go_enter Tryd.func47, Tryd.ntmps47
 go_upto_region 1 with (fail)
 repeat (go_quiet (fail); go_upto_region 1 with (fail))
 go_cut [12] (fun v12 wc => ∃ (kq : Nat) (x12_1 : Bool), v12 = .bool x12_1 ∧ Aside0 (forecast_Check.j0 kq l0 x12_1 = some r) ∧ Aside0 (kq ≤ k) ∧ Aside0 (Below w.heap.size w wc))
 case first =>
  have H := HC2.out
  clear HC2
  by_cases c3 : (l0.length : Int) < 1
  ·rw [if_pos c3] at H
   have c3b0 : decide ((l0.length : Int) < 1) = true := decide_eq_true c3
   have c3b1 : decide (l0.length < 1) = true := decide_eq_true (by omega)
   clear c3
   (first | rw [c3b0] | (simp only [i64_w, i32_w]; rw [c3b0]) | skip)
   have H' := Aside0.mk H
   clear H
   go_wp2
   repeat (go_quiet (fail); try go_wp2)
   go_meet
   case rel => exact ⟨_, (true), rs, H', ⟨by first | omega | exact Nat.le_refl _⟩, ⟨be⟩⟩
  ·rw [if_neg c3] at H
   have c3b0 : decide ((l0.length : Int) < 1) = false := decide_eq_false c3
   have c3b1 : decide (l0.length < 1) = false := decide_eq_false (by omega)
   clear c3
   (first | rw [c3b0] | (simp only [i64_w, i32_w]; rw [c3b0]) | skip)
   have H' := Aside0.mk H
   clear H
   go_wp2
   repeat (go_quiet (fail); try go_wp2)
   go_meet
   case rel => exact ⟨_, (decide ((l0.length : Int) > 4)), rs, H', ⟨by first | omega | exact Nat.le_refl _⟩, ⟨be⟩⟩
 case rest =>
  clear HC2
  (try clear p2); (try clear c3); (try clear c3b0); (try clear c3b1)
  obtain ⟨kq, x12_1, rfl, HA, HJ1, HB⟩ := hcut
  cases kq with
  | zero => exact absurd HA.out (by simp [forecast_Check.j0])
  | succ kj1 =>
   have H := HA.out
   clear HA
   simp only [forecast_Check.j0] at H
   by_cases c4 : x12_1 = true
   ·subst c4
    have H1 : (some 2) = some r := by rw [if_pos rfl] at H; exact H
    clear H
    have H := H1
    clear H1
    obtain rfl := Option.some.inj H
    go_wp2
    repeat (go_quiet (fail); try go_wp2)
    go_ret
    exact ⟨by first | rfl | (simp [errW_none, errW_some] <;> rfl) | (simp [*, errW_none, errW_some] <;> rfl), be⟩
   ·replace c4 := Bool.eq_false_iff.mpr c4
    subst c4
    have H1 : (forecast_Check.l0 kj1 l0 l0 (l0.length : Int) 0) = some r := by rw [if_neg (show ¬ (false = true) by decide)] at H; exact H
    clear H
    have H := H1
    clear H1
    have H' := Aside0.mk H
    clear H
    go_wp2
    repeat (go_quiet (fail); try go_wp2)
    go_loopg [15] kj1 (fun kq v15 w' => ∃ (x15_2 : Int), v15 = .int .i64 x15_2 ∧ Aside0 (forecast_Check.l0 kq l0 l0 (l0.length : Int) x15_2 = some r) ∧ Aside0 (kq ≤ kj1) ∧ Aside0 (Below w.heap.size w w'))
    case atStart => exact ⟨(0), rs, H', ⟨Nat.le_refl _⟩, ⟨be⟩⟩
    case round =>
     clear H'
     (try clear p2); (try clear c3); (try clear c3b0); (try clear c3b1); (try clear c4); (try clear p2)
     obtain ⟨x15_2, rfl, HA, HK2, HB⟩ := hrel
     cases gk with
     | zero => exact absurd HA.out (by simp [forecast_Check.l0])
     | succ k2 =>
      have H := HA.out
      clear HA
      simp only [forecast_Check.l0] at H
      by_cases c5 : x15_2 < (l0.length : Int)
      ·rw [if_pos c5] at H
       have c5b0 : decide (x15_2 < (l0.length : Int)) = true := decide_eq_true c5
       clear c5
       by_cases c6 : 0 ≤ x15_2
       ·rw [if_pos c6] at H
        have c6b0 : decide (0 ≤ x15_2) = true := decide_eq_true c6
        clear c6
        by_cases c7 : x15_2 < (l0.length : Int)
        ·rw [if_pos c7] at H
         have c7b0 : decide (x15_2 < (l0.length : Int)) = true := decide_eq_true c7
         clear c7
         have HC8 := Aside0.mk H
         clear H
         have p149 : 0 ≤ (x15_2 : Int) := of_decide_eq_true ka
         have q149 : x15_2 < (l0.length : Int) := of_decide_eq_true ka
         obtain ⟨ad149, e149, hx149_0, hx149_1, hx149_2, hx149_3, hx149_4, hx149_5⟩ := at_T92 HR0.out x15_2 p149 q149
         cases e149
         replace hx149_0 := (HB.out.cell (World.block_lt_of_cell? w _ hx149_0)).trans hx149_0
         replace hx149_1 := (HB.out.cell (World.block_lt_of_cell? w _ hx149_1)).trans hx149_1
         replace hx149_2 := (HB.out.cell (World.block_lt_of_cell? w _ hx149_2)).trans hx149_2
         replace hx149_3 := (HB.out.cell (World.block_lt_of_cell? w _ hx149_3)).trans hx149_3
         replace hx149_4 := (HB.out.cell (World.block_lt_of_cell? w _ hx149_4)).trans hx149_4
         replace hx149_5 := (HB.out.cell (World.block_lt_of_cell? w _ hx149_5)).trans hx149_5
         replace p149 := eq_true p149
         replace q149 := eq_true q149
         go_upto_region 6 with (first | ((with_reducible refine gate_dst (N := 4) rfl ?_); (try (refine gate_guard (by rfl) ?_; dsimp only)); refine box_event ?hg (N := 4) ?hd (cs := #[.int .i64 0, .int .i64 0, .int .i64 0, .int .i64 0, .int .i64 0, .string (⟨#[]⟩ : ByteArray)]) (t := 92) ?hr ?_; (case hd => rfl); (case hg => rfl); (case hr => first | (go_simp; done) | (go_simp; rfl)); intro gb150 hg w9 hbox hb; have n0_ := Aside0.mk (below_step be hb); have n1_ := Aside0.mk (hbox); have n2_ := gs hg HB; have n3_ := n2_; clear HB; have HB := n0_; have BK150 := n1_; have GW150 := n2_; have GE150 := n3_; clear n0_ n1_ n2_ n3_; clear hb hbox hg; obtain ⟨hcz10_0, hcz10_1, hcz10_2, hcz10_3, hcz10_4, hcz10_5, hfz10_0, hfz10_1, hfz10_2, hfz10_3, hfz10_4, hfz10_5⟩ := bc6 BK150))
         repeat (go_quiet (first | ((with_reducible refine gate_dst (N := 4) rfl ?_); (try (refine gate_guard (by rfl) ?_; dsimp only)); refine box_event ?hg (N := 4) ?hd (cs := #[.int .i64 0, .int .i64 0, .int .i64 0, .int .i64 0, .int .i64 0, .string (⟨#[]⟩ : ByteArray)]) (t := 92) ?hr ?_; (case hd => rfl); (case hg => rfl); (case hr => first | (go_simp; done) | (go_simp; rfl)); intro gb150 hg w9 hbox hb; have n0_ := Aside0.mk (below_step be hb); have n1_ := Aside0.mk (hbox); have n2_ := gs hg HB; have n3_ := n2_; clear HB; have HB := n0_; have BK150 := n1_; have GW150 := n2_; have GE150 := n3_; clear n0_ n1_ n2_ n3_; clear hb hbox hg; obtain ⟨hcz10_0, hcz10_1, hcz10_2, hcz10_3, hcz10_4, hcz10_5, hfz10_0, hfz10_1, hfz10_2, hfz10_3, hfz10_4, hfz10_5⟩ := bc6 BK150)); go_upto_region 6 with (first | ((with_reducible refine gate_dst (N := 4) rfl ?_); (try (refine gate_guard (by rfl) ?_; dsimp only)); refine box_event ?hg (N := 4) ?hd (cs := #[.int .i64 0, .int .i64 0, .int .i64 0, .int .i64 0, .int .i64 0, .string (⟨#[]⟩ : ByteArray)]) (t := 92) ?hr ?_; (case hd => rfl); (case hg => rfl); (case hr => first | (go_simp; done) | (go_simp; rfl)); intro gb150 hg w9 hbox hb; have n0_ := Aside0.mk (below_step be hb); have n1_ := Aside0.mk (hbox); have n2_ := gs hg HB; have n3_ := n2_; clear HB; have HB := n0_; have BK150 := n1_; have GW150 := n2_; have GE150 := n3_; clear n0_ n1_ n2_ n3_; clear hb hbox hg; obtain ⟨hcz10_0, hcz10_1, hcz10_2, hcz10_3, hcz10_4, hcz10_5, hfz10_0, hfz10_1, hfz10_2, hfz10_3, hfz10_4, hfz10_5⟩ := bc6 BK150)))
         (try simp only [Act.put, List.setIfInBounds_toArray, List.set_cons_zero, List.set_cons_succ])
         go_cut [63] (fun v63 wc => ∃ (kq : Nat) (x63_7 : Bool), v63 = .bool x63_7 ∧ Aside0 (forecast_Check.j2 kq l0 x15_2 l0 (l0.length : Int) x15_2 x63_7 ((rd_T92 l0 x15_2).f0) ((rd_T92 l0 x15_2).f1) ((rd_T92 l0 x15_2).f2) ((rd_T92 l0 x15_2).f3) ((rd_T92 l0 x15_2).f4) ((rd_T92 l0 x15_2).f5) = some r) ∧ Aside0 (kq ≤ k2) ∧ Aside0 (wc.heap[gb150]? = some (.cells #[.int .i64 ((rd_T92 l0 x15_2).f0), .int .i64 ((rd_T92 l0 x15_2).f1), .int .i64 ((rd_T92 l0 x15_2).f2), .int .i64 ((rd_T92 l0 x15_2).f3), .int .i64 ((rd_T92 l0 x15_2).f4), .string ((rd_T92 l0 x15_2).f5)] 92 (0, 0))) ∧ Aside0 (Below w.heap.size w wc))
         case first =>
          have H := HC8.out
          clear HC8
          by_cases c11 : ((rd_T92 l0 x15_2).f0) < 1
          ·rw [if_pos c11] at H
           have c11b0 : decide (((rd_T92 l0 x15_2).f0) < 1) = true := decide_eq_true c11
           clear c11
           (first | rw [c11b0] | (simp only [i64_w, i32_w]; rw [c11b0]) | skip)
           have H' := Aside0.mk H
           clear H
           obtain ⟨hcz12_0, hcz12_1, hcz12_2, hcz12_3, hcz12_4, hcz12_5, hfz12_0, hfz12_1, hfz12_2, hfz12_3, hfz12_4, hfz12_5⟩ := bc6 BK150
           go_wp2
           repeat (go_quiet (fail); try go_wp2)
           go_meet
           case rel => exact ⟨_, (true), rs, H', ⟨by have := HJ1.out; have := HK2.out; first | omega | exact Nat.le_refl _⟩, ⟨bk BK150⟩, ⟨be⟩⟩
          ·rw [if_neg c11] at H
           have c11b0 : decide (((rd_T92 l0 x15_2).f0) < 1) = false := decide_eq_false c11
           clear c11
           (first | rw [c11b0] | (simp only [i64_w, i32_w]; rw [c11b0]) | skip)
           by_cases c13 : ((rd_T92 l0 x15_2).f0) > 12
           ·rw [if_pos c13] at H
            have c13b0 : decide (12 < ((rd_T92 l0 x15_2).f0)) = true := decide_eq_true c13
            clear c13
            have H' := Aside0.mk H
            clear H
            obtain ⟨hcz14_0, hcz14_1, hcz14_2, hcz14_3, hcz14_4, hcz14_5, hfz14_0, hfz14_1, hfz14_2, hfz14_3, hfz14_4, hfz14_5⟩ := bc6 BK150
            go_wp2
            repeat (go_quiet (fail); try go_wp2)
            go_meet
            case rel => exact ⟨_, (true), rs, H', ⟨by have := HJ1.out; have := HK2.out; first | omega | exact Nat.le_refl _⟩, ⟨bk BK150⟩, ⟨be⟩⟩
           ·rw [if_neg c13] at H
            have c13b0 : decide (12 < ((rd_T92 l0 x15_2).f0)) = false := decide_eq_false c13
            clear c13
            by_cases c15 : ((rd_T92 l0 x15_2).f1) < 1
            ·rw [if_pos c15] at H
             have c15b0 : decide (((rd_T92 l0 x15_2).f1) < 1) = true := decide_eq_true c15
             clear c15
             have H' := Aside0.mk H
             clear H
             obtain ⟨hcz16_0, hcz16_1, hcz16_2, hcz16_3, hcz16_4, hcz16_5, hfz16_0, hfz16_1, hfz16_2, hfz16_3, hfz16_4, hfz16_5⟩ := bc6 BK150
             go_wp2
             repeat (go_quiet (fail); try go_wp2)
             go_meet
             case rel => exact ⟨_, (true), rs, H', ⟨by have := HJ1.out; have := HK2.out; first | omega | exact Nat.le_refl _⟩, ⟨bk BK150⟩, ⟨be⟩⟩
            ·rw [if_neg c15] at H
             have c15b0 : decide (((rd_T92 l0 x15_2).f1) < 1) = false := decide_eq_false c15
             clear c15
             by_cases c17 : ((rd_T92 l0 x15_2).f1) > 5
             ·rw [if_pos c17] at H
              have c17b0 : decide (5 < ((rd_T92 l0 x15_2).f1)) = true := decide_eq_true c17
              clear c17
              have H' := Aside0.mk H
              clear H
              obtain ⟨hcz18_0, hcz18_1, hcz18_2, hcz18_3, hcz18_4, hcz18_5, hfz18_0, hfz18_1, hfz18_2, hfz18_3, hfz18_4, hfz18_5⟩ := bc6 BK150
              go_wp2
              repeat (go_quiet (fail); try go_wp2)
              go_meet
              case rel => exact ⟨_, (true), rs, H', ⟨by have := HJ1.out; have := HK2.out; first | omega | exact Nat.le_refl _⟩, ⟨bk BK150⟩, ⟨be⟩⟩
             ·rw [if_neg c17] at H
              have c17b0 : decide (5 < ((rd_T92 l0 x15_2).f1)) = false := decide_eq_false c17
              clear c17
              by_cases c19 : ((rd_T92 l0 x15_2).f2) < 0
              ·rw [if_pos c19] at H
               have c19b0 : decide (((rd_T92 l0 x15_2).f2) < 0) = true := decide_eq_true c19
               clear c19
               have H' := Aside0.mk H
               clear H
               obtain ⟨hcz20_0, hcz20_1, hcz20_2, hcz20_3, hcz20_4, hcz20_5, hfz20_0, hfz20_1, hfz20_2, hfz20_3, hfz20_4, hfz20_5⟩ := bc6 BK150
               go_wp2
               repeat (go_quiet (fail); try go_wp2)
               go_meet
               case rel => exact ⟨_, (true), rs, H', ⟨by have := HJ1.out; have := HK2.out; first | omega | exact Nat.le_refl _⟩, ⟨bk BK150⟩, ⟨be⟩⟩
              ·rw [if_neg c19] at H
               have c19b0 : decide (((rd_T92 l0 x15_2).f2) < 0) = false := decide_eq_false c19
               clear c19
               by_cases c21 : ((rd_T92 l0 x15_2).f2) > 6
               ·rw [if_pos c21] at H
                have c21b0 : decide (6 < ((rd_T92 l0 x15_2).f2)) = true := decide_eq_true c21
                clear c21
                have H' := Aside0.mk H
                clear H
                obtain ⟨hcz22_0, hcz22_1, hcz22_2, hcz22_3, hcz22_4, hcz22_5, hfz22_0, hfz22_1, hfz22_2, hfz22_3, hfz22_4, hfz22_5⟩ := bc6 BK150
                go_wp2
                repeat (go_quiet (fail); try go_wp2)
                go_meet
                case rel => exact ⟨_, (true), rs, H', ⟨by have := HJ1.out; have := HK2.out; first | omega | exact Nat.le_refl _⟩, ⟨bk BK150⟩, ⟨be⟩⟩
               ·rw [if_neg c21] at H
                have c21b0 : decide (6 < ((rd_T92 l0 x15_2).f2)) = false := decide_eq_false c21
                clear c21
                by_cases c23 : ((rd_T92 l0 x15_2).f3) < 0
                ·rw [if_pos c23] at H
                 have c23b0 : decide (((rd_T92 l0 x15_2).f3) < 0) = true := decide_eq_true c23
                 clear c23
                 have H' := Aside0.mk H
                 clear H
                 obtain ⟨hcz24_0, hcz24_1, hcz24_2, hcz24_3, hcz24_4, hcz24_5, hfz24_0, hfz24_1, hfz24_2, hfz24_3, hfz24_4, hfz24_5⟩ := bc6 BK150
                 go_wp2
                 repeat (go_quiet (fail); try go_wp2)
                 go_meet
                 case rel => exact ⟨_, (true), rs, H', ⟨by have := HJ1.out; have := HK2.out; first | omega | exact Nat.le_refl _⟩, ⟨bk BK150⟩, ⟨be⟩⟩
                ·rw [if_neg c23] at H
                 have c23b0 : decide (((rd_T92 l0 x15_2).f3) < 0) = false := decide_eq_false c23
                 clear c23
                 by_cases c25 : ((rd_T92 l0 x15_2).f3) ≥ 86400000
                 ·rw [if_pos c25] at H
                  have c25b0 : decide (86400000 ≤ ((rd_T92 l0 x15_2).f3)) = true := decide_eq_true c25
                  clear c25
                  have H' := Aside0.mk H
                  clear H
                  obtain ⟨hcz26_0, hcz26_1, hcz26_2, hcz26_3, hcz26_4, hcz26_5, hfz26_0, hfz26_1, hfz26_2, hfz26_3, hfz26_4, hfz26_5⟩ := bc6 BK150
                  go_wp2
                  repeat (go_quiet (fail); try go_wp2)
                  go_meet
                  case rel => exact ⟨_, (true), rs, H', ⟨by have := HJ1.out; have := HK2.out; first | omega | exact Nat.le_refl _⟩, ⟨bk BK150⟩, ⟨be⟩⟩
                 ·rw [if_neg c25] at H
                  have c25b0 : decide (86400000 ≤ ((rd_T92 l0 x15_2).f3)) = false := decide_eq_false c25
                  clear c25
                  replace H := Option.bind_eq_some_iff.mp H
                  obtain ⟨t151, A270, H⟩ := H
                  replace H : (forecast_Check.j2 k2 l0 x15_2 l0 (l0.length : Int) x15_2 (!t151) ((rd_T92 l0 x15_2).f0) ((rd_T92 l0 x15_2).f1) ((rd_T92 l0 x15_2).f2) ((rd_T92 l0 x15_2).f3) ((rd_T92 l0 x15_2).f4) ((rd_T92 l0 x15_2).f5)) = some r := H
                  have A27 := Aside0.mk A270
                  clear A270
                  have H' := Aside0.mk H
                  clear H
                  obtain ⟨hcz28_0, hcz28_1, hcz28_2, hcz28_3, hcz28_4, hcz28_5, hfz28_0, hfz28_1, hfz28_2, hfz28_3, hfz28_4, hfz28_5⟩ := bc6 BK150
                  go_wp2_with (first | (go_at_call 71; (with_reducible refine (zone_IsOffset.calls ((rd_T92 l0 x15_2).f4) t151 _ A27.out).mono ?_); rintro e w' ⟨rfl, ⟨nd, rfl⟩⟩; (try first | exact ⟨rfl, _, World.drewN_drewN _ _ _⟩ | exact ⟨rfl, _, Eq.trans (World.drewN_drewN _ _ _) (congrArg (World.drewN _) (Nat.add_assoc _ _ _))⟩)))
                  repeat (go_quiet (first | (go_at_call 71; (with_reducible refine (zone_IsOffset.calls ((rd_T92 l0 x15_2).f4) t151 _ A27.out).mono ?_); rintro e w' ⟨rfl, ⟨nd, rfl⟩⟩; (try first | exact ⟨rfl, _, World.drewN_drewN _ _ _⟩ | exact ⟨rfl, _, Eq.trans (World.drewN_drewN _ _ _) (congrArg (World.drewN _) (Nat.add_assoc _ _ _))⟩))); try go_wp2_with (first | (go_at_call 71; (with_reducible refine (zone_IsOffset.calls ((rd_T92 l0 x15_2).f4) t151 _ A27.out).mono ?_); rintro e w' ⟨rfl, ⟨nd, rfl⟩⟩; (try first | exact ⟨rfl, _, World.drewN_drewN _ _ _⟩ | exact ⟨rfl, _, Eq.trans (World.drewN_drewN _ _ _) (congrArg (World.drewN _) (Nat.add_assoc _ _ _))⟩))))
                  go_meet
                  case rel => exact ⟨_, (!t151), rs, H', ⟨by have := HJ1.out; have := HK2.out; first | omega | exact Nat.le_refl _⟩, ⟨bk BK150⟩, ⟨be⟩⟩
         case rest =>
          clear HC8
          (try clear c1); (try clear p1); (try clear q1); (try clear hx1); (try clear c2); (try clear p2); (try clear c3); (try clear c3b0); (try clear c3b1); (try clear c4); (try clear c5); (try clear c5b0); (try clear c6); (try clear c6b0); (try clear c7); (try clear c7b0); (try clear c11); (try clear c11b0); (try clear c13); (try clear c13b0); (try clear p14); (try clear q14); (try clear hx14); (try clear c15); (try clear c15b0); (try clear c17); (try clear c17b0); (try clear c19); (try clear c19b0); (try clear c21); (try clear c21b0); (try clear c23); (try clear c23b0); (try clear c25); (try clear c25b0); (try clear hcz10_0); (try clear hcz10_1); (try clear hcz10_2); (try clear hcz10_3); (try clear hcz10_4); (try clear hcz10_5); (try clear hcz12_0); (try clear hcz12_1); (try clear hcz12_2); (try clear hcz12_3); (try clear hcz12_4); (try clear hcz12_5); (try clear hcz14_0); (try clear hcz14_1); (try clear hcz14_2); (try clear hcz14_3); (try clear hcz14_4); (try clear hcz14_5); (try clear hcz16_0); (try clear hcz16_1); (try clear hcz16_2); (try clear hcz16_3); (try clear hcz16_4); (try clear hcz16_5); (try clear hcz18_0); (try clear hcz18_1); (try clear hcz18_2); (try clear hcz18_3); (try clear hcz18_4); (try clear hcz18_5); (try clear hcz20_0); (try clear hcz20_1); (try clear hcz20_2); (try clear hcz20_3); (try clear hcz20_4); (try clear hcz20_5); (try clear hcz22_0); (try clear hcz22_1); (try clear hcz22_2); (try clear hcz22_3); (try clear hcz22_4); (try clear hcz22_5); (try clear hcz24_0); (try clear hcz24_1); (try clear hcz24_2); (try clear hcz24_3); (try clear hcz24_4); (try clear hcz24_5); (try clear hcz26_0); (try clear hcz26_1); (try clear hcz26_2); (try clear hcz26_3); (try clear hcz26_4); (try clear hcz26_5); (try clear hcz28_0); (try clear hcz28_1); (try clear hcz28_2); (try clear hcz28_3); (try clear hcz28_4); (try clear hcz28_5); (try clear hfz10_0); (try clear hfz10_1); (try clear hfz10_2); (try clear hfz10_3); (try clear hfz10_4); (try clear hfz10_5); (try clear hfz12_0); (try clear hfz12_1); (try clear hfz12_2); (try clear hfz12_3); (try clear hfz12_4); (try clear hfz12_5); (try clear hfz14_0); (try clear hfz14_1); (try clear hfz14_2); (try clear hfz14_3); (try clear hfz14_4); (try clear hfz14_5); (try clear hfz16_0); (try clear hfz16_1); (try clear hfz16_2); (try clear hfz16_3); (try clear hfz16_4); (try clear hfz16_5); (try clear hfz18_0); (try clear hfz18_1); (try clear hfz18_2); (try clear hfz18_3); (try clear hfz18_4); (try clear hfz18_5); (try clear hfz20_0); (try clear hfz20_1); (try clear hfz20_2); (try clear hfz20_3); (try clear hfz20_4); (try clear hfz20_5); (try clear hfz22_0); (try clear hfz22_1); (try clear hfz22_2); (try clear hfz22_3); (try clear hfz22_4); (try clear hfz22_5); (try clear hfz24_0); (try clear hfz24_1); (try clear hfz24_2); (try clear hfz24_3); (try clear hfz24_4); (try clear hfz24_5); (try clear hfz26_0); (try clear hfz26_1); (try clear hfz26_2); (try clear hfz26_3); (try clear hfz26_4); (try clear hfz26_5); (try clear hfz28_0); (try clear hfz28_1); (try clear hfz28_2); (try clear hfz28_3); (try clear hfz28_4); (try clear hfz28_5); (try clear hx149_0); (try clear hx149_1); (try clear hx149_2); (try clear hx149_3); (try clear hx149_4); (try clear hx149_5); (try clear p149); (try clear p2); (try clear q149)
          obtain ⟨kq, x63_7, rfl, HA, HJ7, BK150, HB⟩ := hcut
          cases kq with
          | zero => exact absurd HA.out (by simp [forecast_Check.j2])
          | succ kj7 =>
           have H := HA.out
           clear HA
           simp only [forecast_Check.j2] at H
           by_cases c29 : x63_7 = true
           ·subst c29
            have H1 : (some 3) = some r := by rw [if_pos rfl] at H; exact H
            clear H
            have H := H1
            clear H1
            obtain rfl := Option.some.inj H
            go_wp2
            repeat (go_quiet (fail); try go_wp2)
            go_ret
            exact ⟨by first | rfl | (simp [errW_none, errW_some] <;> rfl) | (simp [*, errW_none, errW_some] <;> rfl), be⟩
           ·replace c29 := Bool.eq_false_iff.mpr c29
            subst c29
            have H1 : ((zone_IsLabel.f ((rd_T92 l0 x15_2).f5)).bind fun t152 => (if t152 = true then (if x15_2 > 0 then (if 0 ≤ (wrap64 (x15_2 - 1)) then (if (wrap64 (x15_2 - 1)) < (l0.length : Int) then (if ((rd_T92 l0 x15_2).f0) ≤ ((rd_T92 l0 (wrap64 (x15_2 - 1))).f0) then (some 9) else (forecast_Check.l0 kj7 l0 l0 (l0.length : Int) (wrap64 (x15_2 + 1)))) else (none)) else (none)) else (forecast_Check.l0 kj7 l0 l0 (l0.length : Int) (wrap64 (x15_2 + 1)))) else (some 8))) = some r := by rw [if_neg (show ¬ (false = true) by decide)] at H; exact H
            clear H
            have H := H1
            clear H1
            replace H := Option.bind_eq_some_iff.mp H
            obtain ⟨t152, A300, H⟩ := H
            replace H : (if t152 = true then (if x15_2 > 0 then (if 0 ≤ (wrap64 (x15_2 - 1)) then (if (wrap64 (x15_2 - 1)) < (l0.length : Int) then (if ((rd_T92 l0 x15_2).f0) ≤ ((rd_T92 l0 (wrap64 (x15_2 - 1))).f0) then (some 9) else (forecast_Check.l0 kj7 l0 l0 (l0.length : Int) (wrap64 (x15_2 + 1)))) else (none)) else (none)) else (forecast_Check.l0 kj7 l0 l0 (l0.length : Int) (wrap64 (x15_2 + 1)))) else (some 8)) = some r := H
            have A30 := Aside0.mk A300
            clear A300
            by_cases c31 : t152 = true
            ·subst c31
             have H1 : (if x15_2 > 0 then (if 0 ≤ (wrap64 (x15_2 - 1)) then (if (wrap64 (x15_2 - 1)) < (l0.length : Int) then (if ((rd_T92 l0 x15_2).f0) ≤ ((rd_T92 l0 (wrap64 (x15_2 - 1))).f0) then (some 9) else (forecast_Check.l0 kj7 l0 l0 (l0.length : Int) (wrap64 (x15_2 + 1)))) else (none)) else (none)) else (forecast_Check.l0 kj7 l0 l0 (l0.length : Int) (wrap64 (x15_2 + 1)))) = some r := by rw [if_pos rfl] at H; exact H
             clear H
             have H := H1
             clear H1
             by_cases c32 : x15_2 > 0
             ·rw [if_pos c32] at H
              have c32b0 : decide (0 < x15_2) = true := decide_eq_true c32
              clear c32
              obtain ⟨ji33, hji33⟩ : ∃ j_ : Int, (wrap64 (x15_2 - 1)) = j_ := ⟨_, rfl⟩
              replace H : (if 0 ≤ (ji33) then (if (ji33) < (l0.length : Int) then (if ((rd_T92 l0 x15_2).f0) ≤ ((rd_T92 l0 (ji33)).f0) then (some 9) else (forecast_Check.l0 kj7 l0 l0 (l0.length : Int) (wrap64 (x15_2 + 1)))) else (none)) else (none)) = some r := by first | (rw [hji33] at H; exact H) | (simp only [hji33] at H ⊢; exact H)
              (try rw [hji33] at A30)
              have hji33w : (IntKind.i64.wrap (x15_2 - 1)) = ji33 := (i64_w _).trans hji33
              by_cases c34 : 0 ≤ (ji33)
              ·rw [if_pos c34] at H
               have c34b0 : decide (0 ≤ (ji33)) = true := decide_eq_true c34
               clear c34
               by_cases c35 : (ji33) < (l0.length : Int)
               ·rw [if_pos c35] at H
                have c35b0 : decide ((ji33) < (l0.length : Int)) = true := decide_eq_true c35
                clear c35
                by_cases c36 : ((rd_T92 l0 x15_2).f0) ≤ ((rd_T92 l0 (ji33)).f0)
                ·rw [if_pos c36] at H
                 have c36b0 : decide (((rd_T92 l0 x15_2).f0) ≤ ((rd_T92 l0 (ji33)).f0)) = true := decide_eq_true c36
                 clear c36
                 obtain rfl := Option.some.inj H
                 obtain ⟨hcz37_0, hcz37_1, hcz37_2, hcz37_3, hcz37_4, hcz37_5, hfz37_0, hfz37_1, hfz37_2, hfz37_3, hfz37_4, hfz37_5⟩ := bc6 BK150
                 go_wp2_with (first | (go_at_call 72; (with_reducible refine (zone_IsLabel.calls ((rd_T92 l0 x15_2).f5) true _ A30.out).mono ?_); rintro e w38 ⟨rfl, hb⟩; have n0_ := bb BK150 hb; have n1_ := Aside0.mk (below_step be hb); clear BK150; clear HB; have BK150 := n0_; have HB := n1_; clear n0_ n1_; (try clear hb); (try clear hb2); (try clear hk); (try clear hi); obtain ⟨hcz39_0, hcz39_1, hcz39_2, hcz39_3, hcz39_4, hcz39_5, hfz39_0, hfz39_1, hfz39_2, hfz39_3, hfz39_4, hfz39_5⟩ := bc6 BK150; have p153 : 0 ≤ ((ji33) : Int) := of_decide_eq_true ka; have q153 : (ji33) < (l0.length : Int) := of_decide_eq_true ka; obtain ⟨ad153, e153, hx153_0, hx153_1, hx153_2, hx153_3, hx153_4, hx153_5⟩ := at_T92 HR0.out (ji33) p153 q153; obtain rfl : ad149 = ad153 := (by injection e153); replace hx153_0 := (HB.out.cell (World.block_lt_of_cell? w _ hx153_0)).trans hx153_0; replace hx153_1 := (HB.out.cell (World.block_lt_of_cell? w _ hx153_1)).trans hx153_1; replace hx153_2 := (HB.out.cell (World.block_lt_of_cell? w _ hx153_2)).trans hx153_2; replace hx153_3 := (HB.out.cell (World.block_lt_of_cell? w _ hx153_3)).trans hx153_3; replace hx153_4 := (HB.out.cell (World.block_lt_of_cell? w _ hx153_4)).trans hx153_4; replace hx153_5 := (HB.out.cell (World.block_lt_of_cell? w _ hx153_5)).trans hx153_5; replace p153 := eq_true p153; replace q153 := eq_true q153))
                 repeat (go_quiet (first | (go_at_call 72; (with_reducible refine (zone_IsLabel.calls ((rd_T92 l0 x15_2).f5) true _ A30.out).mono ?_); rintro e w38 ⟨rfl, hb⟩; have n0_ := bb BK150 hb; have n1_ := Aside0.mk (below_step be hb); clear BK150; clear HB; have BK150 := n0_; have HB := n1_; clear n0_ n1_; (try clear hb); (try clear hb2); (try clear hk); (try clear hi); obtain ⟨hcz39_0, hcz39_1, hcz39_2, hcz39_3, hcz39_4, hcz39_5, hfz39_0, hfz39_1, hfz39_2, hfz39_3, hfz39_4, hfz39_5⟩ := bc6 BK150; have p153 : 0 ≤ ((ji33) : Int) := of_decide_eq_true ka; have q153 : (ji33) < (l0.length : Int) := of_decide_eq_true ka; obtain ⟨ad153, e153, hx153_0, hx153_1, hx153_2, hx153_3, hx153_4, hx153_5⟩ := at_T92 HR0.out (ji33) p153 q153; obtain rfl : ad149 = ad153 := (by injection e153); replace hx153_0 := (HB.out.cell (World.block_lt_of_cell? w _ hx153_0)).trans hx153_0; replace hx153_1 := (HB.out.cell (World.block_lt_of_cell? w _ hx153_1)).trans hx153_1; replace hx153_2 := (HB.out.cell (World.block_lt_of_cell? w _ hx153_2)).trans hx153_2; replace hx153_3 := (HB.out.cell (World.block_lt_of_cell? w _ hx153_3)).trans hx153_3; replace hx153_4 := (HB.out.cell (World.block_lt_of_cell? w _ hx153_4)).trans hx153_4; replace hx153_5 := (HB.out.cell (World.block_lt_of_cell? w _ hx153_5)).trans hx153_5; replace p153 := eq_true p153; replace q153 := eq_true q153)); try go_wp2_with (first | (go_at_call 72; (with_reducible refine (zone_IsLabel.calls ((rd_T92 l0 x15_2).f5) true _ A30.out).mono ?_); rintro e w38 ⟨rfl, hb⟩; have n0_ := bb BK150 hb; have n1_ := Aside0.mk (below_step be hb); clear BK150; clear HB; have BK150 := n0_; have HB := n1_; clear n0_ n1_; (try clear hb); (try clear hb2); (try clear hk); (try clear hi); obtain ⟨hcz39_0, hcz39_1, hcz39_2, hcz39_3, hcz39_4, hcz39_5, hfz39_0, hfz39_1, hfz39_2, hfz39_3, hfz39_4, hfz39_5⟩ := bc6 BK150; have p153 : 0 ≤ ((ji33) : Int) := of_decide_eq_true ka; have q153 : (ji33) < (l0.length : Int) := of_decide_eq_true ka; obtain ⟨ad153, e153, hx153_0, hx153_1, hx153_2, hx153_3, hx153_4, hx153_5⟩ := at_T92 HR0.out (ji33) p153 q153; obtain rfl : ad149 = ad153 := (by injection e153); replace hx153_0 := (HB.out.cell (World.block_lt_of_cell? w _ hx153_0)).trans hx153_0; replace hx153_1 := (HB.out.cell (World.block_lt_of_cell? w _ hx153_1)).trans hx153_1; replace hx153_2 := (HB.out.cell (World.block_lt_of_cell? w _ hx153_2)).trans hx153_2; replace hx153_3 := (HB.out.cell (World.block_lt_of_cell? w _ hx153_3)).trans hx153_3; replace hx153_4 := (HB.out.cell (World.block_lt_of_cell? w _ hx153_4)).trans hx153_4; replace hx153_5 := (HB.out.cell (World.block_lt_of_cell? w _ hx153_5)).trans hx153_5; replace p153 := eq_true p153; replace q153 := eq_true q153)))
                 go_ret
                 exact ⟨by first | rfl | (simp [errW_none, errW_some] <;> rfl) | (simp only [← hji33]; first | rfl | (simp [errW_none, errW_some] <;> rfl)) | (simp [*, errW_none, errW_some] <;> rfl), be⟩
                ·rw [if_neg c36] at H
                 have c36b0 : decide (((rd_T92 l0 x15_2).f0) ≤ ((rd_T92 l0 (ji33)).f0)) = false := decide_eq_false c36
                 clear c36
                 have H' := Aside0.mk H
                 clear H
                 obtain ⟨hcz40_0, hcz40_1, hcz40_2, hcz40_3, hcz40_4, hcz40_5, hfz40_0, hfz40_1, hfz40_2, hfz40_3, hfz40_4, hfz40_5⟩ := bc6 BK150
                 go_wp2_with (first | (go_at_call 72; (with_reducible refine (zone_IsLabel.calls ((rd_T92 l0 x15_2).f5) true _ A30.out).mono ?_); rintro e w41 ⟨rfl, hb⟩; have n0_ := bb BK150 hb; have n1_ := Aside0.mk (below_step be hb); clear BK150; clear HB; have BK150 := n0_; have HB := n1_; clear n0_ n1_; (try clear hb); (try clear hb2); (try clear hk); (try clear hi); obtain ⟨hcz42_0, hcz42_1, hcz42_2, hcz42_3, hcz42_4, hcz42_5, hfz42_0, hfz42_1, hfz42_2, hfz42_3, hfz42_4, hfz42_5⟩ := bc6 BK150; have p153 : 0 ≤ ((ji33) : Int) := of_decide_eq_true ka; have q153 : (ji33) < (l0.length : Int) := of_decide_eq_true ka; obtain ⟨ad153, e153, hx153_0, hx153_1, hx153_2, hx153_3, hx153_4, hx153_5⟩ := at_T92 HR0.out (ji33) p153 q153; obtain rfl : ad149 = ad153 := (by injection e153); replace hx153_0 := (HB.out.cell (World.block_lt_of_cell? w _ hx153_0)).trans hx153_0; replace hx153_1 := (HB.out.cell (World.block_lt_of_cell? w _ hx153_1)).trans hx153_1; replace hx153_2 := (HB.out.cell (World.block_lt_of_cell? w _ hx153_2)).trans hx153_2; replace hx153_3 := (HB.out.cell (World.block_lt_of_cell? w _ hx153_3)).trans hx153_3; replace hx153_4 := (HB.out.cell (World.block_lt_of_cell? w _ hx153_4)).trans hx153_4; replace hx153_5 := (HB.out.cell (World.block_lt_of_cell? w _ hx153_5)).trans hx153_5; replace p153 := eq_true p153; replace q153 := eq_true q153))
                 repeat (go_quiet (first | (go_at_call 72; (with_reducible refine (zone_IsLabel.calls ((rd_T92 l0 x15_2).f5) true _ A30.out).mono ?_); rintro e w41 ⟨rfl, hb⟩; have n0_ := bb BK150 hb; have n1_ := Aside0.mk (below_step be hb); clear BK150; clear HB; have BK150 := n0_; have HB := n1_; clear n0_ n1_; (try clear hb); (try clear hb2); (try clear hk); (try clear hi); obtain ⟨hcz42_0, hcz42_1, hcz42_2, hcz42_3, hcz42_4, hcz42_5, hfz42_0, hfz42_1, hfz42_2, hfz42_3, hfz42_4, hfz42_5⟩ := bc6 BK150; have p153 : 0 ≤ ((ji33) : Int) := of_decide_eq_true ka; have q153 : (ji33) < (l0.length : Int) := of_decide_eq_true ka; obtain ⟨ad153, e153, hx153_0, hx153_1, hx153_2, hx153_3, hx153_4, hx153_5⟩ := at_T92 HR0.out (ji33) p153 q153; obtain rfl : ad149 = ad153 := (by injection e153); replace hx153_0 := (HB.out.cell (World.block_lt_of_cell? w _ hx153_0)).trans hx153_0; replace hx153_1 := (HB.out.cell (World.block_lt_of_cell? w _ hx153_1)).trans hx153_1; replace hx153_2 := (HB.out.cell (World.block_lt_of_cell? w _ hx153_2)).trans hx153_2; replace hx153_3 := (HB.out.cell (World.block_lt_of_cell? w _ hx153_3)).trans hx153_3; replace hx153_4 := (HB.out.cell (World.block_lt_of_cell? w _ hx153_4)).trans hx153_4; replace hx153_5 := (HB.out.cell (World.block_lt_of_cell? w _ hx153_5)).trans hx153_5; replace p153 := eq_true p153; replace q153 := eq_true q153)); try go_wp2_with (first | (go_at_call 72; (with_reducible refine (zone_IsLabel.calls ((rd_T92 l0 x15_2).f5) true _ A30.out).mono ?_); rintro e w41 ⟨rfl, hb⟩; have n0_ := bb BK150 hb; have n1_ := Aside0.mk (below_step be hb); clear BK150; clear HB; have BK150 := n0_; have HB := n1_; clear n0_ n1_; (try clear hb); (try clear hb2); (try clear hk); (try clear hi); obtain ⟨hcz42_0, hcz42_1, hcz42_2, hcz42_3, hcz42_4, hcz42_5, hfz42_0, hfz42_1, hfz42_2, hfz42_3, hfz42_4, hfz42_5⟩ := bc6 BK150; have p153 : 0 ≤ ((ji33) : Int) := of_decide_eq_true ka; have q153 : (ji33) < (l0.length : Int) := of_decide_eq_true ka; obtain ⟨ad153, e153, hx153_0, hx153_1, hx153_2, hx153_3, hx153_4, hx153_5⟩ := at_T92 HR0.out (ji33) p153 q153; obtain rfl : ad149 = ad153 := (by injection e153); replace hx153_0 := (HB.out.cell (World.block_lt_of_cell? w _ hx153_0)).trans hx153_0; replace hx153_1 := (HB.out.cell (World.block_lt_of_cell? w _ hx153_1)).trans hx153_1; replace hx153_2 := (HB.out.cell (World.block_lt_of_cell? w _ hx153_2)).trans hx153_2; replace hx153_3 := (HB.out.cell (World.block_lt_of_cell? w _ hx153_3)).trans hx153_3; replace hx153_4 := (HB.out.cell (World.block_lt_of_cell? w _ hx153_4)).trans hx153_4; replace hx153_5 := (HB.out.cell (World.block_lt_of_cell? w _ hx153_5)).trans hx153_5; replace p153 := eq_true p153; replace q153 := eq_true q153)))
                 go_roundg kj7
                 case measure => have := HJ1.out; have := HK2.out; have := HJ7.out; omega
                 case rel => exact ⟨(wrap64 (x15_2 + 1)), rs, H', ⟨by have := HJ1.out; have := HK2.out; have := HJ7.out; omega⟩, ⟨be⟩⟩
               ·rw [if_neg c35] at H
                exact absurd H (by simp)
              ·rw [if_neg c34] at H
               exact absurd H (by simp)
             ·rw [if_neg c32] at H
              have c32b0 : decide (0 < x15_2) = false := decide_eq_false c32
              clear c32
              have H' := Aside0.mk H
              clear H
              obtain ⟨hcz43_0, hcz43_1, hcz43_2, hcz43_3, hcz43_4, hcz43_5, hfz43_0, hfz43_1, hfz43_2, hfz43_3, hfz43_4, hfz43_5⟩ := bc6 BK150
              go_wp2_with (first | (go_at_call 72; (with_reducible refine (zone_IsLabel.calls ((rd_T92 l0 x15_2).f5) true _ A30.out).mono ?_); rintro e w44 ⟨rfl, hb⟩; have n0_ := bb BK150 hb; have n1_ := Aside0.mk (below_step be hb); clear BK150; clear HB; have BK150 := n0_; have HB := n1_; clear n0_ n1_; (try clear hb); (try clear hb2); (try clear hk); (try clear hi)))
              repeat (go_quiet (first | (go_at_call 72; (with_reducible refine (zone_IsLabel.calls ((rd_T92 l0 x15_2).f5) true _ A30.out).mono ?_); rintro e w44 ⟨rfl, hb⟩; have n0_ := bb BK150 hb; have n1_ := Aside0.mk (below_step be hb); clear BK150; clear HB; have BK150 := n0_; have HB := n1_; clear n0_ n1_; (try clear hb); (try clear hb2); (try clear hk); (try clear hi))); try go_wp2_with (first | (go_at_call 72; (with_reducible refine (zone_IsLabel.calls ((rd_T92 l0 x15_2).f5) true _ A30.out).mono ?_); rintro e w44 ⟨rfl, hb⟩; have n0_ := bb BK150 hb; have n1_ := Aside0.mk (below_step be hb); clear BK150; clear HB; have BK150 := n0_; have HB := n1_; clear n0_ n1_; (try clear hb); (try clear hb2); (try clear hk); (try clear hi))))
              go_roundg kj7
              case measure => have := HJ1.out; have := HK2.out; have := HJ7.out; omega
              case rel => exact ⟨(wrap64 (x15_2 + 1)), rs, H', ⟨by have := HJ1.out; have := HK2.out; have := HJ7.out; omega⟩, ⟨be⟩⟩
            ·replace c31 := Bool.eq_false_iff.mpr c31
             subst c31
             have H1 : (some 8) = some r := by rw [if_neg (show ¬ (false = true) by decide)] at H; exact H
             clear H
             have H := H1
             clear H1
             obtain rfl := Option.some.inj H
             obtain ⟨hcz45_0, hcz45_1, hcz45_2, hcz45_3, hcz45_4, hcz45_5, hfz45_0, hfz45_1, hfz45_2, hfz45_3, hfz45_4, hfz45_5⟩ := bc6 BK150
             go_wp2_with (first | (go_at_call 72; (with_reducible refine (zone_IsLabel.calls ((rd_T92 l0 x15_2).f5) false _ A30.out).mono ?_); rintro e w46 ⟨rfl, hb⟩; have n0_ := bb BK150 hb; have n1_ := Aside0.mk (below_step be hb); clear BK150; clear HB; have BK150 := n0_; have HB := n1_; clear n0_ n1_; (try clear hb); (try clear hb2); (try clear hk); (try clear hi)))
             repeat (go_quiet (first | (go_at_call 72; (with_reducible refine (zone_IsLabel.calls ((rd_T92 l0 x15_2).f5) false _ A30.out).mono ?_); rintro e w46 ⟨rfl, hb⟩; have n0_ := bb BK150 hb; have n1_ := Aside0.mk (below_step be hb); clear BK150; clear HB; have BK150 := n0_; have HB := n1_; clear n0_ n1_; (try clear hb); (try clear hb2); (try clear hk); (try clear hi))); try go_wp2_with (first | (go_at_call 72; (with_reducible refine (zone_IsLabel.calls ((rd_T92 l0 x15_2).f5) false _ A30.out).mono ?_); rintro e w46 ⟨rfl, hb⟩; have n0_ := bb BK150 hb; have n1_ := Aside0.mk (below_step be hb); clear BK150; clear HB; have BK150 := n0_; have HB := n1_; clear n0_ n1_; (try clear hb); (try clear hb2); (try clear hk); (try clear hi))))
             go_ret
             exact ⟨by first | rfl | (simp [errW_none, errW_some] <;> rfl) | (simp [*, errW_none, errW_some] <;> rfl), be⟩
        ·rw [if_neg c7] at H
         exact absurd H (by simp)
       ·rw [if_neg c6] at H
        exact absurd H (by simp)
      ·rw [if_neg c5] at H
       have c5b0 : decide (x15_2 < (l0.length : Int)) = false := decide_eq_false c5
       clear c5
       obtain rfl := Option.some.inj H
       go_wp2
       repeat (go_quiet (fail); try go_wp2)
       go_ret
       exact ⟨by first | rfl | (simp [errW_none, errW_some] <;> rfl) | (simp [*, errW_none, errW_some] <;> rfl), be⟩

/-! ### api_ZoneChange: function 48 -/
def api_ZoneChange.f (l0 : List (S43)) : Option ((List (S43))) := (some (([] : List (S43)) : List (S43))).bind fun y154 => (if y154.length + l0.length < 4398046511104 then (some (y154 ++ l0)) else (none))
set_option maxHeartbeats 8000000 in
set_option maxRecDepth 100000 in
theorem api_ZoneChange.calls (A0 : Option Addr) (c0 : Nat) (l0 : List (S43)) (r : List (S43)) (w : World) (hr0 : Kd.C k43 w A0 l0.length l0) (hc0 : l0.length ≤ c0) (h : api_ZoneChange.f l0 = some r) :
  Calls Tryd.prog 48 #[.slice A0 l0.length c0] w fun e w' => ∃ v0_ : Value, e = .returned (v0_) ∧ Kd.R k43 43 w' w.heap.size (fun _ => True) v0_ r ∧ Below w.heap.size w w' := by
 have HR0 := Aside0.mk hr0
 have HC0 := Aside0.mk hc0
 clear hr0 hc0
 have HB := Aside0.mk (Below.refl w.heap.size w)
 have H : ((some (([] : List (S43)) : List (S43))).bind fun y154 => (if y154.length + l0.length < 4398046511104 then (some (y154 ++ l0)) else (none))) = some r := h
 clear h
 obtain ⟨y154, hy154⟩ : ∃ y_ : List (S43), y_ = (([] : List (S43))) := ⟨_, rfl⟩
 replace H : (if y154.length + l0.length < 4398046511104 then (some (y154 ++ l0)) else (none)) = some r := rp hy154 H
 have Ny154 := Aside0.mk hy154
 clear hy154
 by_cases c2 : y154.length + l0.length < 4398046511104
 ·rw [if_pos c2] at H
  have LMc2 := Aside0.mk c2
  clear c2
  obtain ⟨y157, hy157⟩ : ∃ y_ : List (S43), y_ = (y154 ++ l0) := ⟨_, rfl⟩
  replace H : (some y157) = some r := rp hy157 H
  have Ny157 := Aside0.mk hy157
  clear hy157
  obtain rfl := Option.some.inj H
  have q_ : ∀ (w_ : World) (a_ : Option Addr) (n_ c_ n1_ c1_ : Nat), (binOp .eql 22 (.slice a_ n_ c_) (.slice none n1_ c1_)).run Tryd.prog w_ = .ok (.bool a_.isNone) w_ := fun w_ a_ n_ c_ n1_ c1_ => Go.Lib.run_eql_slice_nil w_ _ _ a_ n_ c_ n1_ c1_ Tryd.underlying22
  cases A0 with
  | none =>
   have hl0 : l0 = [] := by
    cases l0 with
    | nil => rfl
    | cons x_ l_ =>
     obtain ⟨ad_, c_, e_, _⟩ := Kd.C_get HR0.out x_ 0 (by decide) (by simp only [List.length_cons]; omega)
     cases e_
   subst hl0
   have hy0_ : y157 = [] := by rw [Ny157.out, Ny154.out]; rfl
   subst hy0_
   go_enter Tryd.func48, Tryd.ntmps48
   go_wp2
   go_ret
   exact ⟨_, rfl, Kd.R_nil _ _ _ _ _, HB.out⟩
  | some aa0 =>
   go_enter Tryd.func48, Tryd.ntmps48
   go_wp2_with (first | ((with_reducible refine gate_dst (N := 5) rfl ?_); refine Kd.R_lit k43 _ 43 ?hg (N := 5) ?hd (xs := ([] : List (S43))) (inner := []) (ok := fun _ => True) (okp := fun _ => True) ?hr ?hp (fun _ hk => hk) trivial (Below.refl _ _) (Nat.le_refl _) (by simp) ?_; (case hd => rfl); (case hg => rfl); (case hr => first | (go_simp; done) | (go_simp; rfl)); (case hp => exact (Reps.none _ _)); intro v155 w3 ho4 hb hg_ hnew_; clear hg_ hnew_; (first | rw [← Ny154.out] at ho4 | (simp only [Int.reduceToNat] at ho4; rw [← Ny154.out] at ho4)); have n0_ := Aside0.mk (Kd.R_lower ho4 (below_size be)); have n1_ := Aside0.mk (below_step be hb); clear HB; have HO156 := n0_; have HB := n1_; clear n0_ n1_; clear hb ho4) | ((with_reducible refine gate_builtin (b := .append) (xs := #[.tmp 5, .tmp 6]) rfl ?_); at_builtin; refine Kd.R_append_rows k43 (w0 := w) w.heap.size rfl (.tmp 5) (.tmp 6) 22 43 (.agg #[(.int .i64 0), (.int .i64 0), (.string ⟨#[]⟩)]) 32 rfl Tryd.underlying22 info43 rfl (by decide) (by omega) v155 y154 l0 _ _ _ (fun _ => True) (fun _ => False) rfl rfl ?aO ?aR (fun _ _ h => h) (fun _ h => h.elim) ?aF ?aB ?aS ?aL ?_; (case aR => exact kc (Kd.C_below HR0.out HB.out)); (case aB => exact be); (case aF => exact (fun _ _ => trivial)); (case aO => exact (by (with_reducible repeat (first | apply Kd.R_alloc | apply Kd.R_drewN | apply Kd.R_drew)); exact HO156.out)); (case aS => exact (below_size be)); (case aL => have := LMc2.out; omega); intro v158 w5 ho hb hg hat; rw [← Ny157.out] at ho; have n0_ := Aside0.mk (hb); have n1_ := Aside0.mk (ho); clear HB; clear HO156; have HB := n0_; have HO159 := n1_; clear n0_ n1_; clear ho hb hg hat))
   go_ret
   exact ⟨_, by first | rfl | (simp [errW_none, errW_some] <;> rfl) | (simp [*, errW_none, errW_some] <;> rfl), by (with_reducible repeat (first | apply Kd.R_alloc | apply Kd.R_drewN | apply Kd.R_drew)); exact HO159.out, be⟩
 ·rw [if_neg c2] at H
  exact absurd H (by simp)

/-! ### line_leap: function 137 -/
def line_leap.f (a0 : Int) : Option (Bool) := if (Int.tmod a0 4) = 0 then (if (Int.tmod a0 100) = 0 then (some ((Int.tmod a0 400) == 0)) else (some true)) else (some false)
set_option maxHeartbeats 8000000 in
set_option maxRecDepth 100000 in
theorem line_leap.calls (a0 : Int) (r : Bool) (w : World) (h : line_leap.f a0 = some r) :
  Calls Tryd.prog 137 #[.int .i64 a0] w fun e w' => e = .returned (.bool r) ∧ Drawn0 w w' := by
 have H : (if (Int.tmod a0 4) = 0 then (if (Int.tmod a0 100) = 0 then (some ((Int.tmod a0 400) == 0)) else (some true)) else (some false)) = some r := h
 clear h
 by_cases c2 : (Int.tmod a0 4) = 0
 ·rw [if_pos c2] at H
  have c2b0 : ((Int.tmod a0 4) == 0) = true := beq_iff_eq.mpr c2
  have c2b1 : ((Int.tmod a0 4) != 0) = false := bne_eq_false_iff_eq.mpr c2
  clear c2
  by_cases c3 : (Int.tmod a0 100) = 0
  ·rw [if_pos c3] at H
   have c3b0 : ((Int.tmod a0 100) == 0) = true := beq_iff_eq.mpr c3
   have c3b1 : ((Int.tmod a0 100) != 0) = false := bne_eq_false_iff_eq.mpr c3
   clear c3
   obtain rfl := Option.some.inj H
   go_enter Tryd.func137, Tryd.ntmps137
   go_wp2
   go_ret
   exact ⟨by first | rfl | (simp; done) | (simp [*]; done), by repeat (first | exact Drawn0.refl _ | apply Drawn0.step)⟩
  ·rw [if_neg c3] at H
   have c3b0 : ((Int.tmod a0 100) == 0) = false := beq_eq_false_iff_ne.mpr c3
   have c3b1 : ((Int.tmod a0 100) != 0) = true := bne_iff_ne.mpr c3
   obtain rfl := Option.some.inj H
   go_enter Tryd.func137, Tryd.ntmps137
   go_wp2
   go_ret
   exact ⟨by first | rfl | (simp; done) | (simp [*]; done), by repeat (first | exact Drawn0.refl _ | apply Drawn0.step)⟩
 ·rw [if_neg c2] at H
  have c2b0 : ((Int.tmod a0 4) == 0) = false := beq_eq_false_iff_ne.mpr c2
  have c2b1 : ((Int.tmod a0 4) != 0) = true := bne_iff_ne.mpr c2
  obtain rfl := Option.some.inj H
  go_enter Tryd.func137, Tryd.ntmps137
  go_wp2
  go_ret
  exact ⟨by first | rfl | (simp; done) | (simp [*]; done), by repeat (first | exact Drawn0.refl _ | apply Drawn0.step)⟩

end Go.Proofs.YtolhlaadhfilnaaDoor.PForecastExtends
