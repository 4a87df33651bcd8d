/- The walks of the functions of this part, laid closer by a program of mine. -/
-- The walks of the law's functions, told by a program.
import Derived.Test.YtolhlaadhfilnaaDoorY
import Derived.Test.YtolhlaadhfilnaaDoorPForecastExtendsx0
import Derived.Test.YtolhlaadhfilnaaDoorPForecastExtendsx14
namespace Go.Proofs.YtolhlaadhfilnaaDoor.PForecastExtends
open Go.RowKit Go.Proofs.YtolhlaadhfilnaaDoorW.PrintWords Go.Proofs.YtolhlaadhfilnaaDoorW.PrintLast Go.Proofs.YtolhlaadhfilnaaDoorW.PrintMore Go.Proofs.YtolhlaadhfilnaaDoor.Y
attribute [local go_sem] max2_int min2_int max_two min_two max_three min_three max_four min_four   -- for this text's walks alone
set_option linter.unusedVariables false
set_option linter.unusedSimpArgs false

/-! ### ephemerisref1_ZoneYear: function 22 -/
def ephemerisref1_ZoneYear.l0 : Nat → List (S92) → Int → Int → List (S43) → List (S92) → Int → Int → Option ((List (S43)))
 | 0, _, _, _, _, _, _, _ => none
 | k + 1, x0, x1, x2, x7, x10, x11, x12 => if x12 < x11 then (if 0 ≤ x12 then (if x12 < (x10.length : Int) then (if x12 > 0 then (if 0 ≤ (wrap64 (x12 - 1)) then (if (wrap64 (x12 - 1)) < (x0.length : Int) then ((ephemerisref1_ZoneRuleDay.f k ((rd_T92 x10 x12).f0) ((rd_T92 x10 x12).f1) ((rd_T92 x10 x12).f2) ((rd_T92 x10 x12).f3) ((rd_T92 x10 x12).f4) ((rd_T92 x10 x12).f5) x2).bind fun t258 => (if x7.length < 4398046511104 then (ephemerisref1_ZoneYear.l0 k x0 ((rd_T92 x0 (wrap64 (x12 - 1))).f4) x2 (x7 ++ [(⟨wrap64 ((wrap64 ((wrap64 (t258 * 86400000)) + ((rd_T92 x10 x12).f3))) - ((rd_T92 x0 (wrap64 (x12 - 1))).f4)), (rd_T92 x10 x12).f4, (rd_T92 x10 x12).f5⟩ : S43)]) x10 x11 (wrap64 (x12 + 1))) else (none))) else (none)) else (none)) else ((ephemerisref1_ZoneRuleDay.f k ((rd_T92 x10 x12).f0) ((rd_T92 x10 x12).f1) ((rd_T92 x10 x12).f2) ((rd_T92 x10 x12).f3) ((rd_T92 x10 x12).f4) ((rd_T92 x10 x12).f5) x2).bind fun t262 => (if x7.length < 4398046511104 then (ephemerisref1_ZoneYear.l0 k x0 x1 x2 (x7 ++ [(⟨wrap64 ((wrap64 ((wrap64 (t262 * 86400000)) + ((rd_T92 x10 x12).f3))) - x1), (rd_T92 x10 x12).f4, (rd_T92 x10 x12).f5⟩ : S43)]) x10 x11 (wrap64 (x12 + 1))) else (none)))) else (none)) else (none)) else (some x7)
def ephemerisref1_ZoneYear.f (k : Nat) (l0 : List (S92)) (a1 : Int) (a2 : Int) : Option ((List (S43))) := ephemerisref1_ZoneYear.l0 k l0 a1 a2 ([] : List (S43)) l0 (l0.length : Int) 0
theorem ephemerisref1_ZoneYear.mono_l : ∀ k, (∀ y0 y1 y2 y3 y4 y5 y6, LeO (ephemerisref1_ZoneYear.l0 k y0 y1 y2 y3 y4 y5 y6) (ephemerisref1_ZoneYear.l0 (k + 1) y0 y1 y2 y3 y4 y5 y6))
 | 0 => fun _ _ _ _ _ _ _ r h => by simp [ephemerisref1_ZoneYear.l0] at h
 | k + 1 => by
  have ih0 := ephemerisref1_ZoneYear.mono_l k
  ·intro y0 y1 y2 y3 y4 y5 y6
   unfold ephemerisref1_ZoneYear.l0
   repeat' first
   | (with_reducible exact ih0 _ _ _ _ _ _ _)
   | (with_reducible exact ephemerisref1_ZoneRuleDay.mono _ _ _ _ _ _ _ _)
   | (with_reducible exact LeO.refl _)
   | (with_reducible exact LeO.none _)
   | (with_reducible refine LeO.ite ?_ ?_)
   | (with_reducible refine LeO.bind ?_ (fun _ => ?_))
   | exact ih0 _ _ _ _ _ _ _
   | exact ephemerisref1_ZoneRuleDay.mono _ _ _ _ _ _ _ _
   | exact LeO.none _
   | refine LeO.ite ?_ ?_
   | refine LeO.bind ?_ (fun _ => ?_)
theorem ephemerisref1_ZoneYear.mono : ∀ a0 a1 a2 k, LeO (ephemerisref1_ZoneYear.f k a0 a1 a2) (ephemerisref1_ZoneYear.f (k + 1) a0 a1 a2) := by
 intro a0 a1 a2 k
 have ih0 := ephemerisref1_ZoneYear.mono_l k
 unfold ephemerisref1_ZoneYear.f
 repeat' first
   | (with_reducible exact ih0 _ _ _ _ _ _ _)
   | (with_reducible exact ephemerisref1_ZoneRuleDay.mono _ _ _ _ _ _ _ _)
   | (with_reducible exact LeO.refl _)
   | (with_reducible exact LeO.none _)
   | (with_reducible refine LeO.ite ?_ ?_)
   | (with_reducible refine LeO.bind ?_ (fun _ => ?_))
   | exact ih0 _ _ _ _ _ _ _
   | exact ephemerisref1_ZoneRuleDay.mono _ _ _ _ _ _ _ _
   | exact LeO.none _
   | refine LeO.ite ?_ ?_
   | refine LeO.bind ?_ (fun _ => ?_)
def ephemerisref1_ZoneYear.T7 : Bool × List (List Nat × List Nat) := (true, [([], []), ([], []), ([], []), ([1, 2], [1, 2]), ([3], [3]), ([], []), ([5], [5]), ([4, 6], [4, 6]), ([], []), ([7, 8], [7, 8]), ([], []), ([10], [10]), ([], []), ([12], [12]), ([9, 11, 13], [9, 11, 13]), ([14], [14]), ([0, 15, 3], [0, 15]), ([16, 16, 0, 1, 2, 3, 4, 5, 6, 7, 8, 9, 10, 11, 12, 13, 14, 15, 16], [0, 16])])
def ephemerisref1_ZoneYear.B7 : List Nat := [0, 0, 0, 6, 14, 0, 32, 126, 0, 510, 0, 1024, 0, 4096, 16382, 32766, 65535, 131071]
theorem ephemerisref1_ZoneYear.tab7 : rtab .any (opsOf Tryd.f22 7) = ephemerisref1_ZoneYear.T7 := by kernel_rfl
theorem ephemerisref1_ZoneYear.bits7 : waitsOk ephemerisref1_ZoneYear.T7.2 ephemerisref1_ZoneYear.B7 = true := by kernel_rfl
set_option maxHeartbeats 8000000 in
set_option maxRecDepth 100000 in
theorem ephemerisref1_ZoneYear.calls (k : Nat) (A0 : Option Addr) (c0 : Nat) (l0 : List (S92)) (a1 : Int) (a2 : Int) (r : List (S43)) (w : World) (hr0 : Kd.C k92 w A0 l0.length l0) (hc0 : l0.length ≤ c0) (h : ephemerisref1_ZoneYear.f k l0 a1 a2 = some r) :
  Calls Tryd.prog 22 #[.slice A0 l0.length c0, .int .i64 a1, .int .i64 a2] w fun e w' => ∃ v0_ : Value, e = .returned (v0_) ∧ Kd.R k43 43 w' w.heap.size (fun _ => True) v0_ r ∧ Below w.heap.size w w' := by
 have hu92 := Tryd.underlying92
 have hu43 := Tryd.underlying43
 have HR0 := Aside0.mk hr0
 have HC0 := Aside0.mk hc0
 clear hr0 hc0
 have HB := Aside0.mk (Below.refl w.heap.size w)
 have H : (ephemerisref1_ZoneYear.l0 k l0 a1 a2 ([] : List (S43)) l0 (l0.length : Int) 0) = some r := h
 clear h
 have H' := Aside0.mk H
 clear H
 go_enter Tryd.func22, Tryd.ntmps22
 go_wp2
 go_loopg [1, 7, 12] k (fun kq v1 v7 v12 w' => ∃ (x1_1 : Int) (x7_1 : List (S43)) (x12_1 : Int), v1 = .int .i64 x1_1 ∧ v12 = .int .i64 x12_1 ∧ Aside0 (ephemerisref1_ZoneYear.l0 kq l0 x1_1 a2 x7_1 l0 (l0.length : Int) x12_1 = some r) ∧ Aside0 (kq ≤ k) ∧ Aside0 (Kd.R k43 43 w' w.heap.size (fun _ => True) v7 x7_1) ∧ Aside0 (Below w.heap.size w w'))
 case atStart => exact ⟨(a1), (([] : List (S43))), (0), rs, rs, H', ⟨Nat.le_refl _⟩, ⟨by first | exact Kd.R_nil _ _ _ _ _ | exact Kd.N_nil _ _ _ _ _ | exact Kd.V_nil _ _ _ _ _ | exact Kd.Q_nil _ _ _ _ _ | exact Kd.S_nil _ _ _ _ _⟩, ⟨be⟩⟩
 case round =>
  clear H'
  (try clear c2); (try clear p2)
  obtain ⟨x1_1, x7_1, x12_1, rfl, rfl, HA, HK1, HO_7, HB⟩ := hrel
  cases gk with
  | zero => exact absurd HA.out (by simp [ephemerisref1_ZoneYear.l0])
  | succ k1 =>
   have H := HA.out
   clear HA
   simp only [ephemerisref1_ZoneYear.l0] at H
   by_cases c4 : x12_1 < (l0.length : Int)
   ·rw [if_pos c4] at H
    have c4b0 : decide (x12_1 < (l0.length : Int)) = true := decide_eq_true c4
    clear c4
    by_cases c5 : 0 ≤ x12_1
    ·rw [if_pos c5] at H
     have c5b0 : decide (0 ≤ x12_1) = true := decide_eq_true c5
     clear c5
     by_cases c6 : x12_1 < (l0.length : Int)
     ·rw [if_pos c6] at H
      have c6b0 : decide (x12_1 < (l0.length : Int)) = true := decide_eq_true c6
      clear c6
      by_cases c7 : x12_1 > 0
      ·rw [if_pos c7] at H
       have c7b0 : decide (0 < x12_1) = true := decide_eq_true c7
       clear c7
       obtain ⟨ji8, hji8⟩ : ∃ j_ : Int, (wrap64 (x12_1 - 1)) = j_ := ⟨_, rfl⟩
       replace H : (if 0 ≤ (ji8) then (if (ji8) < (l0.length : Int) then ((ephemerisref1_ZoneRuleDay.f k1 ((rd_T92 l0 x12_1).f0) ((rd_T92 l0 x12_1).f1) ((rd_T92 l0 x12_1).f2) ((rd_T92 l0 x12_1).f3) ((rd_T92 l0 x12_1).f4) ((rd_T92 l0 x12_1).f5) a2).bind fun t258 => (if x7_1.length < 4398046511104 then (ephemerisref1_ZoneYear.l0 k1 l0 ((rd_T92 l0 (ji8)).f4) a2 (x7_1 ++ [(⟨wrap64 ((wrap64 ((wrap64 (t258 * 86400000)) + ((rd_T92 l0 x12_1).f3))) - ((rd_T92 l0 (ji8)).f4)), (rd_T92 l0 x12_1).f4, (rd_T92 l0 x12_1).f5⟩ : S43)]) l0 (l0.length : Int) (wrap64 (x12_1 + 1))) else (none))) else (none)) else (none)) = some r := by first | (rw [hji8] at H; exact H) | (simp only [hji8] at H ⊢; exact H)
       have hji8w : (IntKind.i64.wrap (x12_1 - 1)) = ji8 := (i64_w _).trans hji8
       by_cases c9 : 0 ≤ (ji8)
       ·rw [if_pos c9] at H
        have c9b0 : decide (0 ≤ (ji8)) = true := decide_eq_true c9
        clear c9
        by_cases c10 : (ji8) < (l0.length : Int)
        ·rw [if_pos c10] at H
         have c10b0 : decide ((ji8) < (l0.length : Int)) = true := decide_eq_true c10
         clear c10
         replace H := Option.bind_eq_some_iff.mp H
         obtain ⟨t258, A110, H⟩ := H
         replace H : (if x7_1.length < 4398046511104 then (ephemerisref1_ZoneYear.l0 k1 l0 ((rd_T92 l0 (ji8)).f4) a2 (x7_1 ++ [(⟨wrap64 ((wrap64 ((wrap64 (t258 * 86400000)) + ((rd_T92 l0 x12_1).f3))) - ((rd_T92 l0 (ji8)).f4)), (rd_T92 l0 x12_1).f4, (rd_T92 l0 x12_1).f5⟩ : S43)]) l0 (l0.length : Int) (wrap64 (x12_1 + 1))) else (none)) = some r := H
         have A11 := Aside0.mk A110
         clear A110
         by_cases c12 : x7_1.length < 4398046511104
         ·rw [if_pos c12] at H
          have LMc12 := Aside0.mk c12
          clear c12
          obtain ⟨y259, hy259⟩ : ∃ y_ : List (S43), y_ = (x7_1 ++ [(⟨wrap64 ((wrap64 ((wrap64 (t258 * 86400000)) + ((rd_T92 l0 x12_1).f3))) - ((rd_T92 l0 (ji8)).f4)), (rd_T92 l0 x12_1).f4, (rd_T92 l0 x12_1).f5⟩ : S43)]) := ⟨_, rfl⟩
          replace H : (ephemerisref1_ZoneYear.l0 k1 l0 ((rd_T92 l0 (ji8)).f4) a2 y259 l0 (l0.length : Int) (wrap64 (x12_1 + 1))) = some r := rp hy259 H
          have Ny259 := Aside0.mk hy259
          clear hy259
          have H' := Aside0.mk H
          clear H
          have p255 : 0 ≤ (x12_1 : Int) := of_decide_eq_true ka
          have q255 : x12_1 < (l0.length : Int) := of_decide_eq_true ka
          obtain ⟨ad255, e255, hx255_0, hx255_1, hx255_2, hx255_3, hx255_4, hx255_5⟩ := at_T92 HR0.out x12_1 p255 q255
          cases e255
          replace hx255_0 := (HB.out.cell (World.block_lt_of_cell? w _ hx255_0)).trans hx255_0
          replace hx255_1 := (HB.out.cell (World.block_lt_of_cell? w _ hx255_1)).trans hx255_1
          replace hx255_2 := (HB.out.cell (World.block_lt_of_cell? w _ hx255_2)).trans hx255_2
          replace hx255_3 := (HB.out.cell (World.block_lt_of_cell? w _ hx255_3)).trans hx255_3
          replace hx255_4 := (HB.out.cell (World.block_lt_of_cell? w _ hx255_4)).trans hx255_4
          replace hx255_5 := (HB.out.cell (World.block_lt_of_cell? w _ hx255_5)).trans hx255_5
          replace p255 := eq_true p255
          replace q255 := eq_true q255
          try go_wp2_with (first | ((with_reducible refine gate_dst (N := 9) rfl ?_); refine box_event ?hg (N := 9) ?hd (cs := #[.int .i64 0, .int .i64 0, .int .i64 0, .int .i64 0, .int .i64 0, .string (⟨#[]⟩ : ByteArray)]) (t := 92) ?hr ?_; (case hd => rfl); (case hg => rfl); (case hr => first | (go_simp; done) | (go_simp; rfl)); intro gb256 hg w13 hbox hb; have n0_ := Aside0.mk (Kd.R_below (by (with_reducible repeat (first | apply Kd.R_alloc | apply Kd.R_drewN | apply Kd.R_drew)); exact HO_7.out) hb); have n1_ := Aside0.mk (below_step be hb); have n2_ := Aside0.mk (hbox); have n3_ := gs hg HB; have n4_ := n3_; clear HO_7; clear HB; have HO_7 := n0_; have HB := n1_; have BK256 := n2_; have GW256 := n3_; have GE256 := n4_; clear n0_ n1_ n2_ n3_ n4_; clear hb hbox hg; obtain ⟨hcz14_0, hcz14_1, hcz14_2, hcz14_3, hcz14_4, hcz14_5, hfz14_0, hfz14_1, hfz14_2, hfz14_3, hfz14_4, hfz14_5⟩ := bc6 BK256; have p257 : 0 ≤ ((ji8) : Int) := of_decide_eq_true ka; have q257 : (ji8) < (l0.length : Int) := of_decide_eq_true ka; obtain ⟨ad257, e257, hx257_0, hx257_1, hx257_2, hx257_3, hx257_4, hx257_5⟩ := at_T92 HR0.out (ji8) p257 q257; obtain rfl : ad255 = ad257 := (by injection e257); have hn257_0 : ad255.block ≠ gb256 := Nat.ne_of_lt (Nat.lt_of_lt_of_le (by have := World.block_lt_of_cell? _ _ hx257_0; first | rwa [add_block] at this | exact this) GW256.out); have hn257_1 : ad255.block ≠ gb256 := Nat.ne_of_lt (Nat.lt_of_lt_of_le (by have := World.block_lt_of_cell? _ _ hx257_0; first | rwa [add_block] at this | exact this) GW256.out); have hn257_2 : ad255.block ≠ gb256 := Nat.ne_of_lt (Nat.lt_of_lt_of_le (by have := World.block_lt_of_cell? _ _ hx257_0; first | rwa [add_block] at this | exact this) GW256.out); have hn257_3 : ad255.block ≠ gb256 := Nat.ne_of_lt (Nat.lt_of_lt_of_le (by have := World.block_lt_of_cell? _ _ hx257_0; first | rwa [add_block] at this | exact this) GW256.out); have hn257_4 : ad255.block ≠ gb256 := Nat.ne_of_lt (Nat.lt_of_lt_of_le (by have := World.block_lt_of_cell? _ _ hx257_0; first | rwa [add_block] at this | exact this) GW256.out); have hn257_5 : ad255.block ≠ gb256 := Nat.ne_of_lt (Nat.lt_of_lt_of_le (by have := World.block_lt_of_cell? _ _ hx257_0; first | rwa [add_block] at this | exact this) GW256.out); replace hx257_0 := (HB.out.cell (World.block_lt_of_cell? w _ hx257_0)).trans hx257_0; replace hx257_1 := (HB.out.cell (World.block_lt_of_cell? w _ hx257_1)).trans hx257_1; replace hx257_2 := (HB.out.cell (World.block_lt_of_cell? w _ hx257_2)).trans hx257_2; replace hx257_3 := (HB.out.cell (World.block_lt_of_cell? w _ hx257_3)).trans hx257_3; replace hx257_4 := (HB.out.cell (World.block_lt_of_cell? w _ hx257_4)).trans hx257_4; replace hx257_5 := (HB.out.cell (World.block_lt_of_cell? w _ hx257_5)).trans hx257_5; replace hx257_0 := (cell_far (p := ⟨gb256, 0, none⟩) (by first | (rw [add_block]; exact hn257_0) | (show (Addr.add _ _).block ≠ _; rw [add_block]; exact hn257_0) | exact hn257_0) (.int .i64 ((rd_T92 l0 x12_1).f0))).trans hx257_0; replace hx257_1 := (cell_far (p := ⟨gb256, 0, none⟩) (by first | (rw [add_block]; exact hn257_0) | (show (Addr.add _ _).block ≠ _; rw [add_block]; exact hn257_0) | exact hn257_0) (.int .i64 ((rd_T92 l0 x12_1).f0))).trans hx257_1; replace hx257_2 := (cell_far (p := ⟨gb256, 0, none⟩) (by first | (rw [add_block]; exact hn257_0) | (show (Addr.add _ _).block ≠ _; rw [add_block]; exact hn257_0) | exact hn257_0) (.int .i64 ((rd_T92 l0 x12_1).f0))).trans hx257_2; replace hx257_3 := (cell_far (p := ⟨gb256, 0, none⟩) (by first | (rw [add_block]; exact hn257_0) | (show (Addr.add _ _).block ≠ _; rw [add_block]; exact hn257_0) | exact hn257_0) (.int .i64 ((rd_T92 l0 x12_1).f0))).trans hx257_3; replace hx257_4 := (cell_far (p := ⟨gb256, 0, none⟩) (by first | (rw [add_block]; exact hn257_0) | (show (Addr.add _ _).block ≠ _; rw [add_block]; exact hn257_0) | exact hn257_0) (.int .i64 ((rd_T92 l0 x12_1).f0))).trans hx257_4; replace hx257_5 := (cell_far (p := ⟨gb256, 0, none⟩) (by first | (rw [add_block]; exact hn257_0) | (show (Addr.add _ _).block ≠ _; rw [add_block]; exact hn257_0) | exact hn257_0) (.int .i64 ((rd_T92 l0 x12_1).f0))).trans hx257_5; replace hx257_0 := (cell_far (p := ⟨gb256, 1, none⟩) (by first | (rw [add_block]; exact hn257_1) | (show (Addr.add _ _).block ≠ _; rw [add_block]; exact hn257_1) | exact hn257_1) (.int .i64 ((rd_T92 l0 x12_1).f1))).trans hx257_0; replace hx257_1 := (cell_far (p := ⟨gb256, 1, none⟩) (by first | (rw [add_block]; exact hn257_1) | (show (Addr.add _ _).block ≠ _; rw [add_block]; exact hn257_1) | exact hn257_1) (.int .i64 ((rd_T92 l0 x12_1).f1))).trans hx257_1; replace hx257_2 := (cell_far (p := ⟨gb256, 1, none⟩) (by first | (rw [add_block]; exact hn257_1) | (show (Addr.add _ _).block ≠ _; rw [add_block]; exact hn257_1) | exact hn257_1) (.int .i64 ((rd_T92 l0 x12_1).f1))).trans hx257_2; replace hx257_3 := (cell_far (p := ⟨gb256, 1, none⟩) (by first | (rw [add_block]; exact hn257_1) | (show (Addr.add _ _).block ≠ _; rw [add_block]; exact hn257_1) | exact hn257_1) (.int .i64 ((rd_T92 l0 x12_1).f1))).trans hx257_3; replace hx257_4 := (cell_far (p := ⟨gb256, 1, none⟩) (by first | (rw [add_block]; exact hn257_1) | (show (Addr.add _ _).block ≠ _; rw [add_block]; exact hn257_1) | exact hn257_1) (.int .i64 ((rd_T92 l0 x12_1).f1))).trans hx257_4; replace hx257_5 := (cell_far (p := ⟨gb256, 1, none⟩) (by first | (rw [add_block]; exact hn257_1) | (show (Addr.add _ _).block ≠ _; rw [add_block]; exact hn257_1) | exact hn257_1) (.int .i64 ((rd_T92 l0 x12_1).f1))).trans hx257_5; replace hx257_0 := (cell_far (p := ⟨gb256, 2, none⟩) (by first | (rw [add_block]; exact hn257_2) | (show (Addr.add _ _).block ≠ _; rw [add_block]; exact hn257_2) | exact hn257_2) (.int .i64 ((rd_T92 l0 x12_1).f2))).trans hx257_0; replace hx257_1 := (cell_far (p := ⟨gb256, 2, none⟩) (by first | (rw [add_block]; exact hn257_2) | (show (Addr.add _ _).block ≠ _; rw [add_block]; exact hn257_2) | exact hn257_2) (.int .i64 ((rd_T92 l0 x12_1).f2))).trans hx257_1; replace hx257_2 := (cell_far (p := ⟨gb256, 2, none⟩) (by first | (rw [add_block]; exact hn257_2) | (show (Addr.add _ _).block ≠ _; rw [add_block]; exact hn257_2) | exact hn257_2) (.int .i64 ((rd_T92 l0 x12_1).f2))).trans hx257_2; replace hx257_3 := (cell_far (p := ⟨gb256, 2, none⟩) (by first | (rw [add_block]; exact hn257_2) | (show (Addr.add _ _).block ≠ _; rw [add_block]; exact hn257_2) | exact hn257_2) (.int .i64 ((rd_T92 l0 x12_1).f2))).trans hx257_3; replace hx257_4 := (cell_far (p := ⟨gb256, 2, none⟩) (by first | (rw [add_block]; exact hn257_2) | (show (Addr.add _ _).block ≠ _; rw [add_block]; exact hn257_2) | exact hn257_2) (.int .i64 ((rd_T92 l0 x12_1).f2))).trans hx257_4; replace hx257_5 := (cell_far (p := ⟨gb256, 2, none⟩) (by first | (rw [add_block]; exact hn257_2) | (show (Addr.add _ _).block ≠ _; rw [add_block]; exact hn257_2) | exact hn257_2) (.int .i64 ((rd_T92 l0 x12_1).f2))).trans hx257_5; replace hx257_0 := (cell_far (p := ⟨gb256, 3, none⟩) (by first | (rw [add_block]; exact hn257_3) | (show (Addr.add _ _).block ≠ _; rw [add_block]; exact hn257_3) | exact hn257_3) (.int .i64 ((rd_T92 l0 x12_1).f3))).trans hx257_0; replace hx257_1 := (cell_far (p := ⟨gb256, 3, none⟩) (by first | (rw [add_block]; exact hn257_3) | (show (Addr.add _ _).block ≠ _; rw [add_block]; exact hn257_3) | exact hn257_3) (.int .i64 ((rd_T92 l0 x12_1).f3))).trans hx257_1; replace hx257_2 := (cell_far (p := ⟨gb256, 3, none⟩) (by first | (rw [add_block]; exact hn257_3) | (show (Addr.add _ _).block ≠ _; rw [add_block]; exact hn257_3) | exact hn257_3) (.int .i64 ((rd_T92 l0 x12_1).f3))).trans hx257_2; replace hx257_3 := (cell_far (p := ⟨gb256, 3, none⟩) (by first | (rw [add_block]; exact hn257_3) | (show (Addr.add _ _).block ≠ _; rw [add_block]; exact hn257_3) | exact hn257_3) (.int .i64 ((rd_T92 l0 x12_1).f3))).trans hx257_3; replace hx257_4 := (cell_far (p := ⟨gb256, 3, none⟩) (by first | (rw [add_block]; exact hn257_3) | (show (Addr.add _ _).block ≠ _; rw [add_block]; exact hn257_3) | exact hn257_3) (.int .i64 ((rd_T92 l0 x12_1).f3))).trans hx257_4; replace hx257_5 := (cell_far (p := ⟨gb256, 3, none⟩) (by first | (rw [add_block]; exact hn257_3) | (show (Addr.add _ _).block ≠ _; rw [add_block]; exact hn257_3) | exact hn257_3) (.int .i64 ((rd_T92 l0 x12_1).f3))).trans hx257_5; replace hx257_0 := (cell_far (p := ⟨gb256, 4, none⟩) (by first | (rw [add_block]; exact hn257_4) | (show (Addr.add _ _).block ≠ _; rw [add_block]; exact hn257_4) | exact hn257_4) (.int .i64 ((rd_T92 l0 x12_1).f4))).trans hx257_0; replace hx257_1 := (cell_far (p := ⟨gb256, 4, none⟩) (by first | (rw [add_block]; exact hn257_4) | (show (Addr.add _ _).block ≠ _; rw [add_block]; exact hn257_4) | exact hn257_4) (.int .i64 ((rd_T92 l0 x12_1).f4))).trans hx257_1; replace hx257_2 := (cell_far (p := ⟨gb256, 4, none⟩) (by first | (rw [add_block]; exact hn257_4) | (show (Addr.add _ _).block ≠ _; rw [add_block]; exact hn257_4) | exact hn257_4) (.int .i64 ((rd_T92 l0 x12_1).f4))).trans hx257_2; replace hx257_3 := (cell_far (p := ⟨gb256, 4, none⟩) (by first | (rw [add_block]; exact hn257_4) | (show (Addr.add _ _).block ≠ _; rw [add_block]; exact hn257_4) | exact hn257_4) (.int .i64 ((rd_T92 l0 x12_1).f4))).trans hx257_3; replace hx257_4 := (cell_far (p := ⟨gb256, 4, none⟩) (by first | (rw [add_block]; exact hn257_4) | (show (Addr.add _ _).block ≠ _; rw [add_block]; exact hn257_4) | exact hn257_4) (.int .i64 ((rd_T92 l0 x12_1).f4))).trans hx257_4; replace hx257_5 := (cell_far (p := ⟨gb256, 4, none⟩) (by first | (rw [add_block]; exact hn257_4) | (show (Addr.add _ _).block ≠ _; rw [add_block]; exact hn257_4) | exact hn257_4) (.int .i64 ((rd_T92 l0 x12_1).f4))).trans hx257_5; replace hx257_0 := (cell_far (p := ⟨gb256, 5, none⟩) (by first | (rw [add_block]; exact hn257_5) | (show (Addr.add _ _).block ≠ _; rw [add_block]; exact hn257_5) | exact hn257_5) (.string ((rd_T92 l0 x12_1).f5))).trans hx257_0; replace hx257_1 := (cell_far (p := ⟨gb256, 5, none⟩) (by first | (rw [add_block]; exact hn257_5) | (show (Addr.add _ _).block ≠ _; rw [add_block]; exact hn257_5) | exact hn257_5) (.string ((rd_T92 l0 x12_1).f5))).trans hx257_1; replace hx257_2 := (cell_far (p := ⟨gb256, 5, none⟩) (by first | (rw [add_block]; exact hn257_5) | (show (Addr.add _ _).block ≠ _; rw [add_block]; exact hn257_5) | exact hn257_5) (.string ((rd_T92 l0 x12_1).f5))).trans hx257_2; replace hx257_3 := (cell_far (p := ⟨gb256, 5, none⟩) (by first | (rw [add_block]; exact hn257_5) | (show (Addr.add _ _).block ≠ _; rw [add_block]; exact hn257_5) | exact hn257_5) (.string ((rd_T92 l0 x12_1).f5))).trans hx257_3; replace hx257_4 := (cell_far (p := ⟨gb256, 5, none⟩) (by first | (rw [add_block]; exact hn257_5) | (show (Addr.add _ _).block ≠ _; rw [add_block]; exact hn257_5) | exact hn257_5) (.string ((rd_T92 l0 x12_1).f5))).trans hx257_4; replace hx257_5 := (cell_far (p := ⟨gb256, 5, none⟩) (by first | (rw [add_block]; exact hn257_5) | (show (Addr.add _ _).block ≠ _; rw [add_block]; exact hn257_5) | exact hn257_5) (.string ((rd_T92 l0 x12_1).f5))).trans hx257_5; clear hn257_0; clear hn257_1; clear hn257_2; clear hn257_3; clear hn257_4; clear hn257_5; replace p257 := eq_true p257; replace q257 := eq_true q257))
          have n0_ : Aside0 (Kd.R k43 43 ((((((w13.setCell ⟨gb256, 0, none⟩ (.int .i64 ((rd_T92 l0 x12_1).f0))).setCell ⟨gb256, 1, none⟩ (.int .i64 ((rd_T92 l0 x12_1).f1))).setCell ⟨gb256, 2, none⟩ (.int .i64 ((rd_T92 l0 x12_1).f2))).setCell ⟨gb256, 3, none⟩ (.int .i64 ((rd_T92 l0 x12_1).f3))).setCell ⟨gb256, 4, none⟩ (.int .i64 ((rd_T92 l0 x12_1).f4))).setCell ⟨gb256, 5, none⟩ (.string ((rd_T92 l0 x12_1).f5))) w.heap.size (fun _ => True) u7 x7_1) := ⟨by (with_reducible repeat (first | apply Kd.R_alloc | apply Kd.R_drewN | apply Kd.R_drew)); exact Kd.R_mono (Kd.R_far (p := ⟨gb256, 5, none⟩) (Kd.R_far (p := ⟨gb256, 4, none⟩) (Kd.R_far (p := ⟨gb256, 3, none⟩) (Kd.R_far (p := ⟨gb256, 2, none⟩) (Kd.R_far (p := ⟨gb256, 1, none⟩) (Kd.R_far (p := ⟨gb256, 0, none⟩) (Kd.R_types HO_7.out BK256.out (by decide)) (fun _ hk => hk.2) (.int .i64 ((rd_T92 l0 x12_1).f0))) (fun _ hk => hk.2) (.int .i64 ((rd_T92 l0 x12_1).f1))) (fun _ hk => hk.2) (.int .i64 ((rd_T92 l0 x12_1).f2))) (fun _ hk => hk.2) (.int .i64 ((rd_T92 l0 x12_1).f3))) (fun _ hk => hk.2) (.int .i64 ((rd_T92 l0 x12_1).f4))) (fun _ hk => hk.2) (.string ((rd_T92 l0 x12_1).f5))) (fun _ hk => trivial)⟩
          have n1_ : Aside0 (((((((w13.setCell ⟨gb256, 0, none⟩ (.int .i64 ((rd_T92 l0 x12_1).f0))).setCell ⟨gb256, 1, none⟩ (.int .i64 ((rd_T92 l0 x12_1).f1))).setCell ⟨gb256, 2, none⟩ (.int .i64 ((rd_T92 l0 x12_1).f2))).setCell ⟨gb256, 3, none⟩ (.int .i64 ((rd_T92 l0 x12_1).f3))).setCell ⟨gb256, 4, none⟩ (.int .i64 ((rd_T92 l0 x12_1).f4))).setCell ⟨gb256, 5, none⟩ (.string ((rd_T92 l0 x12_1).f5))).heap[gb256]? = some (.cells #[.int .i64 ((rd_T92 l0 x12_1).f0), .int .i64 ((rd_T92 l0 x12_1).f1), .int .i64 ((rd_T92 l0 x12_1).f2), .int .i64 ((rd_T92 l0 x12_1).f3), .int .i64 ((rd_T92 l0 x12_1).f4), .string ((rd_T92 l0 x12_1).f5)] 92 (0, 0))) := ⟨bk BK256⟩
          have n2_ : Aside0 (Below w.heap.size w ((((((w13.setCell ⟨gb256, 0, none⟩ (.int .i64 ((rd_T92 l0 x12_1).f0))).setCell ⟨gb256, 1, none⟩ (.int .i64 ((rd_T92 l0 x12_1).f1))).setCell ⟨gb256, 2, none⟩ (.int .i64 ((rd_T92 l0 x12_1).f2))).setCell ⟨gb256, 3, none⟩ (.int .i64 ((rd_T92 l0 x12_1).f3))).setCell ⟨gb256, 4, none⟩ (.int .i64 ((rd_T92 l0 x12_1).f4))).setCell ⟨gb256, 5, none⟩ (.string ((rd_T92 l0 x12_1).f5)))) := ⟨be⟩
          (try clear HO_7)
          (try clear BK256)
          (try clear HB)
          generalize ((((((w13.setCell ⟨gb256, 0, none⟩ (.int .i64 ((rd_T92 l0 x12_1).f0))).setCell ⟨gb256, 1, none⟩ (.int .i64 ((rd_T92 l0 x12_1).f1))).setCell ⟨gb256, 2, none⟩ (.int .i64 ((rd_T92 l0 x12_1).f2))).setCell ⟨gb256, 3, none⟩ (.int .i64 ((rd_T92 l0 x12_1).f3))).setCell ⟨gb256, 4, none⟩ (.int .i64 ((rd_T92 l0 x12_1).f4))).setCell ⟨gb256, 5, none⟩ (.string ((rd_T92 l0 x12_1).f5))) = w15 at n0_ n1_ n2_ ⊢
          have HO_7 := n0_
          have BK256 := n1_
          have HB := n2_
          clear n0_ n1_ n2_
          have n0_ := Aside0.mk (Kd.R_drew HO_7.out)
          have n1_ := Aside0.mk (blk_drew BK256.out)
          have n2_ := Aside0.mk (below_drew1 HB.out)
          clear HO_7
          clear BK256
          clear HB
          have HO_7 := n0_
          have BK256 := n1_
          have HB := n2_
          clear n0_ n1_ n2_
          refine start_ (n := 18) (S := fun w' => w'.cell? ⟨gb256, 0, none⟩ = some (.int .i64 ((rd_T92 l0 x12_1).f0)) ∧ w'.cell? ⟨gb256, 1, none⟩ = some (.int .i64 ((rd_T92 l0 x12_1).f1)) ∧ w'.cell? ⟨gb256, 2, none⟩ = some (.int .i64 ((rd_T92 l0 x12_1).f2)) ∧ w'.cell? ⟨gb256, 3, none⟩ = some (.int .i64 ((rd_T92 l0 x12_1).f3)) ∧ w'.cell? ⟨gb256, 4, none⟩ = some (.int .i64 ((rd_T92 l0 x12_1).f4)) ∧ w'.cell? ⟨gb256, 5, none⟩ = some (.string ((rd_T92 l0 x12_1).f5))) (ds := []) #[false, false, false, false, false, false, false, false, false, false, false, false, false, false, false, false, false, false] kx rfl rfl ⟨(blk_cell BK256.out 0).trans rfl, (blk_cell BK256.out 1).trans rfl, (blk_cell BK256.out 2).trans rfl, (blk_cell BK256.out 3).trans rfl, (blk_cell BK256.out 4).trans rfl, (blk_cell BK256.out 5).trans rfl⟩ (fun hHeld => ?_); refine with_tabW ephemerisref1_ZoneYear.tab7 ephemerisref1_ZoneYear.bits7 (fun HT_ HW_ => ?_)
          generalize w15.drew = w16 at HO_7 BK256 HB hHeld ⊢
          refine pure_ (i := 0) (N := some 25) (v := ?_) (a' := ?_) #[true, false, false, false, false, false, false, false, false, false, false, false, false, false, false, false, false, false] rfl rfl (any_of HT_.out kx) (fun _ _ _ h => h) (Or.inl ⟨by rfl, ?_⟩) ?_ ?_
          rotate_left
          ·intro w'
           go_simp
           with_reducible rfl
          rotate_left
          ·simp only [Act.put, List.setIfInBounds_toArray, List.set_cons_zero, List.set_cons_succ, i64_w, i32_w]
           rfl
          refine pure_ (i := 2) (N := some 27) (v := ?_) (a' := ?_) #[true, false, true, false, false, false, false, false, false, false, false, false, false, false, false, false, false, false] rfl rfl (any_of HT_.out kx) (fun _ _ _ h => h) (Or.inl ⟨by rfl, ?_⟩) ?_ ?_
          rotate_left
          ·intro w'
           go_simp
           with_reducible rfl
          rotate_left
          ·simp only [Act.put, List.setIfInBounds_toArray, List.set_cons_zero, List.set_cons_succ, i64_w, i32_w]
           rfl
          refine pure_ (i := 5) (N := some 30) (v := ?_) (a' := ?_) #[true, false, true, false, false, true, false, false, false, false, false, false, false, false, false, false, false, false] rfl rfl (any_of HT_.out kx) (fun _ _ _ h => h) (Or.inl ⟨by rfl, ?_⟩) ?_ ?_
          rotate_left
          ·intro w'
           go_simp
           with_reducible rfl
          rotate_left
          ·simp only [Act.put, List.setIfInBounds_toArray, List.set_cons_zero, List.set_cons_succ, i64_w, i32_w]
           rfl
          refine pure_ (i := 8) (N := some 33) (v := ?_) (a' := ?_) #[true, false, true, false, false, true, false, false, true, false, false, false, false, false, false, false, false, false] rfl rfl (any_of HT_.out kx) (fun _ _ _ h => h) (Or.inl ⟨by rfl, ?_⟩) ?_ ?_
          rotate_left
          ·intro w'
           go_simp
           with_reducible rfl
          rotate_left
          ·simp only [Act.put, List.setIfInBounds_toArray, List.set_cons_zero, List.set_cons_succ, i64_w, i32_w]
           rfl
          refine pure_ (i := 10) (N := some 35) (v := ?_) (a' := ?_) #[true, false, true, false, false, true, false, false, true, false, true, false, false, false, false, false, false, false] rfl rfl (any_of HT_.out kx) (fun _ _ _ h => h) (Or.inl ⟨by rfl, ?_⟩) ?_ ?_
          rotate_left
          ·intro w'
           go_simp
           with_reducible rfl
          rotate_left
          ·simp only [Act.put, List.setIfInBounds_toArray, List.set_cons_zero, List.set_cons_succ, i64_w, i32_w]
           rfl
          refine pure_ (i := 12) (N := some 37) (v := ?_) (a' := ?_) #[true, false, true, false, false, true, false, false, true, false, true, false, true, false, false, false, false, false] rfl rfl (any_of HT_.out kx) (fun _ _ _ h => h) (Or.inl ⟨by rfl, ?_⟩) ?_ ?_
          rotate_left
          ·intro w'
           go_simp
           with_reducible rfl
          rotate_left
          ·simp only [Act.put, List.setIfInBounds_toArray, List.set_cons_zero, List.set_cons_succ, i64_w, i32_w]
           rfl
          refine take_ (i := 1) (N := some 26) (v := ?_) (a' := ?_) #[true, true, true, false, false, true, false, false, true, false, true, false, true, false, false, false, false, false] rfl rfl (take_ofW HT_.out HW_.out kx) (fun _ _ _ h => h) (Or.inl ⟨by rfl, ?_⟩) hHeld ?_ ?_
          rotate_left
          ·rintro w' ⟨s0, s1, s2, s3, s4, s5⟩
           go_simp
           with_reducible rfl
          rotate_left
          ·simp only [Act.put, List.setIfInBounds_toArray, List.set_cons_zero, List.set_cons_succ, i64_w, i32_w]
           rfl
          refine take_ (i := 6) (N := some 31) (v := ?_) (a' := ?_) #[true, true, true, false, false, true, true, false, true, false, true, false, true, false, false, false, false, false] rfl rfl (take_ofW HT_.out HW_.out kx) (fun _ _ _ h => h) (Or.inl ⟨by rfl, ?_⟩) hHeld ?_ ?_
          rotate_left
          ·rintro w' ⟨s0, s1, s2, s3, s4, s5⟩
           go_simp
           with_reducible rfl
          rotate_left
          ·simp only [Act.put, List.setIfInBounds_toArray, List.set_cons_zero, List.set_cons_succ, i64_w, i32_w]
           rfl
          refine take_ (i := 11) (N := some 36) (v := ?_) (a' := ?_) #[true, true, true, false, false, true, true, false, true, false, true, true, true, false, false, false, false, false] rfl rfl (take_ofW HT_.out HW_.out kx) (fun _ _ _ h => h) (Or.inl ⟨by rfl, ?_⟩) hHeld ?_ ?_
          rotate_left
          ·rintro w' ⟨s0, s1, s2, s3, s4, s5⟩
           go_simp
           with_reducible rfl
          rotate_left
          ·simp only [Act.put, List.setIfInBounds_toArray, List.set_cons_zero, List.set_cons_succ, i64_w, i32_w]
           rfl
          refine take_ (i := 13) (N := some 38) (v := ?_) (a' := ?_) #[true, true, true, false, false, true, true, false, true, false, true, true, true, true, false, false, false, false] rfl rfl (take_ofW HT_.out HW_.out kx) (fun _ _ _ h => h) (Or.inl ⟨by rfl, ?_⟩) hHeld ?_ ?_
          rotate_left
          ·rintro w' ⟨s0, s1, s2, s3, s4, s5⟩
           go_simp
           with_reducible rfl
          rotate_left
          ·simp only [Act.put, List.setIfInBounds_toArray, List.set_cons_zero, List.set_cons_succ, i64_w, i32_w]
           rfl
          refine one_ (i := 3) (N := some 28) #[true, true, true, true, false, true, true, false, true, false, true, true, true, true, false, false, false, false] rfl rfl (one_of HT_.out kx) (by decide) (fun K hK => ?_)
          refine goes_ Tryd.func50 kx rfl #[.agg #[.int .i64 ((rd_T92 l0 x12_1).f0), .int .i64 ((rd_T92 l0 x12_1).f1), .int .i64 ((rd_T92 l0 x12_1).f2), .int .i64 ((rd_T92 l0 x12_1).f3), .int .i64 ((rd_T92 l0 x12_1).f4), .string ((rd_T92 l0 x12_1).f5)], .int .i64 a2] (by rfl) rfl rfl aa ?_
          with_reducible refine (ephemerisref1_ZoneRuleDay.calls k1 ((rd_T92 l0 x12_1).f0) ((rd_T92 l0 x12_1).f1) ((rd_T92 l0 x12_1).f2) ((rd_T92 l0 x12_1).f3) ((rd_T92 l0 x12_1).f4) ((rd_T92 l0 x12_1).f5) a2 t258 _ A11.out).mono ?_
          rintro e w17 ⟨rfl, hb⟩
          refine ⟨_, rfl, ?_⟩
          have n0_ := Aside0.mk (Kd.R_below (by (with_reducible repeat (first | apply Kd.R_alloc | apply Kd.R_drewN | apply Kd.R_drew)); exact HO_7.out) hb)
          have n1_ := bb BK256 hb
          have n2_ := Aside0.mk (below_step be hb)
          clear HO_7
          clear BK256
          clear HB
          have HO_7 := n0_
          have BK256 := n1_
          have HB := n2_
          clear n0_ n1_ n2_
          (try clear hb)
          (try clear hb2)
          (try clear hk)
          (try clear hi)
          refine hK.out _ _ ⟨(blk_cell BK256.out 0).trans rfl, (blk_cell BK256.out 1).trans rfl, (blk_cell BK256.out 2).trans rfl, (blk_cell BK256.out 3).trans rfl, (blk_cell BK256.out 4).trans rfl, (blk_cell BK256.out 5).trans rfl⟩ (fun hHeld => ?_)
          clear hK K
          refine norm_ (a' := ?_) ?_ ?_
          rotate_left
          ·show Act.put _ (some 28) _ = _
           simp only [Act.put, List.setIfInBounds_toArray, List.set_cons_zero, List.set_cons_succ, i64_w, i32_w]
           rfl
          refine pure_ (i := 4) (N := some 29) (v := ?_) (a' := ?_) #[true, true, true, true, true, true, true, false, true, false, true, true, true, true, false, false, false, false] rfl rfl (any_of HT_.out kx) (fun _ _ _ h => h) (Or.inl ⟨by rfl, ?_⟩) ?_ ?_
          rotate_left
          ·intro w'
           go_simp
           with_reducible rfl
          rotate_left
          ·simp only [Act.put, List.setIfInBounds_toArray, List.set_cons_zero, List.set_cons_succ, i64_w, i32_w]
           rfl
          refine pure_ (i := 7) (N := some 32) (v := ?_) (a' := ?_) #[true, true, true, true, true, true, true, true, true, false, true, true, true, true, false, false, false, false] rfl rfl (any_of HT_.out kx) (fun _ _ _ h => h) (Or.inl ⟨by rfl, ?_⟩) ?_ ?_
          rotate_left
          ·intro w'
           go_simp
           with_reducible rfl
          rotate_left
          ·simp only [Act.put, List.setIfInBounds_toArray, List.set_cons_zero, List.set_cons_succ, i64_w, i32_w]
           rfl
          refine pure_ (i := 9) (N := some 34) (v := ?_) (a' := ?_) #[true, true, true, true, true, true, true, true, true, true, true, true, true, true, false, false, false, false] rfl rfl (any_of HT_.out kx) (fun _ _ _ h => h) (Or.inl ⟨by rfl, ?_⟩) ?_ ?_
          rotate_left
          ·intro w'
           go_simp
           with_reducible rfl
          rotate_left
          ·simp only [Act.put, List.setIfInBounds_toArray, List.set_cons_zero, List.set_cons_succ, i64_w, i32_w]
           rfl
          refine pure_ (i := 14) (N := some 39) (v := ?_) (a' := ?_) #[true, true, true, true, true, true, true, true, true, true, true, true, true, true, true, false, false, false] rfl rfl (any_of HT_.out kx) (fun _ _ _ h => h) (Or.inl ⟨by rfl, ?_⟩) ?_ ?_
          rotate_left
          ·intro w'
           go_simp
           with_reducible rfl
          rotate_left
          ·simp only [Act.put, List.setIfInBounds_toArray, List.set_cons_zero, List.set_cons_succ, i64_w, i32_w]
           rfl
          refine one_ (i := 15) (N := some 40) #[true, true, true, true, true, true, true, true, true, true, true, true, true, true, true, true, false, false] rfl rfl (one_of HT_.out kx) (by decide) (fun K hK => ?_)
          refine value_ (w1 := ?_) (v := ?_) (by rfl) rfl ?_ ?_
          rotate_left 2
          ·go_simp
           constructor
           ·rfl
           ·rfl
          refine hK.out _ _ ⟨(blk_cell (blk_alloc BK256.out _) 0).trans rfl, (blk_cell (blk_alloc BK256.out _) 1).trans rfl, (blk_cell (blk_alloc BK256.out _) 2).trans rfl, (blk_cell (blk_alloc BK256.out _) 3).trans rfl, (blk_cell (blk_alloc BK256.out _) 4).trans rfl, (blk_cell (blk_alloc BK256.out _) 5).trans rfl⟩ (fun hHeld => ?_)
          clear hK K
          refine norm_ (a' := ?_) ?_ ?_
          rotate_left
          ·show Act.put _ (some 40) _ = _
           simp only [Act.put, List.setIfInBounds_toArray, List.set_cons_zero, List.set_cons_succ, i64_w, i32_w]
           rfl
          refine one_ (i := 16) (N := some 41) #[true, true, true, true, true, true, true, true, true, true, true, true, true, true, true, true, true, false] rfl rfl (one_of HT_.out kx) (by decide) (fun K hK => ?_)
          refine Kd.R_append_step k43 (w0 := w) w.heap.size (by rfl) (.tmp 25) (.tmp 40) 22 43 (.agg #[(.int .i64 0), (.int .i64 0), (.string ⟨#[]⟩)]) 32 rfl Tryd.underlying22 info43 rfl (by decide) (by omega) u7 x7_1 (⟨wrap64 ((wrap64 ((wrap64 (t258 * 86400000)) + ((rd_T92 l0 x12_1).f3))) - ((rd_T92 l0 (ji8)).f4)), (rd_T92 l0 x12_1).f4, (rd_T92 l0 x12_1).f5⟩ : S43) [.int .i64 (wrap64 ((wrap64 ((wrap64 (t258 * 86400000)) + ((rd_T92 l0 x12_1).f3))) - ((rd_T92 l0 (ji8)).f4))), .int .i64 ((rd_T92 l0 x12_1).f4), .string ((rd_T92 l0 x12_1).f5)] (fun _ => True) (fun _ => False) rfl rfl ?aP (fun _ hk => hk.elim) ?aF ?aO ?aB ?aS ?aL ?_
          (case aP => exact k43_mkM _ _ _ (⟨wrap64 ((wrap64 ((wrap64 (t258 * 86400000)) + ((rd_T92 l0 x12_1).f3))) - ((rd_T92 l0 (ji8)).f4)), (rd_T92 l0 x12_1).f4, (rd_T92 l0 x12_1).f5⟩ : S43))
          (case aB => exact be)
          (case aF => exact (fun _ _ => trivial))
          (case aO => exact (by (with_reducible repeat (first | apply Kd.R_alloc | apply Kd.R_drewN | apply Kd.R_drew)); exact HO_7.out))
          (case aS => exact (below_size be))
          (case aL => have := LMc12.out; omega)
          intro v260 w18 ho hb hg hat
          rw [← Ny259.out] at ho
          have n0_ := Aside0.mk (blk_grown (g := gb256) (o := .cells #[.int .i64 ((rd_T92 l0 x12_1).f0), .int .i64 ((rd_T92 l0 x12_1).f1), .int .i64 ((rd_T92 l0 x12_1).f2), .int .i64 ((rd_T92 l0 x12_1).f3), .int .i64 ((rd_T92 l0 x12_1).f4), .string ((rd_T92 l0 x12_1).f5)] 92 (0, 0)) (bk BK256) hg (Kd.R_ne HO_7.out BK256.out (by decide)))
          have n1_ := Aside0.mk (hb)
          have n2_ := Aside0.mk (ho)
          clear BK256
          clear HB
          clear HO_7
          have BK256 := n0_
          have HB := n1_
          have HO261 := n2_
          clear n0_ n1_ n2_
          clear ho hb hg hat
          refine hK.out _ _ ⟨(blk_cell BK256.out 0).trans rfl, (blk_cell BK256.out 1).trans rfl, (blk_cell BK256.out 2).trans rfl, (blk_cell BK256.out 3).trans rfl, (blk_cell BK256.out 4).trans rfl, (blk_cell BK256.out 5).trans rfl⟩ (fun hHeld => ?_)
          clear hK K
          refine norm_ (a' := ?_) ?_ ?_
          rotate_left
          ·show Act.put _ (some 41) _ = _
           simp only [Act.put, List.setIfInBounds_toArray, List.set_cons_zero, List.set_cons_succ, i64_w, i32_w]
           rfl
          refine pure_ (i := 17) (N := some 7) (v := ?_) (a' := ?_) #[true, true, true, true, true, true, true, true, true, true, true, true, true, true, true, true, true, true] rfl rfl (any_of HT_.out kx) (fun _ _ _ h => h) (Or.inl ⟨by rfl, ?_⟩) ?_ ?_
          rotate_left
          ·intro w'
           go_simp
           with_reducible rfl
          rotate_left
          ·simp only [Act.put, List.setIfInBounds_toArray, List.set_cons_zero, List.set_cons_succ, i64_w, i32_w]
           rfl
          refine done_ (done_of HT_.out kx) ?_
          try go_wp2
          go_roundg k1
          case measure => have := HK1.out; omega
          case rel => exact ⟨((rd_T92 l0 (ji8)).f4), (y259), (wrap64 (x12_1 + 1)), (by first | rfl | (simp; done) | (simp only [← hji8] <;> (first | rfl | simp)) | (simp [*]; done)), rs, H', ⟨by have := HK1.out; omega⟩, ⟨by (with_reducible repeat (first | apply Kd.R_alloc | apply Kd.R_drewN | apply Kd.R_drew)); exact HO261.out⟩, ⟨be⟩⟩
         ·rw [if_neg c12] at H
          exact absurd H (by simp)
        ·rw [if_neg c10] at H
         exact absurd H (by simp)
       ·rw [if_neg c9] at H
        exact absurd H (by simp)
      ·rw [if_neg c7] at H
       have c7b0 : decide (0 < x12_1) = false := decide_eq_false c7
       clear c7
       replace H := Option.bind_eq_some_iff.mp H
       obtain ⟨t262, A190, H⟩ := H
       replace H : (if x7_1.length < 4398046511104 then (ephemerisref1_ZoneYear.l0 k1 l0 x1_1 a2 (x7_1 ++ [(⟨wrap64 ((wrap64 ((wrap64 (t262 * 86400000)) + ((rd_T92 l0 x12_1).f3))) - x1_1), (rd_T92 l0 x12_1).f4, (rd_T92 l0 x12_1).f5⟩ : S43)]) l0 (l0.length : Int) (wrap64 (x12_1 + 1))) else (none)) = some r := H
       have A19 := Aside0.mk A190
       clear A190
       by_cases c20 : x7_1.length < 4398046511104
       ·rw [if_pos c20] at H
        have LMc20 := Aside0.mk c20
        clear c20
        obtain ⟨y263, hy263⟩ : ∃ y_ : List (S43), y_ = (x7_1 ++ [(⟨wrap64 ((wrap64 ((wrap64 (t262 * 86400000)) + ((rd_T92 l0 x12_1).f3))) - x1_1), (rd_T92 l0 x12_1).f4, (rd_T92 l0 x12_1).f5⟩ : S43)]) := ⟨_, rfl⟩
        replace H : (ephemerisref1_ZoneYear.l0 k1 l0 x1_1 a2 y263 l0 (l0.length : Int) (wrap64 (x12_1 + 1))) = some r := rp hy263 H
        have Ny263 := Aside0.mk hy263
        clear hy263
        have H' := Aside0.mk H
        clear H
        have p255 : 0 ≤ (x12_1 : Int) := of_decide_eq_true ka
        have q255 : x12_1 < (l0.length : Int) := of_decide_eq_true ka
        obtain ⟨ad255, e255, hx255_0, hx255_1, hx255_2, hx255_3, hx255_4, hx255_5⟩ := at_T92 HR0.out x12_1 p255 q255
        cases e255
        replace hx255_0 := (HB.out.cell (World.block_lt_of_cell? w _ hx255_0)).trans hx255_0
        replace hx255_1 := (HB.out.cell (World.block_lt_of_cell? w _ hx255_1)).trans hx255_1
        replace hx255_2 := (HB.out.cell (World.block_lt_of_cell? w _ hx255_2)).trans hx255_2
        replace hx255_3 := (HB.out.cell (World.block_lt_of_cell? w _ hx255_3)).trans hx255_3
        replace hx255_4 := (HB.out.cell (World.block_lt_of_cell? w _ hx255_4)).trans hx255_4
        replace hx255_5 := (HB.out.cell (World.block_lt_of_cell? w _ hx255_5)).trans hx255_5
        replace p255 := eq_true p255
        replace q255 := eq_true q255
        try go_wp2_with (first | ((with_reducible refine gate_dst (N := 9) rfl ?_); refine box_event ?hg (N := 9) ?hd (cs := #[.int .i64 0, .int .i64 0, .int .i64 0, .int .i64 0, .int .i64 0, .string (⟨#[]⟩ : ByteArray)]) (t := 92) ?hr ?_; (case hd => rfl); (case hg => rfl); (case hr => first | (go_simp; done) | (go_simp; rfl)); intro gb256 hg w21 hbox hb; have n0_ := Aside0.mk (Kd.R_below (by (with_reducible repeat (first | apply Kd.R_alloc | apply Kd.R_drewN | apply Kd.R_drew)); exact HO_7.out) hb); have n1_ := Aside0.mk (below_step be hb); have n2_ := Aside0.mk (hbox); have n3_ := gs hg HB; have n4_ := n3_; clear HO_7; clear HB; have HO_7 := n0_; have HB := n1_; have BK256 := n2_; have GW256 := n3_; have GE256 := n4_; clear n0_ n1_ n2_ n3_ n4_; clear hb hbox hg; obtain ⟨hcz22_0, hcz22_1, hcz22_2, hcz22_3, hcz22_4, hcz22_5, hfz22_0, hfz22_1, hfz22_2, hfz22_3, hfz22_4, hfz22_5⟩ := bc6 BK256))
        have n0_ : Aside0 (Kd.R k43 43 ((((((w21.setCell ⟨gb256, 0, none⟩ (.int .i64 ((rd_T92 l0 x12_1).f0))).setCell ⟨gb256, 1, none⟩ (.int .i64 ((rd_T92 l0 x12_1).f1))).setCell ⟨gb256, 2, none⟩ (.int .i64 ((rd_T92 l0 x12_1).f2))).setCell ⟨gb256, 3, none⟩ (.int .i64 ((rd_T92 l0 x12_1).f3))).setCell ⟨gb256, 4, none⟩ (.int .i64 ((rd_T92 l0 x12_1).f4))).setCell ⟨gb256, 5, none⟩ (.string ((rd_T92 l0 x12_1).f5))) w.heap.size (fun _ => True) u7 x7_1) := ⟨by (with_reducible repeat (first | apply Kd.R_alloc | apply Kd.R_drewN | apply Kd.R_drew)); exact Kd.R_mono (Kd.R_far (p := ⟨gb256, 5, none⟩) (Kd.R_far (p := ⟨gb256, 4, none⟩) (Kd.R_far (p := ⟨gb256, 3, none⟩) (Kd.R_far (p := ⟨gb256, 2, none⟩) (Kd.R_far (p := ⟨gb256, 1, none⟩) (Kd.R_far (p := ⟨gb256, 0, none⟩) (Kd.R_types HO_7.out BK256.out (by decide)) (fun _ hk => hk.2) (.int .i64 ((rd_T92 l0 x12_1).f0))) (fun _ hk => hk.2) (.int .i64 ((rd_T92 l0 x12_1).f1))) (fun _ hk => hk.2) (.int .i64 ((rd_T92 l0 x12_1).f2))) (fun _ hk => hk.2) (.int .i64 ((rd_T92 l0 x12_1).f3))) (fun _ hk => hk.2) (.int .i64 ((rd_T92 l0 x12_1).f4))) (fun _ hk => hk.2) (.string ((rd_T92 l0 x12_1).f5))) (fun _ hk => trivial)⟩
        have n1_ : Aside0 (((((((w21.setCell ⟨gb256, 0, none⟩ (.int .i64 ((rd_T92 l0 x12_1).f0))).setCell ⟨gb256, 1, none⟩ (.int .i64 ((rd_T92 l0 x12_1).f1))).setCell ⟨gb256, 2, none⟩ (.int .i64 ((rd_T92 l0 x12_1).f2))).setCell ⟨gb256, 3, none⟩ (.int .i64 ((rd_T92 l0 x12_1).f3))).setCell ⟨gb256, 4, none⟩ (.int .i64 ((rd_T92 l0 x12_1).f4))).setCell ⟨gb256, 5, none⟩ (.string ((rd_T92 l0 x12_1).f5))).heap[gb256]? = some (.cells #[.int .i64 ((rd_T92 l0 x12_1).f0), .int .i64 ((rd_T92 l0 x12_1).f1), .int .i64 ((rd_T92 l0 x12_1).f2), .int .i64 ((rd_T92 l0 x12_1).f3), .int .i64 ((rd_T92 l0 x12_1).f4), .string ((rd_T92 l0 x12_1).f5)] 92 (0, 0))) := ⟨bk BK256⟩
        have n2_ : Aside0 (Below w.heap.size w ((((((w21.setCell ⟨gb256, 0, none⟩ (.int .i64 ((rd_T92 l0 x12_1).f0))).setCell ⟨gb256, 1, none⟩ (.int .i64 ((rd_T92 l0 x12_1).f1))).setCell ⟨gb256, 2, none⟩ (.int .i64 ((rd_T92 l0 x12_1).f2))).setCell ⟨gb256, 3, none⟩ (.int .i64 ((rd_T92 l0 x12_1).f3))).setCell ⟨gb256, 4, none⟩ (.int .i64 ((rd_T92 l0 x12_1).f4))).setCell ⟨gb256, 5, none⟩ (.string ((rd_T92 l0 x12_1).f5)))) := ⟨be⟩
        (try clear HO_7)
        (try clear BK256)
        (try clear HB)
        generalize ((((((w21.setCell ⟨gb256, 0, none⟩ (.int .i64 ((rd_T92 l0 x12_1).f0))).setCell ⟨gb256, 1, none⟩ (.int .i64 ((rd_T92 l0 x12_1).f1))).setCell ⟨gb256, 2, none⟩ (.int .i64 ((rd_T92 l0 x12_1).f2))).setCell ⟨gb256, 3, none⟩ (.int .i64 ((rd_T92 l0 x12_1).f3))).setCell ⟨gb256, 4, none⟩ (.int .i64 ((rd_T92 l0 x12_1).f4))).setCell ⟨gb256, 5, none⟩ (.string ((rd_T92 l0 x12_1).f5))) = w23 at n0_ n1_ n2_ ⊢
        have HO_7 := n0_
        have BK256 := n1_
        have HB := n2_
        clear n0_ n1_ n2_
        have n0_ := Aside0.mk (Kd.R_drew HO_7.out)
        have n1_ := Aside0.mk (blk_drew BK256.out)
        have n2_ := Aside0.mk (below_drew1 HB.out)
        clear HO_7
        clear BK256
        clear HB
        have HO_7 := n0_
        have BK256 := n1_
        have HB := n2_
        clear n0_ n1_ n2_
        refine start_ (n := 18) (S := fun w' => w'.cell? ⟨gb256, 0, none⟩ = some (.int .i64 ((rd_T92 l0 x12_1).f0)) ∧ w'.cell? ⟨gb256, 1, none⟩ = some (.int .i64 ((rd_T92 l0 x12_1).f1)) ∧ w'.cell? ⟨gb256, 2, none⟩ = some (.int .i64 ((rd_T92 l0 x12_1).f2)) ∧ w'.cell? ⟨gb256, 3, none⟩ = some (.int .i64 ((rd_T92 l0 x12_1).f3)) ∧ w'.cell? ⟨gb256, 4, none⟩ = some (.int .i64 ((rd_T92 l0 x12_1).f4)) ∧ w'.cell? ⟨gb256, 5, none⟩ = some (.string ((rd_T92 l0 x12_1).f5))) (ds := []) #[false, false, false, false, false, false, false, false, false, false, false, false, false, false, false, false, false, false] kx rfl rfl ⟨(blk_cell BK256.out 0).trans rfl, (blk_cell BK256.out 1).trans rfl, (blk_cell BK256.out 2).trans rfl, (blk_cell BK256.out 3).trans rfl, (blk_cell BK256.out 4).trans rfl, (blk_cell BK256.out 5).trans rfl⟩ (fun hHeld => ?_); refine with_tabW ephemerisref1_ZoneYear.tab7 ephemerisref1_ZoneYear.bits7 (fun HT_ HW_ => ?_)
        generalize w23.drew = w24 at HO_7 BK256 HB hHeld ⊢
        refine pure_ (i := 0) (N := some 25) (v := ?_) (a' := ?_) #[true, false, false, false, false, false, false, false, false, false, false, false, false, false, false, false, false, false] rfl rfl (any_of HT_.out kx) (fun _ _ _ h => h) (Or.inl ⟨by rfl, ?_⟩) ?_ ?_
        rotate_left
        ·intro w'
         go_simp
         with_reducible rfl
        rotate_left
        ·simp only [Act.put, List.setIfInBounds_toArray, List.set_cons_zero, List.set_cons_succ, i64_w, i32_w]
         rfl
        refine pure_ (i := 2) (N := some 27) (v := ?_) (a' := ?_) #[true, false, true, false, false, false, false, false, false, false, false, false, false, false, false, false, false, false] rfl rfl (any_of HT_.out kx) (fun _ _ _ h => h) (Or.inl ⟨by rfl, ?_⟩) ?_ ?_
        rotate_left
        ·intro w'
         go_simp
         with_reducible rfl
        rotate_left
        ·simp only [Act.put, List.setIfInBounds_toArray, List.set_cons_zero, List.set_cons_succ, i64_w, i32_w]
         rfl
        refine pure_ (i := 5) (N := some 30) (v := ?_) (a' := ?_) #[true, false, true, false, false, true, false, false, false, false, false, false, false, false, false, false, false, false] rfl rfl (any_of HT_.out kx) (fun _ _ _ h => h) (Or.inl ⟨by rfl, ?_⟩) ?_ ?_
        rotate_left
        ·intro w'
         go_simp
         with_reducible rfl
        rotate_left
        ·simp only [Act.put, List.setIfInBounds_toArray, List.set_cons_zero, List.set_cons_succ, i64_w, i32_w]
         rfl
        refine pure_ (i := 8) (N := some 33) (v := ?_) (a' := ?_) #[true, false, true, false, false, true, false, false, true, false, false, false, false, false, false, false, false, false] rfl rfl (any_of HT_.out kx) (fun _ _ _ h => h) (Or.inl ⟨by rfl, ?_⟩) ?_ ?_
        rotate_left
        ·intro w'
         go_simp
         with_reducible rfl
        rotate_left
        ·simp only [Act.put, List.setIfInBounds_toArray, List.set_cons_zero, List.set_cons_succ, i64_w, i32_w]
         rfl
        refine pure_ (i := 10) (N := some 35) (v := ?_) (a' := ?_) #[true, false, true, false, false, true, false, false, true, false, true, false, false, false, false, false, false, false] rfl rfl (any_of HT_.out kx) (fun _ _ _ h => h) (Or.inl ⟨by rfl, ?_⟩) ?_ ?_
        rotate_left
        ·intro w'
         go_simp
         with_reducible rfl
        rotate_left
        ·simp only [Act.put, List.setIfInBounds_toArray, List.set_cons_zero, List.set_cons_succ, i64_w, i32_w]
         rfl
        refine pure_ (i := 12) (N := some 37) (v := ?_) (a' := ?_) #[true, false, true, false, false, true, false, false, true, false, true, false, true, false, false, false, false, false] rfl rfl (any_of HT_.out kx) (fun _ _ _ h => h) (Or.inl ⟨by rfl, ?_⟩) ?_ ?_
        rotate_left
        ·intro w'
         go_simp
         with_reducible rfl
        rotate_left
        ·simp only [Act.put, List.setIfInBounds_toArray, List.set_cons_zero, List.set_cons_succ, i64_w, i32_w]
         rfl
        refine take_ (i := 1) (N := some 26) (v := ?_) (a' := ?_) #[true, true, true, false, false, true, false, false, true, false, true, false, true, false, false, false, false, false] rfl rfl (take_ofW HT_.out HW_.out kx) (fun _ _ _ h => h) (Or.inl ⟨by rfl, ?_⟩) hHeld ?_ ?_
        rotate_left
        ·rintro w' ⟨s0, s1, s2, s3, s4, s5⟩
         go_simp
         with_reducible rfl
        rotate_left
        ·simp only [Act.put, List.setIfInBounds_toArray, List.set_cons_zero, List.set_cons_succ, i64_w, i32_w]
         rfl
        refine take_ (i := 6) (N := some 31) (v := ?_) (a' := ?_) #[true, true, true, false, false, true, true, false, true, false, true, false, true, false, false, false, false, false] rfl rfl (take_ofW HT_.out HW_.out kx) (fun _ _ _ h => h) (Or.inl ⟨by rfl, ?_⟩) hHeld ?_ ?_
        rotate_left
        ·rintro w' ⟨s0, s1, s2, s3, s4, s5⟩
         go_simp
         with_reducible rfl
        rotate_left
        ·simp only [Act.put, List.setIfInBounds_toArray, List.set_cons_zero, List.set_cons_succ, i64_w, i32_w]
         rfl
        refine take_ (i := 11) (N := some 36) (v := ?_) (a' := ?_) #[true, true, true, false, false, true, true, false, true, false, true, true, true, false, false, false, false, false] rfl rfl (take_ofW HT_.out HW_.out kx) (fun _ _ _ h => h) (Or.inl ⟨by rfl, ?_⟩) hHeld ?_ ?_
        rotate_left
        ·rintro w' ⟨s0, s1, s2, s3, s4, s5⟩
         go_simp
         with_reducible rfl
        rotate_left
        ·simp only [Act.put, List.setIfInBounds_toArray, List.set_cons_zero, List.set_cons_succ, i64_w, i32_w]
         rfl
        refine take_ (i := 13) (N := some 38) (v := ?_) (a' := ?_) #[true, true, true, false, false, true, true, false, true, false, true, true, true, true, false, false, false, false] rfl rfl (take_ofW HT_.out HW_.out kx) (fun _ _ _ h => h) (Or.inl ⟨by rfl, ?_⟩) hHeld ?_ ?_
        rotate_left
        ·rintro w' ⟨s0, s1, s2, s3, s4, s5⟩
         go_simp
         with_reducible rfl
        rotate_left
        ·simp only [Act.put, List.setIfInBounds_toArray, List.set_cons_zero, List.set_cons_succ, i64_w, i32_w]
         rfl
        refine one_ (i := 3) (N := some 28) #[true, true, true, true, false, true, true, false, true, false, true, true, true, true, false, false, false, false] rfl rfl (one_of HT_.out kx) (by decide) (fun K hK => ?_)
        refine goes_ Tryd.func50 kx rfl #[.agg #[.int .i64 ((rd_T92 l0 x12_1).f0), .int .i64 ((rd_T92 l0 x12_1).f1), .int .i64 ((rd_T92 l0 x12_1).f2), .int .i64 ((rd_T92 l0 x12_1).f3), .int .i64 ((rd_T92 l0 x12_1).f4), .string ((rd_T92 l0 x12_1).f5)], .int .i64 a2] (by rfl) rfl rfl aa ?_
        with_reducible refine (ephemerisref1_ZoneRuleDay.calls k1 ((rd_T92 l0 x12_1).f0) ((rd_T92 l0 x12_1).f1) ((rd_T92 l0 x12_1).f2) ((rd_T92 l0 x12_1).f3) ((rd_T92 l0 x12_1).f4) ((rd_T92 l0 x12_1).f5) a2 t262 _ A19.out).mono ?_
        rintro e w25 ⟨rfl, hb⟩
        refine ⟨_, rfl, ?_⟩
        have n0_ := Aside0.mk (Kd.R_below (by (with_reducible repeat (first | apply Kd.R_alloc | apply Kd.R_drewN | apply Kd.R_drew)); exact HO_7.out) hb)
        have n1_ := bb BK256 hb
        have n2_ := Aside0.mk (below_step be hb)
        clear HO_7
        clear BK256
        clear HB
        have HO_7 := n0_
        have BK256 := n1_
        have HB := n2_
        clear n0_ n1_ n2_
        (try clear hb)
        (try clear hb2)
        (try clear hk)
        (try clear hi)
        refine hK.out _ _ ⟨(blk_cell BK256.out 0).trans rfl, (blk_cell BK256.out 1).trans rfl, (blk_cell BK256.out 2).trans rfl, (blk_cell BK256.out 3).trans rfl, (blk_cell BK256.out 4).trans rfl, (blk_cell BK256.out 5).trans rfl⟩ (fun hHeld => ?_)
        clear hK K
        refine norm_ (a' := ?_) ?_ ?_
        rotate_left
        ·show Act.put _ (some 28) _ = _
         simp only [Act.put, List.setIfInBounds_toArray, List.set_cons_zero, List.set_cons_succ, i64_w, i32_w]
         rfl
        refine pure_ (i := 4) (N := some 29) (v := ?_) (a' := ?_) #[true, true, true, true, true, true, true, false, true, false, true, true, true, true, false, false, false, false] rfl rfl (any_of HT_.out kx) (fun _ _ _ h => h) (Or.inl ⟨by rfl, ?_⟩) ?_ ?_
        rotate_left
        ·intro w'
         go_simp
         with_reducible rfl
        rotate_left
        ·simp only [Act.put, List.setIfInBounds_toArray, List.set_cons_zero, List.set_cons_succ, i64_w, i32_w]
         rfl
        refine pure_ (i := 7) (N := some 32) (v := ?_) (a' := ?_) #[true, true, true, true, true, true, true, true, true, false, true, true, true, true, false, false, false, false] rfl rfl (any_of HT_.out kx) (fun _ _ _ h => h) (Or.inl ⟨by rfl, ?_⟩) ?_ ?_
        rotate_left
        ·intro w'
         go_simp
         with_reducible rfl
        rotate_left
        ·simp only [Act.put, List.setIfInBounds_toArray, List.set_cons_zero, List.set_cons_succ, i64_w, i32_w]
         rfl
        refine pure_ (i := 9) (N := some 34) (v := ?_) (a' := ?_) #[true, true, true, true, true, true, true, true, true, true, true, true, true, true, false, false, false, false] rfl rfl (any_of HT_.out kx) (fun _ _ _ h => h) (Or.inl ⟨by rfl, ?_⟩) ?_ ?_
        rotate_left
        ·intro w'
         go_simp
         with_reducible rfl
        rotate_left
        ·simp only [Act.put, List.setIfInBounds_toArray, List.set_cons_zero, List.set_cons_succ, i64_w, i32_w]
         rfl
        refine pure_ (i := 14) (N := some 39) (v := ?_) (a' := ?_) #[true, true, true, true, true, true, true, true, true, true, true, true, true, true, true, false, false, false] rfl rfl (any_of HT_.out kx) (fun _ _ _ h => h) (Or.inl ⟨by rfl, ?_⟩) ?_ ?_
        rotate_left
        ·intro w'
         go_simp
         with_reducible rfl
        rotate_left
        ·simp only [Act.put, List.setIfInBounds_toArray, List.set_cons_zero, List.set_cons_succ, i64_w, i32_w]
         rfl
        refine one_ (i := 15) (N := some 40) #[true, true, true, true, true, true, true, true, true, true, true, true, true, true, true, true, false, false] rfl rfl (one_of HT_.out kx) (by decide) (fun K hK => ?_)
        refine value_ (w1 := ?_) (v := ?_) (by rfl) rfl ?_ ?_
        rotate_left 2
        ·go_simp
         constructor
         ·rfl
         ·rfl
        refine hK.out _ _ ⟨(blk_cell (blk_alloc BK256.out _) 0).trans rfl, (blk_cell (blk_alloc BK256.out _) 1).trans rfl, (blk_cell (blk_alloc BK256.out _) 2).trans rfl, (blk_cell (blk_alloc BK256.out _) 3).trans rfl, (blk_cell (blk_alloc BK256.out _) 4).trans rfl, (blk_cell (blk_alloc BK256.out _) 5).trans rfl⟩ (fun hHeld => ?_)
        clear hK K
        refine norm_ (a' := ?_) ?_ ?_
        rotate_left
        ·show Act.put _ (some 40) _ = _
         simp only [Act.put, List.setIfInBounds_toArray, List.set_cons_zero, List.set_cons_succ, i64_w, i32_w]
         rfl
        refine one_ (i := 16) (N := some 41) #[true, true, true, true, true, true, true, true, true, true, true, true, true, true, true, true, true, false] rfl rfl (one_of HT_.out kx) (by decide) (fun K hK => ?_)
        refine Kd.R_append_step k43 (w0 := w) w.heap.size (by rfl) (.tmp 25) (.tmp 40) 22 43 (.agg #[(.int .i64 0), (.int .i64 0), (.string ⟨#[]⟩)]) 32 rfl Tryd.underlying22 info43 rfl (by decide) (by omega) u7 x7_1 (⟨wrap64 ((wrap64 ((wrap64 (t262 * 86400000)) + ((rd_T92 l0 x12_1).f3))) - x1_1), (rd_T92 l0 x12_1).f4, (rd_T92 l0 x12_1).f5⟩ : S43) [.int .i64 (wrap64 ((wrap64 ((wrap64 (t262 * 86400000)) + ((rd_T92 l0 x12_1).f3))) - x1_1)), .int .i64 ((rd_T92 l0 x12_1).f4), .string ((rd_T92 l0 x12_1).f5)] (fun _ => True) (fun _ => False) rfl rfl ?aP (fun _ hk => hk.elim) ?aF ?aO ?aB ?aS ?aL ?_
        (case aP => exact k43_mkM _ _ _ (⟨wrap64 ((wrap64 ((wrap64 (t262 * 86400000)) + ((rd_T92 l0 x12_1).f3))) - x1_1), (rd_T92 l0 x12_1).f4, (rd_T92 l0 x12_1).f5⟩ : S43))
        (case aB => exact be)
        (case aF => exact (fun _ _ => trivial))
        (case aO => exact (by (with_reducible repeat (first | apply Kd.R_alloc | apply Kd.R_drewN | apply Kd.R_drew)); exact HO_7.out))
        (case aS => exact (below_size be))
        (case aL => have := LMc20.out; omega)
        intro v264 w26 ho hb hg hat
        rw [← Ny263.out] at ho
        have n0_ := Aside0.mk (blk_grown (g := gb256) (o := .cells #[.int .i64 ((rd_T92 l0 x12_1).f0), .int .i64 ((rd_T92 l0 x12_1).f1), .int .i64 ((rd_T92 l0 x12_1).f2), .int .i64 ((rd_T92 l0 x12_1).f3), .int .i64 ((rd_T92 l0 x12_1).f4), .string ((rd_T92 l0 x12_1).f5)] 92 (0, 0)) (bk BK256) hg (Kd.R_ne HO_7.out BK256.out (by decide)))
        have n1_ := Aside0.mk (hb)
        have n2_ := Aside0.mk (ho)
        clear BK256
        clear HB
        clear HO_7
        have BK256 := n0_
        have HB := n1_
        have HO265 := n2_
        clear n0_ n1_ n2_
        clear ho hb hg hat
        refine hK.out _ _ ⟨(blk_cell BK256.out 0).trans rfl, (blk_cell BK256.out 1).trans rfl, (blk_cell BK256.out 2).trans rfl, (blk_cell BK256.out 3).trans rfl, (blk_cell BK256.out 4).trans rfl, (blk_cell BK256.out 5).trans rfl⟩ (fun hHeld => ?_)
        clear hK K
        refine norm_ (a' := ?_) ?_ ?_
        rotate_left
        ·show Act.put _ (some 41) _ = _
         simp only [Act.put, List.setIfInBounds_toArray, List.set_cons_zero, List.set_cons_succ, i64_w, i32_w]
         rfl
        refine pure_ (i := 17) (N := some 7) (v := ?_) (a' := ?_) #[true, true, true, true, true, true, true, true, true, true, true, true, true, true, true, true, true, true] rfl rfl (any_of HT_.out kx) (fun _ _ _ h => h) (Or.inl ⟨by rfl, ?_⟩) ?_ ?_
        rotate_left
        ·intro w'
         go_simp
         with_reducible rfl
        rotate_left
        ·simp only [Act.put, List.setIfInBounds_toArray, List.set_cons_zero, List.set_cons_succ, i64_w, i32_w]
         rfl
        refine done_ (done_of HT_.out kx) ?_
        try go_wp2
        go_roundg k1
        case measure => have := HK1.out; omega
        case rel => exact ⟨(x1_1), (y263), (wrap64 (x12_1 + 1)), rs, rs, H', ⟨by have := HK1.out; omega⟩, ⟨by (with_reducible repeat (first | apply Kd.R_alloc | apply Kd.R_drewN | apply Kd.R_drew)); exact HO265.out⟩, ⟨be⟩⟩
       ·rw [if_neg c20] at H
        exact absurd H (by simp)
     ·rw [if_neg c6] at H
      exact absurd H (by simp)
    ·rw [if_neg c5] at H
     exact absurd H (by simp)
   ·rw [if_neg c4] at H
    have c4b0 : decide (x12_1 < (l0.length : Int)) = false := decide_eq_false c4
    clear c4
    obtain rfl := Option.some.inj H
    go_wp2
    go_ret
    exact ⟨_, by first | rfl | (simp [errW_none, errW_some] <;> rfl) | (simp [*, errW_none, errW_some] <;> rfl), by (with_reducible repeat (first | apply Kd.R_alloc | apply Kd.R_drewN | apply Kd.R_drew)); exact HO_7.out, be⟩

end Go.Proofs.YtolhlaadhfilnaaDoor.PForecastExtends
