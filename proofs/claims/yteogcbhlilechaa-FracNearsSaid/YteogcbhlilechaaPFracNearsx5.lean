/- The walks of the functions of this part. The proof of ephemerisref1_FracNear (in part) is written by hand; the other ones are as the kit's print tells them. -/
-- The walks of the law's functions, told by a program.
import Derived.Test.YteogcbhlilechaaPFracNearsx0
import Derived.Test.YteogcbhlilechaaPFracNearsx3
import Derived.Test.YteogcbhlilechaaPFracNearsx4
namespace Go.Proofs.Yteogcbhlilechaa.PFracNears
open Go.RowKit Go.Proofs.YteogcbhlilechaaW.PrintWords Go.Proofs.YteogcbhlilechaaW.PrintLast Go.Proofs.YteogcbhlilechaaW.PrintMore
attribute [local go_sem] max2_int min2_int max_two min_two max_three min_three max_four min_four   -- for this text's walks alone
set_option linter.unusedVariables false
set_option linter.unusedSimpArgs false

/-! ### ephemerisref1_FracNear: function 37 -/
mutual
def ephemerisref1_FracNear.l0 : Nat → Int → Int → Int → Int → Int → Int → Option (Int × Int)
  | 0, _, _, _, _, _, _ => none
  | k + 1, x1, x6, x130000, x130001, x133000, x133001 => if x6 ≤ x1 then ((ephemerisref1_Floor.f k (wrap64 (x130000 * x6)) x130001).bind fun t133 => (ephemerisref1_FracNear.l1 k x1 x6 t133 (wrap64 (t133 + 1)) 0 x130000 x130001 x133000 x133001)) else (some (x133000, x133001))
def ephemerisref1_FracNear.l1 : Nat → Int → Int → Int → Int → Int → Int → Int → Int → Int → Option (Int × Int)
  | 0, _, _, _, _, _, _, _, _, _ => none
  | k + 1, x1, x6, x29, x32, x34, x130000, x130001, x133000, x133001 => if x34 < 2 then (if x34 = 0 then ((ephemerisref1_Size.f (wrap64 ((wrap64 (x29 * x130001)) - (wrap64 (x130000 * x6))))).bind fun t134 => ((ephemerisref1_Size.f (wrap64 ((wrap64 (x133000 * x130001)) - (wrap64 (x130000 * x133001))))).bind fun t135 => (if (wrap64 ((wrap64 (t134)) * x133001)) < (wrap64 ((wrap64 (t135)) * x6)) then (ephemerisref1_FracNear.l1 k x1 x6 x29 x32 (0 + 1) x130000 x130001 x29 x6) else (ephemerisref1_FracNear.l1 k x1 x6 x29 x32 (0 + 1) x130000 x130001 x133000 x133001)))) else (if x34 = 1 then ((ephemerisref1_Size.f (wrap64 ((wrap64 (x32 * x130001)) - (wrap64 (x130000 * x6))))).bind fun t136 => ((ephemerisref1_Size.f (wrap64 ((wrap64 (x133000 * x130001)) - (wrap64 (x130000 * x133001))))).bind fun t137 => (if (wrap64 ((wrap64 (t136)) * x133001)) < (wrap64 ((wrap64 (t137)) * x6)) then (ephemerisref1_FracNear.l1 k x1 x6 x29 x32 (1 + 1) x130000 x130001 x32 x6) else (ephemerisref1_FracNear.l1 k x1 x6 x29 x32 (1 + 1) x130000 x130001 x133000 x133001)))) else (none))) else (ephemerisref1_FracNear.l0 k x1 (wrap64 (x6 + 1)) x130000 x130001 x133000 x133001)
end
def ephemerisref1_FracNear.f (k : Nat) (a0_0 : Int) (a0_1 : Int) (a1 : Int) : Option (Int × Int) := (ephemerisref1_Floor.f k a0_0 a0_1).bind fun t131 => (ephemerisref1_FracNear.l0 k a1 1 a0_0 a0_1 t131 1)
theorem ephemerisref1_FracNear.mono_l : ∀ k, (∀ y0 y1 y2 y3 y4 y5, LeO (ephemerisref1_FracNear.l0 k y0 y1 y2 y3 y4 y5) (ephemerisref1_FracNear.l0 (k + 1) y0 y1 y2 y3 y4 y5)) ∧ (∀ y0 y1 y2 y3 y4 y5 y6 y7 y8, LeO (ephemerisref1_FracNear.l1 k y0 y1 y2 y3 y4 y5 y6 y7 y8) (ephemerisref1_FracNear.l1 (k + 1) y0 y1 y2 y3 y4 y5 y6 y7 y8))
  | 0 => ⟨fun _ _ _ _ _ _ r h => by simp [ephemerisref1_FracNear.l0] at h, fun _ _ _ _ _ _ _ _ _ r h => by simp [ephemerisref1_FracNear.l1] at h⟩
  | k + 1 => by
    obtain ⟨ih0, ih1⟩ := ephemerisref1_FracNear.mono_l k
    refine ⟨?_, ?_⟩
    · intro y0 y1 y2 y3 y4 y5
      unfold ephemerisref1_FracNear.l0
      repeat' first
      | (with_reducible exact ih0 _ _ _ _ _ _)
      | (with_reducible exact ih1 _ _ _ _ _ _ _ _ _)
      | (with_reducible exact ephemerisref1_Floor.mono _ _ _)
      | (with_reducible exact LeO.refl _)
      | (with_reducible exact LeO.none _)
      | (with_reducible refine LeO.ite ?_ ?_)
      | (with_reducible refine LeO.bind ?_ (fun _ => ?_))
      | exact ih0 _ _ _ _ _ _
      | exact ih1 _ _ _ _ _ _ _ _ _
      | exact ephemerisref1_Floor.mono _ _ _
      | exact LeO.none _
      | refine LeO.ite ?_ ?_
      | refine LeO.bind ?_ (fun _ => ?_)
    · intro y0 y1 y2 y3 y4 y5 y6 y7 y8
      unfold ephemerisref1_FracNear.l1
      repeat' first
      | (with_reducible exact ih0 _ _ _ _ _ _)
      | (with_reducible exact ih1 _ _ _ _ _ _ _ _ _)
      | (with_reducible exact ephemerisref1_Floor.mono _ _ _)
      | (with_reducible exact LeO.refl _)
      | (with_reducible exact LeO.none _)
      | (with_reducible refine LeO.ite ?_ ?_)
      | (with_reducible refine LeO.bind ?_ (fun _ => ?_))
      | exact ih0 _ _ _ _ _ _
      | exact ih1 _ _ _ _ _ _ _ _ _
      | exact ephemerisref1_Floor.mono _ _ _
      | exact LeO.none _
      | refine LeO.ite ?_ ?_
      | refine LeO.bind ?_ (fun _ => ?_)
theorem ephemerisref1_FracNear.mono : ∀ a0 a1 a2 k, LeO (ephemerisref1_FracNear.f k a0 a1 a2) (ephemerisref1_FracNear.f (k + 1) a0 a1 a2) := by
  intro a0 a1 a2 k
  obtain ⟨ih0, ih1⟩ := ephemerisref1_FracNear.mono_l k
  unfold ephemerisref1_FracNear.f
  repeat' first
      | (with_reducible exact ih0 _ _ _ _ _ _)
      | (with_reducible exact ih1 _ _ _ _ _ _ _ _ _)
      | (with_reducible exact ephemerisref1_Floor.mono _ _ _)
      | (with_reducible exact LeO.refl _)
      | (with_reducible exact LeO.none _)
      | (with_reducible refine LeO.ite ?_ ?_)
      | (with_reducible refine LeO.bind ?_ (fun _ => ?_))
      | exact ih0 _ _ _ _ _ _
      | exact ih1 _ _ _ _ _ _ _ _ _
      | exact ephemerisref1_Floor.mono _ _ _
      | exact LeO.none _
      | refine LeO.ite ?_ ?_
      | refine LeO.bind ?_ (fun _ => ?_)
set_option maxHeartbeats 8000000 in
set_option maxRecDepth 100000 in
theorem ephemerisref1_FracNear.calls (k : Nat) (a0_0 : Int) (a0_1 : Int) (a1 : Int) (r1 : Int) (r2 : Int) (w : World) (h : ephemerisref1_FracNear.f k a0_0 a0_1 a1 = some (r1, r2)) :
    Calls Try.prog 37 #[.agg #[.int .i64 a0_0, .int .i64 a0_1], .int .i64 a1] w fun e w' => e = .returned (.agg #[.int .i64 r1, .int .i64 r2]) ∧ Below w.heap.size w w' := by
  have hu67 := Try.underlying67
  have hu49 := Try.underlying49
  have hix49_0_ : ∀ (v0_ v1_ : Int) (w_ : World), (Instr.index 49 (.agg #[.int .i64 v0_, .int .i64 v1_]) (.int .i64 0)).run Try.prog w_ = .ok (.int .i64 v0_) w_ := fun _ _ _ => by kernel_rfl
  have hix49_1_ : ∀ (v0_ v1_ : Int) (w_ : World), (Instr.index 49 (.agg #[.int .i64 v0_, .int .i64 v1_]) (.int .i64 1)).run Try.prog w_ = .ok (.int .i64 v1_) w_ := fun _ _ _ => by kernel_rfl
  have hix106_0_ : ∀ (v0_ v1_ v2_ v3_ : Int) (w_ : World), (Instr.index 106 (.agg #[.int .i64 v0_, .int .i64 v1_, .int .i64 v2_, .int .i64 v3_]) (.int .i64 0)).run Try.prog w_ = .ok (.int .i64 v0_) w_ := fun _ _ _ _ _ => by kernel_rfl
  have hix106_1_ : ∀ (v0_ v1_ v2_ v3_ : Int) (w_ : World), (Instr.index 106 (.agg #[.int .i64 v0_, .int .i64 v1_, .int .i64 v2_, .int .i64 v3_]) (.int .i64 1)).run Try.prog w_ = .ok (.int .i64 v1_) w_ := fun _ _ _ _ _ => by kernel_rfl
  have hix106_2_ : ∀ (v0_ v1_ v2_ v3_ : Int) (w_ : World), (Instr.index 106 (.agg #[.int .i64 v0_, .int .i64 v1_, .int .i64 v2_, .int .i64 v3_]) (.int .i64 2)).run Try.prog w_ = .ok (.int .i64 v2_) w_ := fun _ _ _ _ _ => by kernel_rfl
  have hix106_3_ : ∀ (v0_ v1_ v2_ v3_ : Int) (w_ : World), (Instr.index 106 (.agg #[.int .i64 v0_, .int .i64 v1_, .int .i64 v2_, .int .i64 v3_]) (.int .i64 3)).run Try.prog w_ = .ok (.int .i64 v3_) w_ := fun _ _ _ _ _ => by kernel_rfl
  have HB := Aside0.mk (Below.refl w.heap.size w)
  have H : ((ephemerisref1_Floor.f k a0_0 a0_1).bind fun t131 => (ephemerisref1_FracNear.l0 k a1 1 a0_0 a0_1 t131 1)) = some (r1, r2) := h
  clear h
  replace H := Option.bind_eq_some_iff.mp H
  obtain ⟨t131, A30, H⟩ := H
  replace H : (ephemerisref1_FracNear.l0 k a1 1 a0_0 a0_1 t131 1) = some (r1, r2) := H
  have A3 := Aside0.mk A30
  clear A30
  have H' := Aside0.mk H
  clear H
  go_enter Try.func37, Try.ntmps37
  go_wp2_with (first | ((with_reducible refine gate_dst (N := 2) rfl ?_); refine box_event ?hg (N := 2) ?hd (cs := #[.int .i64 a0_0, .int .i64 a0_1]) (t := 67) ?hr ?_; (case hd => rfl); (case hg => rfl); (case hr => first | (go_simp; done) | (go_simp; rfl)); intro gb129 hg w4 hbox hb; have n0_ := Aside0.mk (below_step (by repeat (first | (with_reducible first | exact HB.out | apply below_alloc | apply pw_below_drewN | apply below_drew1) | exact HB.out)) hb); have n1_ := Aside0.mk (hbox); have n2_ := Aside0.mk ((by rw [hg]; exact (below_size (by repeat (first | (with_reducible first | exact HB.out | apply below_alloc | apply pw_below_drewN | apply below_drew1) | exact HB.out))) : w.heap.size ≤ gb129)); have n3_ := Aside0.mk ((by rw [hg]; exact (below_size (by repeat (first | (with_reducible first | exact HB.out | apply below_alloc | apply pw_below_drewN | apply below_drew1) | exact HB.out))) : w.heap.size ≤ gb129)); clear HB; have HB := n0_; have BK129 := n1_; have GW129 := n2_; have GE129 := n3_; clear n0_ n1_ n2_ n3_; clear hb hbox hg) | ((with_reducible refine gate_dst (N := 4) rfl ?_); refine box_event ?hg (N := 4) ?hd (cs := #[.int .i64 0, .int .i64 0]) (t := 67) ?hr ?_; (case hd => rfl); (case hg => rfl); (case hr => first | (go_simp; done) | (go_simp; rfl)); intro gb130 hg w5 hbox hb; have n0_ := Aside0.mk (blk_below (g := gb129) (o := .cells #[.int .i64 a0_0, .int .i64 a0_1] 67 (0, 0)) (by (with_reducible repeat (first | refine blk_drewN ?_ _ | refine blk_drew ?_ | refine blk_alloc ?_ _)); exact BK129.out) hb); have n1_ := Aside0.mk (below_step (by repeat (first | (with_reducible first | exact HB.out | apply below_alloc | apply pw_below_drewN | apply below_drew1 | refine below_set ?_ GE129.out) | exact HB.out)) hb); have n2_ := Aside0.mk (hbox); have n3_ := Aside0.mk ((by rw [hg]; exact (below_size (by repeat (first | (with_reducible first | exact HB.out | apply below_alloc | apply pw_below_drewN | apply below_drew1 | refine below_set ?_ GE129.out) | exact HB.out))) : w.heap.size ≤ gb130)); have n4_ := Aside0.mk ((by rw [hg]; exact (below_size (by repeat (first | (with_reducible first | exact HB.out | apply below_alloc | apply pw_below_drewN | apply below_drew1 | refine below_set ?_ GE129.out) | exact HB.out))) : w.heap.size ≤ gb130)); have n5_ := Aside0.mk ((by rw [hg]; exact Nat.ne_of_lt (blk_lt (g := gb129) (o := .cells #[.int .i64 a0_0, .int .i64 a0_1] 67 (0, 0)) (by (with_reducible repeat (first | refine blk_drewN ?_ _ | refine blk_drew ?_ | refine blk_alloc ?_ _)); exact BK129.out)) : gb129 ≠ gb130)); have n6_ := Aside0.mk ((by rw [hg]; exact Nat.ne_of_gt (blk_lt (g := gb129) (o := .cells #[.int .i64 a0_0, .int .i64 a0_1] 67 (0, 0)) (by (with_reducible repeat (first | refine blk_drewN ?_ _ | refine blk_drew ?_ | refine blk_alloc ?_ _)); exact BK129.out)) : gb130 ≠ gb129)); clear BK129; clear HB; have BK129 := n0_; have HB := n1_; have BK130 := n2_; have GW130 := n3_; have GE130 := n4_; have NB129_130 := n5_; have NB130_129 := n6_; clear n0_ n1_ n2_ n3_ n4_ n5_ n6_; clear hb hbox hg; have hnb6 := NB129_130.out; have hnc6 := NB130_129.out; have hcz7_0 : w5.cell? ⟨gb129, 0, none⟩ = some (.int .i64 a0_0) := (blk_cell BK129.out 0).trans rfl; have hcz7_1 : w5.cell? ⟨gb129, 1, none⟩ = some (.int .i64 a0_1) := (blk_cell BK129.out 1).trans rfl; have hfz7_0 := blk_frozen BK129.out 0; have hfz7_1 := blk_frozen BK129.out 1) | ((with_reducible refine gate_callee (f := 66) rfl ?_); refine goesL_ (some 16) rfl rfl Try.func66 (by kernel_rfl) rfl #[.int .i64 a0_0, .int .i64 a0_1] rfl (by (try simp only [List.map_toArray, List.map_cons, List.map_nil]); first | done | rfl | (simp only [List.length_drop, List.length_take]; rfl)) ?_; (with_reducible refine (ephemerisref1_Floor.calls k a0_0 a0_1 t131 _ A3.out).mono ?_); rintro e w' ⟨rfl, ⟨nd, rfl⟩⟩; refine ⟨_, rfl, ?_⟩) | ((with_reducible refine gate_dst (N := 5) rfl ?_); refine box_event ?hg (N := 5) ?hd (cs := #[.int .i64 0, .int .i64 0]) (t := 67) ?hr ?_; (case hd => rfl); (case hg => rfl); (case hr => first | (go_simp; done) | (go_simp; rfl)); intro gb132 hg w8 hbox hb; have n0_ := Aside0.mk (blk_below (g := gb129) (o := .cells #[.int .i64 a0_0, .int .i64 a0_1] 67 (0, 0)) (by (with_reducible repeat (first | refine blk_drewN ?_ _ | refine blk_drew ?_ | refine blk_alloc ?_ _)); exact BK129.out) hb); have n1_ := Aside0.mk (blk_below (g := gb130) (o := .cells #[.int .i64 0, .int .i64 0] 67 (0, 0)) (by (with_reducible repeat (first | refine blk_drewN ?_ _ | refine blk_drew ?_ | refine blk_alloc ?_ _)); exact BK130.out) hb); have n2_ := Aside0.mk (below_step (by repeat (first | (with_reducible first | exact HB.out | apply below_alloc | apply pw_below_drewN | apply below_drew1 | refine below_set ?_ GE129.out | refine below_set ?_ GE130.out) | exact HB.out)) hb); have n3_ := Aside0.mk (hbox); have n4_ := Aside0.mk ((by rw [hg]; exact (below_size (by repeat (first | (with_reducible first | exact HB.out | apply below_alloc | apply pw_below_drewN | apply below_drew1 | refine below_set ?_ GE129.out | refine below_set ?_ GE130.out) | exact HB.out))) : w.heap.size ≤ gb132)); have n5_ := Aside0.mk ((by rw [hg]; exact (below_size (by repeat (first | (with_reducible first | exact HB.out | apply below_alloc | apply pw_below_drewN | apply below_drew1 | refine below_set ?_ GE129.out | refine below_set ?_ GE130.out) | exact HB.out))) : w.heap.size ≤ gb132)); have n6_ := Aside0.mk ((by rw [hg]; exact Nat.ne_of_lt (blk_lt (g := gb129) (o := .cells #[.int .i64 a0_0, .int .i64 a0_1] 67 (0, 0)) (by (with_reducible repeat (first | refine blk_drewN ?_ _ | refine blk_drew ?_ | refine blk_alloc ?_ _)); exact BK129.out)) : gb129 ≠ gb132)); have n7_ := Aside0.mk ((by rw [hg]; exact Nat.ne_of_gt (blk_lt (g := gb129) (o := .cells #[.int .i64 a0_0, .int .i64 a0_1] 67 (0, 0)) (by (with_reducible repeat (first | refine blk_drewN ?_ _ | refine blk_drew ?_ | refine blk_alloc ?_ _)); exact BK129.out)) : gb132 ≠ gb129)); have n8_ := Aside0.mk ((by rw [hg]; exact Nat.ne_of_lt (blk_lt (g := gb130) (o := .cells #[.int .i64 0, .int .i64 0] 67 (0, 0)) (by (with_reducible repeat (first | refine blk_drewN ?_ _ | refine blk_drew ?_ | refine blk_alloc ?_ _)); exact BK130.out)) : gb130 ≠ gb132)); have n9_ := Aside0.mk ((by rw [hg]; exact Nat.ne_of_gt (blk_lt (g := gb130) (o := .cells #[.int .i64 0, .int .i64 0] 67 (0, 0)) (by (with_reducible repeat (first | refine blk_drewN ?_ _ | refine blk_drew ?_ | refine blk_alloc ?_ _)); exact BK130.out)) : gb132 ≠ gb130)); clear BK129; clear BK130; clear HB; have BK129 := n0_; have BK130 := n1_; have HB := n2_; have BK132 := n3_; have GW132 := n4_; have GE132 := n5_; have NB129_132 := n6_; have NB132_129 := n7_; have NB130_132 := n8_; have NB132_130 := n9_; clear n0_ n1_ n2_ n3_ n4_ n5_ n6_ n7_ n8_ n9_; clear hb hbox hg; have hnb9 := NB132_129.out; have hnc9 := NB129_132.out; have hnb10 := NB132_130.out; have hnc10 := NB130_132.out; have hcz11_0 : w8.cell? ⟨gb132, 0, none⟩ = some (.int .i64 0) := (blk_cell BK132.out 0).trans rfl; have hcz11_1 : w8.cell? ⟨gb132, 1, none⟩ = some (.int .i64 0) := (blk_cell BK132.out 1).trans rfl; have hfz11_0 := blk_frozen BK132.out 0; have hfz11_1 := blk_frozen BK132.out 1))
  go_loopg [6] k (fun kq v6 w' => ∃ (x6_1 : Int) (x133000_1 : Int) (x133001_1 : Int), v6 = .int .i64 x6_1 ∧ Aside0 (ephemerisref1_FracNear.l0 kq a1 x6_1 a0_0 a0_1 x133000_1 x133001_1 = some (r1, r2)) ∧ Aside0 (kq ≤ k) ∧ Aside0 (w'.heap[gb129]? = some (.cells #[.int .i64 a0_0, .int .i64 a0_1] 67 (0, 0))) ∧ Aside0 (w'.heap[gb130]? = some (.cells #[.int .i64 0, .int .i64 0] 67 (0, 0))) ∧ Aside0 (w'.heap[gb132]? = some (.cells #[.int .i64 x133000_1, .int .i64 x133001_1] 67 (0, 0))) ∧ Aside0 (Below w.heap.size w w'))
  case atStart => exact ⟨(1), (t131), (1), (by first | rfl | (simp; done) | (simp [*]; done)), H', ⟨Nat.le_refl _⟩, ⟨by (with_reducible repeat (first | refine blk_drewN ?_ _ | refine blk_drew ?_ | refine blk_alloc ?_ _)); refine blk_far ?_ NB129_132.out _; (with_reducible repeat (first | refine blk_drewN ?_ _ | refine blk_drew ?_ | refine blk_alloc ?_ _)); refine blk_far ?_ NB129_132.out _; (with_reducible repeat (first | refine blk_drewN ?_ _ | refine blk_drew ?_ | refine blk_alloc ?_ _)); exact BK129.out⟩, ⟨by (with_reducible repeat (first | refine blk_drewN ?_ _ | refine blk_drew ?_ | refine blk_alloc ?_ _)); refine blk_far ?_ NB130_132.out _; (with_reducible repeat (first | refine blk_drewN ?_ _ | refine blk_drew ?_ | refine blk_alloc ?_ _)); refine blk_far ?_ NB130_132.out _; (with_reducible repeat (first | refine blk_drewN ?_ _ | refine blk_drew ?_ | refine blk_alloc ?_ _)); exact BK130.out⟩, ⟨by (with_reducible repeat (first | refine blk_drewN ?_ _ | refine blk_drew ?_ | refine blk_alloc ?_ _)); refine blk_put (cs := #[.int .i64 t131, .int .i64 0]) ?_ 1 _ rfl; (with_reducible repeat (first | refine blk_drewN ?_ _ | refine blk_drew ?_ | refine blk_alloc ?_ _)); refine blk_put (cs := #[.int .i64 0, .int .i64 0]) ?_ 0 _ rfl; (with_reducible repeat (first | refine blk_drewN ?_ _ | refine blk_drew ?_ | refine blk_alloc ?_ _)); exact BK132.out⟩, ⟨by repeat (first | (with_reducible first | exact HB.out | apply below_alloc | apply pw_below_drewN | apply below_drew1 | refine below_set ?_ GE129.out | refine below_set ?_ GE130.out | refine below_set ?_ GE132.out) | exact HB.out)⟩⟩
  case round =>
    clear H'
    try clear c1
    try clear p2
    try clear c3
    try clear c6
    try clear c9
    try clear c10
    try clear hcz11_0
    try clear hcz11_1
    try clear hcz7_0
    try clear hcz7_1
    try clear hfz11_0
    try clear hfz11_1
    try clear hfz7_0
    try clear hfz7_1
    obtain ⟨x6_1, x133000_1, x133001_1, rfl, HA, HK1, BK129, BK130, BK132, HB⟩ := hrel
    cases gk with
    | zero => exact absurd HA.out (by simp [ephemerisref1_FracNear.l0])
    | succ k1 =>
      have H := HA.out
      clear HA
      simp only [ephemerisref1_FracNear.l0] at H
      by_cases c12 : x6_1 ≤ a1
      · rw [if_pos c12] at H
        have c12b0 : decide (x6_1 ≤ a1) = true := decide_eq_true c12
        clear c12
        replace H := Option.bind_eq_some_iff.mp H
        obtain ⟨t133, A130, H⟩ := H
        replace H : (ephemerisref1_FracNear.l1 k1 a1 x6_1 t133 (wrap64 (t133 + 1)) 0 a0_0 a0_1 x133000_1 x133001_1) = some (r1, r2) := H
        have A13 := Aside0.mk A130
        clear A130
        have H' := Aside0.mk H
        clear H
        have hnb14 := NB129_130.out
        have hnc14 := NB130_129.out
        have hnb15 := NB129_132.out
        have hnc15 := NB132_129.out
        have hcz16_0 : wr.cell? ⟨gb129, 0, none⟩ = some (.int .i64 a0_0) := (blk_cell BK129.out 0).trans rfl
        have hcz16_1 : wr.cell? ⟨gb129, 1, none⟩ = some (.int .i64 a0_1) := (blk_cell BK129.out 1).trans rfl
        have hfz16_0 := blk_frozen BK129.out 0
        have hfz16_1 := blk_frozen BK129.out 1
        go_wp2_with (first | ((with_reducible refine gate_callee (f := 66) rfl ?_); refine goesL_ (some 29) rfl rfl Try.func66 (by kernel_rfl) rfl #[.int .i64 (wrap64 (a0_0 * x6_1)), .int .i64 a0_1] rfl (by (try simp only [List.map_toArray, List.map_cons, List.map_nil]); first | done | rfl | (simp only [List.length_drop, List.length_take]; rfl)) ?_; (with_reducible refine (ephemerisref1_Floor.calls k1 (wrap64 (a0_0 * x6_1)) a0_1 t133 _ A13.out).mono ?_); rintro e w' ⟨rfl, ⟨nd, rfl⟩⟩; refine ⟨_, rfl, ?_⟩))
        go_loopg [34] k1 (fun kq v34 w' => ∃ (x34_2 : Int) (x133000_2 : Int) (x133001_2 : Int), v34 = .int .i64 x34_2 ∧ Aside0 (ephemerisref1_FracNear.l1 kq a1 x6_1 t133 (wrap64 (t133 + 1)) x34_2 a0_0 a0_1 x133000_2 x133001_2 = some (r1, r2)) ∧ Aside0 (kq ≤ k1) ∧ Aside0 (w'.heap[gb129]? = some (.cells #[.int .i64 a0_0, .int .i64 a0_1] 67 (0, 0))) ∧ Aside0 (w'.heap[gb130]? = some (.cells #[.int .i64 0, .int .i64 0] 67 (0, 0))) ∧ Aside0 (w'.heap[gb132]? = some (.cells #[.int .i64 x133000_2, .int .i64 x133001_2] 67 (0, 0))) ∧ Aside0 (Below w.heap.size w w'))
        case atStart => exact ⟨(0), (x133000_1), (x133001_1), (by first | rfl | (simp; done) | (simp [*]; done)), H', ⟨Nat.le_refl _⟩, ⟨by (with_reducible repeat (first | refine blk_drewN ?_ _ | refine blk_drew ?_ | refine blk_alloc ?_ _)); exact BK129.out⟩, ⟨by (with_reducible repeat (first | refine blk_drewN ?_ _ | refine blk_drew ?_ | refine blk_alloc ?_ _)); exact BK130.out⟩, ⟨by (with_reducible repeat (first | refine blk_drewN ?_ _ | refine blk_drew ?_ | refine blk_alloc ?_ _)); exact BK132.out⟩, ⟨by repeat (first | (with_reducible first | exact HB.out | apply below_alloc | apply pw_below_drewN | apply below_drew1 | refine below_set ?_ GE129.out | refine below_set ?_ GE130.out | refine below_set ?_ GE132.out) | exact HB.out)⟩⟩
        case round =>
          clear H'
          try clear c1
          try clear p2
          try clear c3
          try clear c6
          try clear p6
          try clear c9
          try clear c10
          try clear c12
          try clear c12b0
          try clear c14
          try clear c15
          try clear hcz11_0
          try clear hcz11_1
          try clear hcz16_0
          try clear hcz16_1
          try clear hcz7_0
          try clear hcz7_1
          try clear hfz11_0
          try clear hfz11_1
          try clear hfz16_0
          try clear hfz16_1
          try clear hfz7_0
          try clear hfz7_1
          try clear p2
          obtain ⟨x34_2, x133000_2, x133001_2, rfl, HA, HK2, BK129, BK130, BK132, HB⟩ := hrel
          cases gk with
          | zero => exact absurd HA.out (by simp [ephemerisref1_FracNear.l1])
          | succ k2 =>
            have H := HA.out
            clear HA
            simp only [ephemerisref1_FracNear.l1] at H
            by_cases c17 : x34_2 < 2
            · rw [if_pos c17] at H
              have c17b0 : decide (x34_2 < 2) = true := decide_eq_true c17
              clear c17
              by_cases c18 : x34_2 = 0
              · subst c18
                have H1 : ((ephemerisref1_Size.f (wrap64 ((wrap64 (t133 * a0_1)) - (wrap64 (a0_0 * x6_1))))).bind fun t134 => ((ephemerisref1_Size.f (wrap64 ((wrap64 (x133000_2 * a0_1)) - (wrap64 (a0_0 * x133001_2))))).bind fun t135 => (if (wrap64 ((wrap64 (t134)) * x133001_2)) < (wrap64 ((wrap64 (t135)) * x6_1)) then (ephemerisref1_FracNear.l1 k2 a1 x6_1 t133 (wrap64 (t133 + 1)) (0 + 1) a0_0 a0_1 t133 x6_1) else (ephemerisref1_FracNear.l1 k2 a1 x6_1 t133 (wrap64 (t133 + 1)) (0 + 1) a0_0 a0_1 x133000_2 x133001_2)))) = some (r1, r2) := by rw [if_pos rfl] at H; exact H
                clear H
                have H := H1
                clear H1
                replace H := Option.bind_eq_some_iff.mp H
                obtain ⟨t134, A190, H⟩ := H
                replace H : ((ephemerisref1_Size.f (wrap64 ((wrap64 (x133000_2 * a0_1)) - (wrap64 (a0_0 * x133001_2))))).bind fun t135 => (if (wrap64 ((wrap64 (t134)) * x133001_2)) < (wrap64 ((wrap64 (t135)) * x6_1)) then (ephemerisref1_FracNear.l1 k2 a1 x6_1 t133 (wrap64 (t133 + 1)) (0 + 1) a0_0 a0_1 t133 x6_1) else (ephemerisref1_FracNear.l1 k2 a1 x6_1 t133 (wrap64 (t133 + 1)) (0 + 1) a0_0 a0_1 x133000_2 x133001_2))) = some (r1, r2) := H
                have A19 := Aside0.mk A190
                clear A190
                replace H := Option.bind_eq_some_iff.mp H
                obtain ⟨t135, A200, H⟩ := H
                replace H : (if (wrap64 ((wrap64 (t134)) * x133001_2)) < (wrap64 ((wrap64 (t135)) * x6_1)) then (ephemerisref1_FracNear.l1 k2 a1 x6_1 t133 (wrap64 (t133 + 1)) (0 + 1) a0_0 a0_1 t133 x6_1) else (ephemerisref1_FracNear.l1 k2 a1 x6_1 t133 (wrap64 (t133 + 1)) (0 + 1) a0_0 a0_1 x133000_2 x133001_2)) = some (r1, r2) := H
                have A20 := Aside0.mk A200
                clear A200
                by_cases c21 : (wrap64 ((wrap64 (t134)) * x133001_2)) < (wrap64 ((wrap64 (t135)) * x6_1))
                · rw [if_pos c21] at H
                  have c21b0 : decide ((wrap64 ((wrap64 (t134)) * x133001_2)) < (wrap64 ((wrap64 (t135)) * x6_1))) = true := decide_eq_true c21
                  clear c21
                  have H' := Aside0.mk H
                  clear H
                  have hnb22 := NB129_130.out
                  have hnc22 := NB130_129.out
                  have hnb23 := NB129_132.out
                  have hnc23 := NB132_129.out
                  have hcz24_0 : wr.cell? ⟨gb129, 0, none⟩ = some (.int .i64 a0_0) := (blk_cell BK129.out 0).trans rfl
                  have hcz24_1 : wr.cell? ⟨gb129, 1, none⟩ = some (.int .i64 a0_1) := (blk_cell BK129.out 1).trans rfl
                  have hfz24_0 := blk_frozen BK129.out 0
                  have hfz24_1 := blk_frozen BK129.out 1
                  go_wp2_with (first | ((with_reducible refine gate_callee (f := 72) rfl ?_); refine goesL_ (some 46) rfl rfl Try.func72 (by kernel_rfl) rfl #[.int .i64 (wrap64 ((wrap64 (t133 * a0_1)) - (wrap64 (a0_0 * x6_1))))] rfl (by (try simp only [List.map_toArray, List.map_cons, List.map_nil]); first | done | rfl | (simp only [List.length_drop, List.length_take]; rfl)) ?_; (with_reducible refine (ephemerisref1_Size.calls (wrap64 ((wrap64 (t133 * a0_1)) - (wrap64 (a0_0 * x6_1)))) t134 _ A19.out).mono ?_); rintro e w' ⟨rfl, ⟨nd, rfl⟩⟩; refine ⟨_, rfl, ?_⟩; have hnb25 := NB132_130.out; have hnc25 := NB130_132.out; have hcz26_0 : wr.cell? ⟨gb132, 0, none⟩ = some (.int .i64 x133000_2) := (blk_cell BK132.out 0).trans rfl; have hcz26_1 : wr.cell? ⟨gb132, 1, none⟩ = some (.int .i64 x133001_2) := (blk_cell BK132.out 1).trans rfl; have hfz26_0 := blk_frozen BK132.out 0; have hfz26_1 := blk_frozen BK132.out 1) | ((with_reducible refine gate_callee (f := 72) rfl ?_); refine goesL_ (some 59) rfl rfl Try.func72 (by kernel_rfl) rfl #[.int .i64 (wrap64 ((wrap64 (x133000_2 * a0_1)) - (wrap64 (a0_0 * x133001_2))))] rfl (by (try simp only [List.map_toArray, List.map_cons, List.map_nil]); first | done | rfl | (simp only [List.length_drop, List.length_take]; rfl)) ?_; (with_reducible refine (ephemerisref1_Size.calls (wrap64 ((wrap64 (x133000_2 * a0_1)) - (wrap64 (a0_0 * x133001_2)))) t135 _ A20.out).mono ?_); rintro e w' ⟨rfl, ⟨nd, rfl⟩⟩; refine ⟨_, rfl, ?_⟩))
                  go_roundg k2
                  case measure => have := HK1.out; have := HK2.out; omega
                  case rel => exact ⟨(0 + 1), (t133), (x6_1), (by first | rfl | (simp; done) | (simp [*]; done)), H', ⟨by have := HK1.out; have := HK2.out; omega⟩, ⟨by (with_reducible repeat (first | refine blk_drewN ?_ _ | refine blk_drew ?_ | refine blk_alloc ?_ _)); refine blk_far ?_ NB129_132.out _; (with_reducible repeat (first | refine blk_drewN ?_ _ | refine blk_drew ?_ | refine blk_alloc ?_ _)); refine blk_far ?_ NB129_132.out _; (with_reducible repeat (first | refine blk_drewN ?_ _ | refine blk_drew ?_ | refine blk_alloc ?_ _)); exact BK129.out⟩, ⟨by (with_reducible repeat (first | refine blk_drewN ?_ _ | refine blk_drew ?_ | refine blk_alloc ?_ _)); refine blk_far ?_ NB130_132.out _; (with_reducible repeat (first | refine blk_drewN ?_ _ | refine blk_drew ?_ | refine blk_alloc ?_ _)); refine blk_far ?_ NB130_132.out _; (with_reducible repeat (first | refine blk_drewN ?_ _ | refine blk_drew ?_ | refine blk_alloc ?_ _)); exact BK130.out⟩, ⟨by (with_reducible repeat (first | refine blk_drewN ?_ _ | refine blk_drew ?_ | refine blk_alloc ?_ _)); refine blk_put (cs := #[.int .i64 t133, .int .i64 x133001_2]) ?_ 1 _ rfl; (with_reducible repeat (first | refine blk_drewN ?_ _ | refine blk_drew ?_ | refine blk_alloc ?_ _)); refine blk_put (cs := #[.int .i64 x133000_2, .int .i64 x133001_2]) ?_ 0 _ rfl; (with_reducible repeat (first | refine blk_drewN ?_ _ | refine blk_drew ?_ | refine blk_alloc ?_ _)); exact BK132.out⟩, ⟨by repeat (first | (with_reducible first | exact HB.out | apply below_alloc | apply pw_below_drewN | apply below_drew1 | refine below_set ?_ GE129.out | refine below_set ?_ GE130.out | refine below_set ?_ GE132.out) | exact HB.out)⟩⟩
                · rw [if_neg c21] at H
                  have c21b0 : decide ((wrap64 ((wrap64 (t134)) * x133001_2)) < (wrap64 ((wrap64 (t135)) * x6_1))) = false := decide_eq_false c21
                  clear c21
                  have H' := Aside0.mk H
                  clear H
                  have hnb27 := NB129_130.out
                  have hnc27 := NB130_129.out
                  have hnb28 := NB129_132.out
                  have hnc28 := NB132_129.out
                  have hcz29_0 : wr.cell? ⟨gb129, 0, none⟩ = some (.int .i64 a0_0) := (blk_cell BK129.out 0).trans rfl
                  have hcz29_1 : wr.cell? ⟨gb129, 1, none⟩ = some (.int .i64 a0_1) := (blk_cell BK129.out 1).trans rfl
                  have hfz29_0 := blk_frozen BK129.out 0
                  have hfz29_1 := blk_frozen BK129.out 1
                  go_wp2_with (first | ((with_reducible refine gate_callee (f := 72) rfl ?_); refine goesL_ (some 46) rfl rfl Try.func72 (by kernel_rfl) rfl #[.int .i64 (wrap64 ((wrap64 (t133 * a0_1)) - (wrap64 (a0_0 * x6_1))))] rfl (by (try simp only [List.map_toArray, List.map_cons, List.map_nil]); first | done | rfl | (simp only [List.length_drop, List.length_take]; rfl)) ?_; (with_reducible refine (ephemerisref1_Size.calls (wrap64 ((wrap64 (t133 * a0_1)) - (wrap64 (a0_0 * x6_1)))) t134 _ A19.out).mono ?_); rintro e w' ⟨rfl, ⟨nd, rfl⟩⟩; refine ⟨_, rfl, ?_⟩; have hnb30 := NB132_130.out; have hnc30 := NB130_132.out; have hcz31_0 : wr.cell? ⟨gb132, 0, none⟩ = some (.int .i64 x133000_2) := (blk_cell BK132.out 0).trans rfl; have hcz31_1 : wr.cell? ⟨gb132, 1, none⟩ = some (.int .i64 x133001_2) := (blk_cell BK132.out 1).trans rfl; have hfz31_0 := blk_frozen BK132.out 0; have hfz31_1 := blk_frozen BK132.out 1) | ((with_reducible refine gate_callee (f := 72) rfl ?_); refine goesL_ (some 59) rfl rfl Try.func72 (by kernel_rfl) rfl #[.int .i64 (wrap64 ((wrap64 (x133000_2 * a0_1)) - (wrap64 (a0_0 * x133001_2))))] rfl (by (try simp only [List.map_toArray, List.map_cons, List.map_nil]); first | done | rfl | (simp only [List.length_drop, List.length_take]; rfl)) ?_; (with_reducible refine (ephemerisref1_Size.calls (wrap64 ((wrap64 (x133000_2 * a0_1)) - (wrap64 (a0_0 * x133001_2)))) t135 _ A20.out).mono ?_); rintro e w' ⟨rfl, ⟨nd, rfl⟩⟩; refine ⟨_, rfl, ?_⟩))
                  go_roundg k2
                  case measure => have := HK1.out; have := HK2.out; omega
                  case rel => exact ⟨(0 + 1), (x133000_2), (x133001_2), (by first | rfl | (simp; done) | (simp [*]; done)), H', ⟨by have := HK1.out; have := HK2.out; omega⟩, ⟨by (with_reducible repeat (first | refine blk_drewN ?_ _ | refine blk_drew ?_ | refine blk_alloc ?_ _)); exact BK129.out⟩, ⟨by (with_reducible repeat (first | refine blk_drewN ?_ _ | refine blk_drew ?_ | refine blk_alloc ?_ _)); exact BK130.out⟩, ⟨by (with_reducible repeat (first | refine blk_drewN ?_ _ | refine blk_drew ?_ | refine blk_alloc ?_ _)); exact BK132.out⟩, ⟨by repeat (first | (with_reducible first | exact HB.out | apply below_alloc | apply pw_below_drewN | apply below_drew1 | refine below_set ?_ GE129.out | refine below_set ?_ GE130.out | refine below_set ?_ GE132.out) | exact HB.out)⟩⟩
              · rw [if_neg c18] at H
                by_cases c32 : x34_2 = 1
                · subst c32
                  have H1 : ((ephemerisref1_Size.f (wrap64 ((wrap64 ((wrap64 (t133 + 1)) * a0_1)) - (wrap64 (a0_0 * x6_1))))).bind fun t136 => ((ephemerisref1_Size.f (wrap64 ((wrap64 (x133000_2 * a0_1)) - (wrap64 (a0_0 * x133001_2))))).bind fun t137 => (if (wrap64 ((wrap64 (t136)) * x133001_2)) < (wrap64 ((wrap64 (t137)) * x6_1)) then (ephemerisref1_FracNear.l1 k2 a1 x6_1 t133 (wrap64 (t133 + 1)) (1 + 1) a0_0 a0_1 (wrap64 (t133 + 1)) x6_1) else (ephemerisref1_FracNear.l1 k2 a1 x6_1 t133 (wrap64 (t133 + 1)) (1 + 1) a0_0 a0_1 x133000_2 x133001_2)))) = some (r1, r2) := by rw [if_pos rfl] at H; exact H
                  clear H
                  have H := H1
                  clear H1
                  replace H := Option.bind_eq_some_iff.mp H
                  obtain ⟨t136, A330, H⟩ := H
                  replace H : ((ephemerisref1_Size.f (wrap64 ((wrap64 (x133000_2 * a0_1)) - (wrap64 (a0_0 * x133001_2))))).bind fun t137 => (if (wrap64 ((wrap64 (t136)) * x133001_2)) < (wrap64 ((wrap64 (t137)) * x6_1)) then (ephemerisref1_FracNear.l1 k2 a1 x6_1 t133 (wrap64 (t133 + 1)) (1 + 1) a0_0 a0_1 (wrap64 (t133 + 1)) x6_1) else (ephemerisref1_FracNear.l1 k2 a1 x6_1 t133 (wrap64 (t133 + 1)) (1 + 1) a0_0 a0_1 x133000_2 x133001_2))) = some (r1, r2) := H
                  have A33 := Aside0.mk A330
                  clear A330
                  replace H := Option.bind_eq_some_iff.mp H
                  obtain ⟨t137, A340, H⟩ := H
                  replace H : (if (wrap64 ((wrap64 (t136)) * x133001_2)) < (wrap64 ((wrap64 (t137)) * x6_1)) then (ephemerisref1_FracNear.l1 k2 a1 x6_1 t133 (wrap64 (t133 + 1)) (1 + 1) a0_0 a0_1 (wrap64 (t133 + 1)) x6_1) else (ephemerisref1_FracNear.l1 k2 a1 x6_1 t133 (wrap64 (t133 + 1)) (1 + 1) a0_0 a0_1 x133000_2 x133001_2)) = some (r1, r2) := H
                  have A34 := Aside0.mk A340
                  clear A340
                  by_cases c35 : (wrap64 ((wrap64 (t136)) * x133001_2)) < (wrap64 ((wrap64 (t137)) * x6_1))
                  · rw [if_pos c35] at H
                    have c35b0 : decide ((wrap64 ((wrap64 (t136)) * x133001_2)) < (wrap64 ((wrap64 (t137)) * x6_1))) = true := decide_eq_true c35
                    clear c35
                    have H' := Aside0.mk H
                    clear H
                    have hnb36 := NB129_130.out
                    have hnc36 := NB130_129.out
                    have hnb37 := NB129_132.out
                    have hnc37 := NB132_129.out
                    have hcz38_0 : wr.cell? ⟨gb129, 0, none⟩ = some (.int .i64 a0_0) := (blk_cell BK129.out 0).trans rfl
                    have hcz38_1 : wr.cell? ⟨gb129, 1, none⟩ = some (.int .i64 a0_1) := (blk_cell BK129.out 1).trans rfl
                    have hfz38_0 := blk_frozen BK129.out 0
                    have hfz38_1 := blk_frozen BK129.out 1
                    go_wp2_with (first | ((with_reducible refine gate_callee (f := 72) rfl ?_); refine goesL_ (some 46) rfl rfl Try.func72 (by kernel_rfl) rfl #[.int .i64 (wrap64 ((wrap64 ((wrap64 (t133 + 1)) * a0_1)) - (wrap64 (a0_0 * x6_1))))] rfl (by (try simp only [List.map_toArray, List.map_cons, List.map_nil]); first | done | rfl | (simp only [List.length_drop, List.length_take]; rfl)) ?_; (with_reducible refine (ephemerisref1_Size.calls (wrap64 ((wrap64 ((wrap64 (t133 + 1)) * a0_1)) - (wrap64 (a0_0 * x6_1)))) t136 _ A33.out).mono ?_); rintro e w' ⟨rfl, ⟨nd, rfl⟩⟩; refine ⟨_, rfl, ?_⟩; have hnb39 := NB132_130.out; have hnc39 := NB130_132.out; have hcz40_0 : wr.cell? ⟨gb132, 0, none⟩ = some (.int .i64 x133000_2) := (blk_cell BK132.out 0).trans rfl; have hcz40_1 : wr.cell? ⟨gb132, 1, none⟩ = some (.int .i64 x133001_2) := (blk_cell BK132.out 1).trans rfl; have hfz40_0 := blk_frozen BK132.out 0; have hfz40_1 := blk_frozen BK132.out 1) | ((with_reducible refine gate_callee (f := 72) rfl ?_); refine goesL_ (some 59) rfl rfl Try.func72 (by kernel_rfl) rfl #[.int .i64 (wrap64 ((wrap64 (x133000_2 * a0_1)) - (wrap64 (a0_0 * x133001_2))))] rfl (by (try simp only [List.map_toArray, List.map_cons, List.map_nil]); first | done | rfl | (simp only [List.length_drop, List.length_take]; rfl)) ?_; (with_reducible refine (ephemerisref1_Size.calls (wrap64 ((wrap64 (x133000_2 * a0_1)) - (wrap64 (a0_0 * x133001_2)))) t137 _ A34.out).mono ?_); rintro e w' ⟨rfl, ⟨nd, rfl⟩⟩; refine ⟨_, rfl, ?_⟩))
                    go_roundg k2
                    case measure => have := HK1.out; have := HK2.out; omega
                    case rel => exact ⟨(1 + 1), ((wrap64 (t133 + 1))), (x6_1), (by first | rfl | (simp; done) | (simp [*]; done)), H', ⟨by have := HK1.out; have := HK2.out; omega⟩, ⟨by (with_reducible repeat (first | refine blk_drewN ?_ _ | refine blk_drew ?_ | refine blk_alloc ?_ _)); refine blk_far ?_ NB129_132.out _; (with_reducible repeat (first | refine blk_drewN ?_ _ | refine blk_drew ?_ | refine blk_alloc ?_ _)); refine blk_far ?_ NB129_132.out _; (with_reducible repeat (first | refine blk_drewN ?_ _ | refine blk_drew ?_ | refine blk_alloc ?_ _)); exact BK129.out⟩, ⟨by (with_reducible repeat (first | refine blk_drewN ?_ _ | refine blk_drew ?_ | refine blk_alloc ?_ _)); refine blk_far ?_ NB130_132.out _; (with_reducible repeat (first | refine blk_drewN ?_ _ | refine blk_drew ?_ | refine blk_alloc ?_ _)); refine blk_far ?_ NB130_132.out _; (with_reducible repeat (first | refine blk_drewN ?_ _ | refine blk_drew ?_ | refine blk_alloc ?_ _)); exact BK130.out⟩, ⟨by (with_reducible repeat (first | refine blk_drewN ?_ _ | refine blk_drew ?_ | refine blk_alloc ?_ _)); refine blk_put (cs := #[.int .i64 (wrap64 (t133 + 1)), .int .i64 x133001_2]) ?_ 1 _ rfl; (with_reducible repeat (first | refine blk_drewN ?_ _ | refine blk_drew ?_ | refine blk_alloc ?_ _)); refine blk_put (cs := #[.int .i64 x133000_2, .int .i64 x133001_2]) ?_ 0 _ rfl; (with_reducible repeat (first | refine blk_drewN ?_ _ | refine blk_drew ?_ | refine blk_alloc ?_ _)); exact BK132.out⟩, ⟨by repeat (first | (with_reducible first | exact HB.out | apply below_alloc | apply pw_below_drewN | apply below_drew1 | refine below_set ?_ GE129.out | refine below_set ?_ GE130.out | refine below_set ?_ GE132.out) | exact HB.out)⟩⟩
                  · rw [if_neg c35] at H
                    have c35b0 : decide ((wrap64 ((wrap64 (t136)) * x133001_2)) < (wrap64 ((wrap64 (t137)) * x6_1))) = false := decide_eq_false c35
                    clear c35
                    have H' := Aside0.mk H
                    clear H
                    have hnb41 := NB129_130.out
                    have hnc41 := NB130_129.out
                    have hnb42 := NB129_132.out
                    have hnc42 := NB132_129.out
                    have hcz43_0 : wr.cell? ⟨gb129, 0, none⟩ = some (.int .i64 a0_0) := (blk_cell BK129.out 0).trans rfl
                    have hcz43_1 : wr.cell? ⟨gb129, 1, none⟩ = some (.int .i64 a0_1) := (blk_cell BK129.out 1).trans rfl
                    have hfz43_0 := blk_frozen BK129.out 0
                    have hfz43_1 := blk_frozen BK129.out 1
                    go_wp2_with (first | ((with_reducible refine gate_callee (f := 72) rfl ?_); refine goesL_ (some 46) rfl rfl Try.func72 (by kernel_rfl) rfl #[.int .i64 (wrap64 ((wrap64 ((wrap64 (t133 + 1)) * a0_1)) - (wrap64 (a0_0 * x6_1))))] rfl (by (try simp only [List.map_toArray, List.map_cons, List.map_nil]); first | done | rfl | (simp only [List.length_drop, List.length_take]; rfl)) ?_; (with_reducible refine (ephemerisref1_Size.calls (wrap64 ((wrap64 ((wrap64 (t133 + 1)) * a0_1)) - (wrap64 (a0_0 * x6_1)))) t136 _ A33.out).mono ?_); rintro e w' ⟨rfl, ⟨nd, rfl⟩⟩; refine ⟨_, rfl, ?_⟩; have hnb44 := NB132_130.out; have hnc44 := NB130_132.out; have hcz45_0 : wr.cell? ⟨gb132, 0, none⟩ = some (.int .i64 x133000_2) := (blk_cell BK132.out 0).trans rfl; have hcz45_1 : wr.cell? ⟨gb132, 1, none⟩ = some (.int .i64 x133001_2) := (blk_cell BK132.out 1).trans rfl; have hfz45_0 := blk_frozen BK132.out 0; have hfz45_1 := blk_frozen BK132.out 1) | ((with_reducible refine gate_callee (f := 72) rfl ?_); refine goesL_ (some 59) rfl rfl Try.func72 (by kernel_rfl) rfl #[.int .i64 (wrap64 ((wrap64 (x133000_2 * a0_1)) - (wrap64 (a0_0 * x133001_2))))] rfl (by (try simp only [List.map_toArray, List.map_cons, List.map_nil]); first | done | rfl | (simp only [List.length_drop, List.length_take]; rfl)) ?_; (with_reducible refine (ephemerisref1_Size.calls (wrap64 ((wrap64 (x133000_2 * a0_1)) - (wrap64 (a0_0 * x133001_2)))) t137 _ A34.out).mono ?_); rintro e w' ⟨rfl, ⟨nd, rfl⟩⟩; refine ⟨_, rfl, ?_⟩))
                    go_roundg k2
                    case measure => have := HK1.out; have := HK2.out; omega
                    case rel => exact ⟨(1 + 1), (x133000_2), (x133001_2), (by first | rfl | (simp; done) | (simp [*]; done)), H', ⟨by have := HK1.out; have := HK2.out; omega⟩, ⟨by (with_reducible repeat (first | refine blk_drewN ?_ _ | refine blk_drew ?_ | refine blk_alloc ?_ _)); exact BK129.out⟩, ⟨by (with_reducible repeat (first | refine blk_drewN ?_ _ | refine blk_drew ?_ | refine blk_alloc ?_ _)); exact BK130.out⟩, ⟨by (with_reducible repeat (first | refine blk_drewN ?_ _ | refine blk_drew ?_ | refine blk_alloc ?_ _)); exact BK132.out⟩, ⟨by repeat (first | (with_reducible first | exact HB.out | apply below_alloc | apply pw_below_drewN | apply below_drew1 | refine below_set ?_ GE129.out | refine below_set ?_ GE130.out | refine below_set ?_ GE132.out) | exact HB.out)⟩⟩
                · rw [if_neg c32] at H
                  exact absurd H (by simp)
            · rw [if_neg c17] at H
              have c17b0 : decide (x34_2 < 2) = false := decide_eq_false c17
              clear c17
              have H' := Aside0.mk H
              clear H
              go_wp2
              go_roundg k2
              case measure => have := HK1.out; have := HK2.out; omega
              case rel => exact ⟨(wrap64 (x6_1 + 1)), (x133000_2), (x133001_2), (by first | rfl | (simp; done) | (simp [*]; done)), H', ⟨by have := HK1.out; have := HK2.out; omega⟩, ⟨by (with_reducible repeat (first | refine blk_drewN ?_ _ | refine blk_drew ?_ | refine blk_alloc ?_ _)); exact BK129.out⟩, ⟨by (with_reducible repeat (first | refine blk_drewN ?_ _ | refine blk_drew ?_ | refine blk_alloc ?_ _)); exact BK130.out⟩, ⟨by (with_reducible repeat (first | refine blk_drewN ?_ _ | refine blk_drew ?_ | refine blk_alloc ?_ _)); exact BK132.out⟩, ⟨by repeat (first | (with_reducible first | exact HB.out | apply below_alloc | apply pw_below_drewN | apply below_drew1 | refine below_set ?_ GE129.out | refine below_set ?_ GE130.out | refine below_set ?_ GE132.out) | exact HB.out)⟩⟩
      · rw [if_neg c12] at H
        have c12b0 : decide (x6_1 ≤ a1) = false := decide_eq_false c12
        clear c12
        simp only [Option.some.injEq, Prod.mk.injEq] at H
        obtain ⟨rfl, rfl⟩ := H
        have hnb46 := NB132_129.out
        have hnc46 := NB129_132.out
        have hnb47 := NB132_130.out
        have hnc47 := NB130_132.out
        have hcz48_0 : wr.cell? ⟨gb132, 0, none⟩ = some (.int .i64 x133000_1) := (blk_cell BK132.out 0).trans rfl
        have hcz48_1 : wr.cell? ⟨gb132, 1, none⟩ = some (.int .i64 x133001_1) := (blk_cell BK132.out 1).trans rfl
        have hfz48_0 := blk_frozen BK132.out 0
        have hfz48_1 := blk_frozen BK132.out 1
        have hnb49 := NB130_129.out
        have hnc49 := NB129_130.out
        have hcz50_0 : wr.cell? ⟨gb130, 0, none⟩ = some (.int .i64 0) := (blk_cell BK130.out 0).trans rfl
        have hcz50_1 : wr.cell? ⟨gb130, 1, none⟩ = some (.int .i64 0) := (blk_cell BK130.out 1).trans rfl
        have hfz50_0 := blk_frozen BK130.out 0
        have hfz50_1 := blk_frozen BK130.out 1
        go_wp2
        refine bodyPost_ret (results_cell_row rfl _ _ gb130 67 #[.int .i64 x133000_1, .int .i64 x133001_1] (0, 0) _ rfl (by (with_reducible repeat (first | refine blk_drewN ?_ _ | refine blk_drew ?_ | refine blk_alloc ?_ _)); refine blk_put (cs := #[.int .i64 x133000_1, .int .i64 0]) ?_ 1 _ rfl; (with_reducible repeat (first | refine blk_drewN ?_ _ | refine blk_drew ?_ | refine blk_alloc ?_ _)); refine blk_put (cs := #[.int .i64 0, .int .i64 0]) ?_ 0 _ rfl; (with_reducible repeat (first | refine blk_drewN ?_ _ | refine blk_drew ?_ | refine blk_alloc ?_ _)); exact BK130.out) Try.underlying67 rfl (by kernel_rfl)) rfl ?_
        exact ⟨by first | rfl | (simp [errW_none, errW_some] <;> rfl) | (simp [*, errW_none, errW_some] <;> rfl), by repeat (first | (with_reducible first | exact HB.out | apply below_alloc | apply pw_below_drewN | apply below_drew1 | refine below_set ?_ GE129.out | refine below_set ?_ GE130.out | refine below_set ?_ GE132.out) | exact HB.out)⟩

end Go.Proofs.Yteogcbhlilechaa.PFracNears
