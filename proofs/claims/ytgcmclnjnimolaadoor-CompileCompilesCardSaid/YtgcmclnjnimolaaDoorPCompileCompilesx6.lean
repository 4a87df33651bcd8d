/- The walks of the functions of this part. The proof of runtime_errorAddressString_RuntimeError, rule_Eval (in part), api_RuleMonth (in part), compile_Compile (in part) is written by hand; the other ones are as the kit's print tells them. -/
-- The walks of the law's functions, told by a program.
import Derived.Lib.SliceRun
import Derived.Test.YtgcmclnjnimolaaDoorY
import Derived.Test.YtgcmclnjnimolaaDoorPCompileCompilesx0
import Derived.Test.YtgcmclnjnimolaaDoorPCompileCompilesx2
import Derived.Test.YtgcmclnjnimolaaDoorPCompileCompilesx3
import Derived.Test.YtgcmclnjnimolaaDoorPCompileCompilesx5
namespace Go.Proofs.YtgcmclnjnimolaaDoor.PCompileCompiles
open Go.RowKit Go.Proofs.YtgcmclnjnimolaaDoorW.PrintWords Go.Proofs.YtgcmclnjnimolaaDoorW.PrintLast Go.Proofs.YtgcmclnjnimolaaDoorW.PrintMore Go.Proofs.YtgcmclnjnimolaaDoor.Y
attribute [local go_sem] max2_int min2_int max_two min_two max_three min_three max_four min_four   -- for this text's walks alone
set_option linter.unusedVariables false
set_option linter.unusedSimpArgs false

/-! ### runtime_errorAddressString_RuntimeError: function 62 -/
/-- A machine in memory: its year, no error. -/
def runtime_errorAddressString_RuntimeError.f (a0 : Int) : Option (Int × Int) := some (a0, 0)

/-! ### rule_Eval: function 10 -/
def rule_Eval.j0 : Nat → Int → Bool → Int → Int → List (S24) → Option (Int × Int)
 | 0, _, _, _, _, _ => none
 | k + 1, x1, x20, x160000, x160001, x160002 => if x20 = true then (some (0, 3)) else ((runtime_errorAddressString_RuntimeError.f x1).bind fun bt164 => ((rule_machine_value.f k bt164.1 bt164.2 x160000 x160001 x160002).bind fun bt167 => (some (bt167.1, bt167.2.2))))
def rule_Eval.f (k : Nat) (a0_0 : Int) (a0_1 : Int) (l0_2 : List (S24)) (a1 : Int) : Option (Int × Int) := (runtime_plainError_RuntimeError.f 0).bind fun t160 => ((rule_walk.f k a0_0 a0_1 l0_2 1 t160).bind fun bt162 => (if bt162.1 = 0 then (if a1 < (-10000) then (rule_Eval.j0 k a1 true a0_0 a0_1 l0_2) else (rule_Eval.j0 k a1 (decide (a1 > 10000)) a0_0 a0_1 l0_2)) else (some (0, bt162.1))))
theorem rule_Eval.mono_l : ∀ k, (∀ y0 y1 y2 y3 y4, LeO (rule_Eval.j0 k y0 y1 y2 y3 y4) (rule_Eval.j0 (k + 1) y0 y1 y2 y3 y4))
 | 0 => fun _ _ _ _ _ r h => by simp [rule_Eval.j0] at h
 | k + 1 => by
  have ih0 := rule_Eval.mono_l k
  ·intro y0 y1 y2 y3 y4
   unfold rule_Eval.j0
   repeat' first
   | (with_reducible exact ih0 _ _ _ _ _)
   | (with_reducible exact rule_machine_value.mono _ _ _ _ _ _)
   | (with_reducible exact rule_walk.mono _ _ _ _ _ _)
   | (with_reducible exact LeO.refl _)
   | (with_reducible exact LeO.none _)
   | (with_reducible refine LeO.ite ?_ ?_)
   | (with_reducible refine LeO.bind ?_ (fun _ => ?_))
   | exact ih0 _ _ _ _ _
   | exact rule_machine_value.mono _ _ _ _ _ _
   | exact rule_walk.mono _ _ _ _ _ _
   | exact LeO.none _
   | refine LeO.ite ?_ ?_
   | refine LeO.bind ?_ (fun _ => ?_)
theorem rule_Eval.mono : ∀ a0 a1 a2 a3 k, LeO (rule_Eval.f k a0 a1 a2 a3) (rule_Eval.f (k + 1) a0 a1 a2 a3) := by
 intro a0 a1 a2 a3 k
 have ih0 := rule_Eval.mono_l k
 unfold rule_Eval.f
 repeat' first
   | (with_reducible exact ih0 _ _ _ _ _)
   | (with_reducible exact rule_machine_value.mono _ _ _ _ _ _)
   | (with_reducible exact rule_walk.mono _ _ _ _ _ _)
   | (with_reducible exact LeO.refl _)
   | (with_reducible exact LeO.none _)
   | (with_reducible refine LeO.ite ?_ ?_)
   | (with_reducible refine LeO.bind ?_ (fun _ => ?_))
   | exact ih0 _ _ _ _ _
   | exact rule_machine_value.mono _ _ _ _ _ _
   | exact rule_walk.mono _ _ _ _ _ _
   | exact LeO.none _
   | refine LeO.ite ?_ ?_
   | refine LeO.bind ?_ (fun _ => ?_)
set_option maxHeartbeats 8000000 in
set_option maxRecDepth 100000 in
theorem rule_Eval.calls (k : Nat) (a0_0 : Int) (a0_1 : Int) (A0_2 : Option Addr) (c0_2 : Nat) (l0_2 : List (S24)) (a1 : Int) (r1 : Int) (r2 : Int) (w : World) (hr0_2 : Kd.C k24 w A0_2 l0_2.length l0_2) (hc0_2 : l0_2.length ≤ c0_2) (hT : rule_walk.Tab w) (h : rule_Eval.f k a0_0 a0_1 l0_2 a1 = some (r1, r2)) :
  Calls Tryd.prog 10 #[.agg #[.int .i64 a0_0, .int .i64 a0_1, .slice A0_2 l0_2.length c0_2], .int .i64 a1] w fun e w' => e = .returned (.tuple #[.int .i64 r1, .int .i64 r2]) ∧ Below w.heap.size w w' := by
 have hu24 := Tryd.underlying24
 have HR0_2 := Aside0.mk hr0_2
 have HC0_2 := Aside0.mk hc0_2
 clear hr0_2 hc0_2
 have HB := Aside0.mk (Below.refl w.heap.size w)
 have H : ((runtime_plainError_RuntimeError.f 0).bind fun t160 => ((rule_walk.f k a0_0 a0_1 l0_2 1 t160).bind fun bt162 => (if bt162.1 = 0 then (if a1 < (-10000) then (rule_Eval.j0 k a1 true a0_0 a0_1 l0_2) else (rule_Eval.j0 k a1 (decide (a1 > 10000)) a0_0 a0_1 l0_2)) else (some (0, bt162.1))))) = some (r1, r2) := h
 clear h
 replace H := Option.bind_eq_some_iff.mp H
 obtain ⟨t160, A30, H⟩ := H
 obtain rfl : (0 : Int) = t160 := Option.some.inj A30
 replace H : ((rule_walk.f k a0_0 a0_1 l0_2 1 (0 : Int)).bind fun bt162 => (if bt162.1 = 0 then (if a1 < (-10000) then (rule_Eval.j0 k a1 true a0_0 a0_1 l0_2) else (rule_Eval.j0 k a1 (decide (a1 > 10000)) a0_0 a0_1 l0_2)) else (some (0, bt162.1)))) = some (r1, r2) := H
 have A3 := Aside0.mk A30
 clear A30
 replace H := Option.bind_eq_some_iff.mp H
 obtain ⟨⟨t162, t163⟩, A40, H⟩ := H
 replace H : (if t162 = 0 then (if a1 < (-10000) then (rule_Eval.j0 k a1 true a0_0 a0_1 l0_2) else (rule_Eval.j0 k a1 (decide (a1 > 10000)) a0_0 a0_1 l0_2)) else (some (0, t162))) = some (r1, r2) := H
 have A4 := Aside0.mk A40
 clear A40
 by_cases c5 : t162 = 0
 ·rw [if_pos c5] at H
  have c5b0 : (t162 == 0) = true := beq_iff_eq.mpr c5
  have c5b1 : (t162 != 0) = false := bne_eq_false_iff_eq.mpr c5
  clear c5
  have HC6 := Aside0.mk H
  clear H
  go_enter Tryd.func10, Tryd.ntmps10
  go_upto_region 5 with (first | ((with_reducible refine gate_dst (N := 2) rfl ?_); refine box_event ?hg (N := 2) ?hd (cs := #[.int .i64 a0_0, .int .i64 a0_1, .slice A0_2 l0_2.length c0_2]) (t := 24) ?hr ?_; (case hd => rfl); (case hg => rfl); (case hr => first | (go_simp; done) | (go_simp; rfl)); intro gb159 hg w7 hbox hb; have n0_ := Aside0.mk (below_step be hb); have n1_ := Aside0.mk (hbox); have n2_ := gs hg HB; have n3_ := n2_; clear HB; have HB := n0_; have BK159 := n1_; have GW159 := n2_; have GE159 := n3_; clear n0_ n1_ n2_ n3_; clear hb hbox hg) | ((with_reducible refine gate_dst (N := 6) rfl ?_); (try (refine gate_guard (by rfl) ?_; dsimp only)); refine box_event ?hg (N := 6) ?hd (cs := #[.int .i64 0]) (t := 3) ?hr ?_; (case hd => rfl); (case hg => rfl); (case hr => first | (go_simp; done) | (go_simp; rfl)); intro g161 hg w8 hbox hb2; have hb := below_step be hb2; have hi : IsS119 w w8 g161 0 := ⟨hbox, by rw [hg]; exact (show Below w.heap.size w _ from be).size⟩; have hczn0_ : w8.cell? ⟨g161, 0, none⟩ = some (.int .i64 0) := (blk_cell hbox 0).trans rfl; have hfzn0_ := blk_frozen hbox 0; clear hg hbox; have n0_ := Aside0.mk (blk_below (g := gb159) (o := .cells #[.int .i64 a0_0, .int .i64 a0_1, .slice A0_2 l0_2.length c0_2] 24 (0, 0)) (bk BK159) hb2); have n1_ := Aside0.mk (hb); have n2_ := Aside0.mk (hi); have n3_ := Aside0.mk (IsS119.ne_blk hi (blk_below (g := gb159) (o := .cells #[.int .i64 a0_0, .int .i64 a0_1, .slice A0_2 l0_2.length c0_2] 24 (0, 0)) (bk BK159) hb2) (by decide)); have n4_ := Aside0.mk (Ne.symm (IsS119.ne_blk hi (blk_below (g := gb159) (o := .cells #[.int .i64 a0_0, .int .i64 a0_1, .slice A0_2 l0_2.length c0_2] 24 (0, 0)) (bk BK159) hb2) (by decide))); clear BK159; clear HB; have BK159 := n0_; have HB := n1_; have HI161 := n2_; have NB161_159 := n3_; have NB159_161 := n4_; clear n0_ n1_ n2_ n3_ n4_; (try clear hb); (try clear hb2); (try clear hk); (try clear hi); have hnb9 := NB159_161.out; have hnc9 := NB161_159.out; obtain ⟨hcz10_0, hcz10_1, hcz10_2, hfz10_0, hfz10_1, hfz10_2⟩ := bc3 BK159) | (go_at_call 24; (with_reducible refine (rule_walk.calls k a0_0 a0_1 _ _ l0_2 1 g161 (0 : Int) t162 t163 w _ ?side1 ?side2 ?side3 ?side4 hT A4.out).mono ?_); (case side1 => repeat (first | (with_reducible first | exact HI161.out | apply IsS119.alloc | apply IsS119.drewN | apply IsS119.drew | apply IsS119.set_0 | refine IsS119.far ?_ NB161_159.out _) | exact HI161.out)); (case side2 => repeat (first | (with_reducible first | exact HB.out | apply below_alloc | apply pw_below_drewN | apply below_drew1 | refine below_set ?_ (IsS119.ge HI161.out) | refine below_set ?_ GE159.out) | exact HB.out)); (case side3 => exact Kd.C_foot_came k24_heap HR0_2.out (by repeat (first | (with_reducible first | exact HB.out | apply below_alloc | apply pw_below_drewN | apply below_drew1 | refine below_set ?_ (IsS119.ge HI161.out) | refine below_set ?_ GE159.out) | exact HB.out)) (IsS119.ge HI161.out)); (case side4 => exact HC0_2.out); rintro e w11 ⟨rfl, hi, hb, hk⟩; have n0_ := Aside0.mk (KeepBut.blk hk (g' := gb159) (o := .cells #[.int .i64 a0_0, .int .i64 a0_1, .slice A0_2 l0_2.length c0_2] 24 (0, 0)) (by (with_reducible repeat (first | refine blk_drewN ?_ _ | refine blk_drew ?_ | refine blk_alloc ?_ _)); (try refine blk_far ?_ NB159_161.out _); (try refine blk_far ?_ NB159_161.out _); (with_reducible repeat (first | refine blk_drewN ?_ _ | refine blk_drew ?_ | refine blk_alloc ?_ _)); (try refine blk_far ?_ NB159_161.out _); (try refine blk_far ?_ NB159_161.out _); (with_reducible repeat (first | refine blk_drewN ?_ _ | refine blk_drew ?_ | refine blk_alloc ?_ _)); exact BK159.out) NB159_161.out (by simp)); have n1_ := Aside0.mk (hb); have n2_ := Aside0.mk (hi); clear BK159; clear HB; clear HI161; have BK159 := n0_; have HB := n1_; have HI161 := n2_; clear n0_ n1_ n2_; (try clear hb); (try clear hb2); (try clear hk); (try clear hi)))
  repeat (go_quiet (first | ((with_reducible refine gate_dst (N := 2) rfl ?_); refine box_event ?hg (N := 2) ?hd (cs := #[.int .i64 a0_0, .int .i64 a0_1, .slice A0_2 l0_2.length c0_2]) (t := 24) ?hr ?_; (case hd => rfl); (case hg => rfl); (case hr => first | (go_simp; done) | (go_simp; rfl)); intro gb159 hg w7 hbox hb; have n0_ := Aside0.mk (below_step be hb); have n1_ := Aside0.mk (hbox); have n2_ := gs hg HB; have n3_ := n2_; clear HB; have HB := n0_; have BK159 := n1_; have GW159 := n2_; have GE159 := n3_; clear n0_ n1_ n2_ n3_; clear hb hbox hg) | ((with_reducible refine gate_dst (N := 6) rfl ?_); (try (refine gate_guard (by rfl) ?_; dsimp only)); refine box_event ?hg (N := 6) ?hd (cs := #[.int .i64 0]) (t := 3) ?hr ?_; (case hd => rfl); (case hg => rfl); (case hr => first | (go_simp; done) | (go_simp; rfl)); intro g161 hg w8 hbox hb2; have hb := below_step be hb2; have hi : IsS119 w w8 g161 0 := ⟨hbox, by rw [hg]; exact (show Below w.heap.size w _ from be).size⟩; have hczn0_ : w8.cell? ⟨g161, 0, none⟩ = some (.int .i64 0) := (blk_cell hbox 0).trans rfl; have hfzn0_ := blk_frozen hbox 0; clear hg hbox; have n0_ := Aside0.mk (blk_below (g := gb159) (o := .cells #[.int .i64 a0_0, .int .i64 a0_1, .slice A0_2 l0_2.length c0_2] 24 (0, 0)) (bk BK159) hb2); have n1_ := Aside0.mk (hb); have n2_ := Aside0.mk (hi); have n3_ := Aside0.mk (IsS119.ne_blk hi (blk_below (g := gb159) (o := .cells #[.int .i64 a0_0, .int .i64 a0_1, .slice A0_2 l0_2.length c0_2] 24 (0, 0)) (bk BK159) hb2) (by decide)); have n4_ := Aside0.mk (Ne.symm (IsS119.ne_blk hi (blk_below (g := gb159) (o := .cells #[.int .i64 a0_0, .int .i64 a0_1, .slice A0_2 l0_2.length c0_2] 24 (0, 0)) (bk BK159) hb2) (by decide))); clear BK159; clear HB; have BK159 := n0_; have HB := n1_; have HI161 := n2_; have NB161_159 := n3_; have NB159_161 := n4_; clear n0_ n1_ n2_ n3_ n4_; (try clear hb); (try clear hb2); (try clear hk); (try clear hi); have hnb9 := NB159_161.out; have hnc9 := NB161_159.out; obtain ⟨hcz10_0, hcz10_1, hcz10_2, hfz10_0, hfz10_1, hfz10_2⟩ := bc3 BK159) | (go_at_call 24; (with_reducible refine (rule_walk.calls k a0_0 a0_1 _ _ l0_2 1 g161 (0 : Int) t162 t163 w _ ?side1 ?side2 ?side3 ?side4 hT A4.out).mono ?_); (case side1 => repeat (first | (with_reducible first | exact HI161.out | apply IsS119.alloc | apply IsS119.drewN | apply IsS119.drew | apply IsS119.set_0 | refine IsS119.far ?_ NB161_159.out _) | exact HI161.out)); (case side2 => repeat (first | (with_reducible first | exact HB.out | apply below_alloc | apply pw_below_drewN | apply below_drew1 | refine below_set ?_ (IsS119.ge HI161.out) | refine below_set ?_ GE159.out) | exact HB.out)); (case side3 => exact Kd.C_foot_came k24_heap HR0_2.out (by repeat (first | (with_reducible first | exact HB.out | apply below_alloc | apply pw_below_drewN | apply below_drew1 | refine below_set ?_ (IsS119.ge HI161.out) | refine below_set ?_ GE159.out) | exact HB.out)) (IsS119.ge HI161.out)); (case side4 => exact HC0_2.out); rintro e w11 ⟨rfl, hi, hb, hk⟩; have n0_ := Aside0.mk (KeepBut.blk hk (g' := gb159) (o := .cells #[.int .i64 a0_0, .int .i64 a0_1, .slice A0_2 l0_2.length c0_2] 24 (0, 0)) (by (with_reducible repeat (first | refine blk_drewN ?_ _ | refine blk_drew ?_ | refine blk_alloc ?_ _)); (try refine blk_far ?_ NB159_161.out _); (try refine blk_far ?_ NB159_161.out _); (with_reducible repeat (first | refine blk_drewN ?_ _ | refine blk_drew ?_ | refine blk_alloc ?_ _)); (try refine blk_far ?_ NB159_161.out _); (try refine blk_far ?_ NB159_161.out _); (with_reducible repeat (first | refine blk_drewN ?_ _ | refine blk_drew ?_ | refine blk_alloc ?_ _)); exact BK159.out) NB159_161.out (by simp)); have n1_ := Aside0.mk (hb); have n2_ := Aside0.mk (hi); clear BK159; clear HB; clear HI161; have BK159 := n0_; have HB := n1_; have HI161 := n2_; clear n0_ n1_ n2_; (try clear hb); (try clear hb2); (try clear hk); (try clear hi))); go_upto_region 5 with (first | ((with_reducible refine gate_dst (N := 2) rfl ?_); refine box_event ?hg (N := 2) ?hd (cs := #[.int .i64 a0_0, .int .i64 a0_1, .slice A0_2 l0_2.length c0_2]) (t := 24) ?hr ?_; (case hd => rfl); (case hg => rfl); (case hr => first | (go_simp; done) | (go_simp; rfl)); intro gb159 hg w7 hbox hb; have n0_ := Aside0.mk (below_step be hb); have n1_ := Aside0.mk (hbox); have n2_ := gs hg HB; have n3_ := n2_; clear HB; have HB := n0_; have BK159 := n1_; have GW159 := n2_; have GE159 := n3_; clear n0_ n1_ n2_ n3_; clear hb hbox hg) | ((with_reducible refine gate_dst (N := 6) rfl ?_); (try (refine gate_guard (by rfl) ?_; dsimp only)); refine box_event ?hg (N := 6) ?hd (cs := #[.int .i64 0]) (t := 3) ?hr ?_; (case hd => rfl); (case hg => rfl); (case hr => first | (go_simp; done) | (go_simp; rfl)); intro g161 hg w8 hbox hb2; have hb := below_step be hb2; have hi : IsS119 w w8 g161 0 := ⟨hbox, by rw [hg]; exact (show Below w.heap.size w _ from be).size⟩; have hczn0_ : w8.cell? ⟨g161, 0, none⟩ = some (.int .i64 0) := (blk_cell hbox 0).trans rfl; have hfzn0_ := blk_frozen hbox 0; clear hg hbox; have n0_ := Aside0.mk (blk_below (g := gb159) (o := .cells #[.int .i64 a0_0, .int .i64 a0_1, .slice A0_2 l0_2.length c0_2] 24 (0, 0)) (bk BK159) hb2); have n1_ := Aside0.mk (hb); have n2_ := Aside0.mk (hi); have n3_ := Aside0.mk (IsS119.ne_blk hi (blk_below (g := gb159) (o := .cells #[.int .i64 a0_0, .int .i64 a0_1, .slice A0_2 l0_2.length c0_2] 24 (0, 0)) (bk BK159) hb2) (by decide)); have n4_ := Aside0.mk (Ne.symm (IsS119.ne_blk hi (blk_below (g := gb159) (o := .cells #[.int .i64 a0_0, .int .i64 a0_1, .slice A0_2 l0_2.length c0_2] 24 (0, 0)) (bk BK159) hb2) (by decide))); clear BK159; clear HB; have BK159 := n0_; have HB := n1_; have HI161 := n2_; have NB161_159 := n3_; have NB159_161 := n4_; clear n0_ n1_ n2_ n3_ n4_; (try clear hb); (try clear hb2); (try clear hk); (try clear hi); have hnb9 := NB159_161.out; have hnc9 := NB161_159.out; obtain ⟨hcz10_0, hcz10_1, hcz10_2, hfz10_0, hfz10_1, hfz10_2⟩ := bc3 BK159) | (go_at_call 24; (with_reducible refine (rule_walk.calls k a0_0 a0_1 _ _ l0_2 1 g161 (0 : Int) t162 t163 w _ ?side1 ?side2 ?side3 ?side4 hT A4.out).mono ?_); (case side1 => repeat (first | (with_reducible first | exact HI161.out | apply IsS119.alloc | apply IsS119.drewN | apply IsS119.drew | apply IsS119.set_0 | refine IsS119.far ?_ NB161_159.out _) | exact HI161.out)); (case side2 => repeat (first | (with_reducible first | exact HB.out | apply below_alloc | apply pw_below_drewN | apply below_drew1 | refine below_set ?_ (IsS119.ge HI161.out) | refine below_set ?_ GE159.out) | exact HB.out)); (case side3 => exact Kd.C_foot_came k24_heap HR0_2.out (by repeat (first | (with_reducible first | exact HB.out | apply below_alloc | apply pw_below_drewN | apply below_drew1 | refine below_set ?_ (IsS119.ge HI161.out) | refine below_set ?_ GE159.out) | exact HB.out)) (IsS119.ge HI161.out)); (case side4 => exact HC0_2.out); rintro e w11 ⟨rfl, hi, hb, hk⟩; have n0_ := Aside0.mk (KeepBut.blk hk (g' := gb159) (o := .cells #[.int .i64 a0_0, .int .i64 a0_1, .slice A0_2 l0_2.length c0_2] 24 (0, 0)) (by (with_reducible repeat (first | refine blk_drewN ?_ _ | refine blk_drew ?_ | refine blk_alloc ?_ _)); (try refine blk_far ?_ NB159_161.out _); (try refine blk_far ?_ NB159_161.out _); (with_reducible repeat (first | refine blk_drewN ?_ _ | refine blk_drew ?_ | refine blk_alloc ?_ _)); (try refine blk_far ?_ NB159_161.out _); (try refine blk_far ?_ NB159_161.out _); (with_reducible repeat (first | refine blk_drewN ?_ _ | refine blk_drew ?_ | refine blk_alloc ?_ _)); exact BK159.out) NB159_161.out (by simp)); have n1_ := Aside0.mk (hb); have n2_ := Aside0.mk (hi); clear BK159; clear HB; clear HI161; have BK159 := n0_; have HB := n1_; have HI161 := n2_; clear n0_ n1_ n2_; (try clear hb); (try clear hb2); (try clear hk); (try clear hi))))
  (try simp only [Act.put, List.setIfInBounds_toArray, List.set_cons_zero, List.set_cons_succ])
  go_cut [20] (fun v20 wc => ∃ (kq : Nat) (x20_5 : Bool), v20 = .bool x20_5 ∧ Aside0 (rule_Eval.j0 kq a1 x20_5 a0_0 a0_1 l0_2 = some (r1, r2)) ∧ Aside0 (kq ≤ k) ∧ Aside0 (wc.heap[gb159]? = some (.cells #[.int .i64 a0_0, .int .i64 a0_1, (.slice A0_2 l0_2.length c0_2)] 24 (0, 0))) ∧ Aside0 (Below w.heap.size w wc))
  case first =>
   have H := HC6.out
   clear HC6
   by_cases c12 : a1 < (-10000)
   ·rw [if_pos c12] at H
    have c12b0 : decide (a1 < (-10000)) = true := decide_eq_true c12
    clear c12
    (first | rw [c12b0] | (simp only [i64_w, i32_w]; rw [c12b0]) | skip)
    have H' := Aside0.mk H
    clear H
    go_wp2
    repeat (go_quiet (fail); try go_wp2)
    go_meet
    case rel => exact ⟨_, (true), rs, H', ⟨by first | omega | exact Nat.le_refl _⟩, ⟨bk BK159⟩, ⟨by repeat (first | (with_reducible first | exact HB.out | apply below_alloc | apply pw_below_drewN | apply below_drew1 | refine below_set ?_ (IsS119.ge HI161.out) | refine below_set ?_ GE159.out) | exact HB.out)⟩⟩
   ·rw [if_neg c12] at H
    have c12b0 : decide (a1 < (-10000)) = false := decide_eq_false c12
    clear c12
    (first | rw [c12b0] | (simp only [i64_w, i32_w]; rw [c12b0]) | skip)
    have H' := Aside0.mk H
    clear H
    go_wp2
    repeat (go_quiet (fail); try go_wp2)
    go_meet
    case rel => exact ⟨_, (decide (a1 > 10000)), rs, H', ⟨by first | omega | exact Nat.le_refl _⟩, ⟨bk BK159⟩, ⟨by repeat (first | (with_reducible first | exact HB.out | apply below_alloc | apply pw_below_drewN | apply below_drew1 | refine below_set ?_ (IsS119.ge HI161.out) | refine below_set ?_ GE159.out) | exact HB.out)⟩⟩
  case rest =>
   clear HC6
   (try clear c1); (try clear p2); (try clear c5); (try clear c5b0); (try clear c5b1); (try clear c9); (try clear c10); (try clear c12); (try clear c12b0); (try clear hcz10_0); (try clear hcz10_1); (try clear hcz10_2); (try clear hfz10_0); (try clear hfz10_1); (try clear hfz10_2)
   obtain ⟨kq, x20_5, rfl, HA, HJ5, BK159, HB⟩ := hcut
   cases kq with
   | zero => exact absurd HA.out (by simp [rule_Eval.j0])
   | succ kj5 =>
    have H := HA.out
    clear HA
    simp only [rule_Eval.j0] at H
    by_cases c13 : x20_5 = true
    ·subst c13
     have H1 : (some (0, 3)) = some (r1, r2) := by rw [if_pos rfl] at H; exact H
     clear H
     have H := H1
     clear H1
     simp only [Option.some.injEq, Prod.mk.injEq] at H
     obtain ⟨rfl, rfl⟩ := H
     go_wp2
     repeat (go_quiet (fail); try go_wp2)
     go_ret2
     exact ⟨by first | rfl | (simp [errW_none, errW_some] <;> rfl) | (simp [*, errW_none, errW_some] <;> rfl), be⟩
    ·replace c13 := Bool.eq_false_iff.mpr c13
     subst c13
     have H1 : ((runtime_errorAddressString_RuntimeError.f a1).bind fun bt164 => ((rule_machine_value.f kj5 bt164.1 bt164.2 a0_0 a0_1 l0_2).bind fun bt167 => (some (bt167.1, bt167.2.2)))) = some (r1, r2) := by rw [if_neg (show ¬ (false = true) by decide)] at H; exact H
     clear H
     have H := H1
     clear H1
     replace H := Option.bind_eq_some_iff.mp H
     obtain ⟨⟨t164, t165⟩, A140, H⟩ := H
     obtain ⟨rfl, rfl⟩ : a1 = t164 ∧ (0 : Int) = t165 := Prod.mk.inj (Option.some.inj A140)
     replace H : ((rule_machine_value.f kj5 a1 (0 : Int) a0_0 a0_1 l0_2).bind fun bt167 => (some (bt167.1, bt167.2.2))) = some (r1, r2) := H
     have A14 := Aside0.mk A140
     clear A140
     replace H := Option.bind_eq_some_iff.mp H
     obtain ⟨⟨t167, t168, t169⟩, A150, H⟩ := H
     replace H : (some (t167, t169)) = some (r1, r2) := H
     have A15 := Aside0.mk A150
     clear A150
     simp only [Option.some.injEq, Prod.mk.injEq] at H
     obtain ⟨rfl, rfl⟩ := H
     go_wp2_with (first | ((with_reducible refine gate_dst (N := 8) rfl ?_); (try (refine gate_guard (by rfl) ?_; dsimp only)); refine box_event ?hg (N := 8) ?hd (cs := #[.int .i64 0, .int .i64 0]) (t := 60) ?hr ?_; (case hd => rfl); (case hg => rfl); (case hr => first | (go_simp; done) | (go_simp; rfl)); intro g166 hg w16 hbox hb2; have hb := below_step be hb2; have hi : IsS60 w w16 g166 0 0 := ⟨hbox, by rw [hg]; exact (show Below w.heap.size w _ from be).size⟩; have hczn0_ : w16.cell? ⟨g166, 0, none⟩ = some (.int .i64 0) := (blk_cell hbox 0).trans rfl; have hfzn0_ := blk_frozen hbox 0; have hczn1_ : w16.cell? ⟨g166, 1, none⟩ = some (.int .i64 0) := (blk_cell hbox 1).trans rfl; have hfzn1_ := blk_frozen hbox 1; clear hg hbox; have n0_ := Aside0.mk (blk_below (g := gb159) (o := .cells #[.int .i64 a0_0, .int .i64 a0_1, .slice A0_2 l0_2.length c0_2] 24 (0, 0)) (bk BK159) hb2); have n1_ := Aside0.mk (hb); have n2_ := Aside0.mk (hi); have n3_ := Aside0.mk (IsS60.ne_blk hi (blk_below (g := gb159) (o := .cells #[.int .i64 a0_0, .int .i64 a0_1, .slice A0_2 l0_2.length c0_2] 24 (0, 0)) (bk BK159) hb2) (by decide)); have n4_ := Aside0.mk (Ne.symm (IsS60.ne_blk hi (blk_below (g := gb159) (o := .cells #[.int .i64 a0_0, .int .i64 a0_1, .slice A0_2 l0_2.length c0_2] 24 (0, 0)) (bk BK159) hb2) (by decide))); clear BK159; clear HB; have BK159 := n0_; have HB := n1_; have HI166 := n2_; have NB166_159 := n3_; have NB159_166 := n4_; clear n0_ n1_ n2_ n3_ n4_; (try clear hb); (try clear hb2); (try clear hk); (try clear hi); have hnb17 := NB159_166.out; have hnc17 := NB166_159.out; obtain ⟨hcz18_0, hcz18_1, hcz18_2, hfz18_0, hfz18_1, hfz18_2⟩ := bc3 BK159) | (go_at_call 29; (with_reducible refine (rule_machine_value.calls kj5 g166 a1 (0 : Int) a0_0 a0_1 _ _ l0_2 t167 t168 t169 w _ ?side1 ?side2 ?side3 ?side4 A15.out).mono ?_); (case side1 => repeat (first | (with_reducible first | exact HI166.out | apply IsS60.alloc | apply IsS60.drewN | apply IsS60.drew | apply IsS60.set_0 | apply IsS60.set_1 | refine IsS60.far ?_ NB166_159.out _) | exact HI166.out)); (case side2 => repeat (first | (with_reducible first | exact HB.out | apply below_alloc | apply pw_below_drewN | apply below_drew1 | refine below_set ?_ (IsS60.ge HI166.out) | refine below_set ?_ GE159.out) | exact HB.out)); (case side3 => exact Kd.C_foot_came k24_heap HR0_2.out (by repeat (first | (with_reducible first | exact HB.out | apply below_alloc | apply pw_below_drewN | apply below_drew1 | refine below_set ?_ (IsS60.ge HI166.out) | refine below_set ?_ GE159.out) | exact HB.out)) (IsS60.ge HI166.out)); (case side4 => exact HC0_2.out); rintro e w19 ⟨rfl, hi, hb, hk⟩; have n0_ := Aside0.mk (KeepBut.blk hk (g' := gb159) (o := .cells #[.int .i64 a0_0, .int .i64 a0_1, .slice A0_2 l0_2.length c0_2] 24 (0, 0)) (by (with_reducible repeat (first | refine blk_drewN ?_ _ | refine blk_drew ?_ | refine blk_alloc ?_ _)); (try refine blk_far ?_ NB159_166.out _); (try refine blk_far ?_ NB159_166.out _); (with_reducible repeat (first | refine blk_drewN ?_ _ | refine blk_drew ?_ | refine blk_alloc ?_ _)); (try refine blk_far ?_ NB159_166.out _); (try refine blk_far ?_ NB159_166.out _); (with_reducible repeat (first | refine blk_drewN ?_ _ | refine blk_drew ?_ | refine blk_alloc ?_ _)); exact BK159.out) NB159_166.out (by simp)); have n1_ := Aside0.mk (hb); have n2_ := Aside0.mk (hi); clear BK159; clear HB; clear HI166; have BK159 := n0_; have HB := n1_; have HI166 := n2_; clear n0_ n1_ n2_; (try clear hb); (try clear hb2); (try clear hk); (try clear hi); obtain ⟨HGz20, hgz20⟩ := HI166.out; have hcz20_0 := cellS60_0 HGz20; have hcz20_1 := cellS60_1 HGz20; have hfz20_0 := blk_frozen HGz20 0; have hfz20_1 := blk_frozen HGz20 1; clear HGz20 hgz20))
     repeat (go_quiet (first | ((with_reducible refine gate_dst (N := 8) rfl ?_); (try (refine gate_guard (by rfl) ?_; dsimp only)); refine box_event ?hg (N := 8) ?hd (cs := #[.int .i64 0, .int .i64 0]) (t := 60) ?hr ?_; (case hd => rfl); (case hg => rfl); (case hr => first | (go_simp; done) | (go_simp; rfl)); intro g166 hg w16 hbox hb2; have hb := below_step be hb2; have hi : IsS60 w w16 g166 0 0 := ⟨hbox, by rw [hg]; exact (show Below w.heap.size w _ from be).size⟩; have hczn0_ : w16.cell? ⟨g166, 0, none⟩ = some (.int .i64 0) := (blk_cell hbox 0).trans rfl; have hfzn0_ := blk_frozen hbox 0; have hczn1_ : w16.cell? ⟨g166, 1, none⟩ = some (.int .i64 0) := (blk_cell hbox 1).trans rfl; have hfzn1_ := blk_frozen hbox 1; clear hg hbox; have n0_ := Aside0.mk (blk_below (g := gb159) (o := .cells #[.int .i64 a0_0, .int .i64 a0_1, .slice A0_2 l0_2.length c0_2] 24 (0, 0)) (bk BK159) hb2); have n1_ := Aside0.mk (hb); have n2_ := Aside0.mk (hi); have n3_ := Aside0.mk (IsS60.ne_blk hi (blk_below (g := gb159) (o := .cells #[.int .i64 a0_0, .int .i64 a0_1, .slice A0_2 l0_2.length c0_2] 24 (0, 0)) (bk BK159) hb2) (by decide)); have n4_ := Aside0.mk (Ne.symm (IsS60.ne_blk hi (blk_below (g := gb159) (o := .cells #[.int .i64 a0_0, .int .i64 a0_1, .slice A0_2 l0_2.length c0_2] 24 (0, 0)) (bk BK159) hb2) (by decide))); clear BK159; clear HB; have BK159 := n0_; have HB := n1_; have HI166 := n2_; have NB166_159 := n3_; have NB159_166 := n4_; clear n0_ n1_ n2_ n3_ n4_; (try clear hb); (try clear hb2); (try clear hk); (try clear hi); have hnb17 := NB159_166.out; have hnc17 := NB166_159.out; obtain ⟨hcz18_0, hcz18_1, hcz18_2, hfz18_0, hfz18_1, hfz18_2⟩ := bc3 BK159) | (go_at_call 29; (with_reducible refine (rule_machine_value.calls kj5 g166 a1 (0 : Int) a0_0 a0_1 _ _ l0_2 t167 t168 t169 w _ ?side1 ?side2 ?side3 ?side4 A15.out).mono ?_); (case side1 => repeat (first | (with_reducible first | exact HI166.out | apply IsS60.alloc | apply IsS60.drewN | apply IsS60.drew | apply IsS60.set_0 | apply IsS60.set_1 | refine IsS60.far ?_ NB166_159.out _) | exact HI166.out)); (case side2 => repeat (first | (with_reducible first | exact HB.out | apply below_alloc | apply pw_below_drewN | apply below_drew1 | refine below_set ?_ (IsS60.ge HI166.out) | refine below_set ?_ GE159.out) | exact HB.out)); (case side3 => exact Kd.C_foot_came k24_heap HR0_2.out (by repeat (first | (with_reducible first | exact HB.out | apply below_alloc | apply pw_below_drewN | apply below_drew1 | refine below_set ?_ (IsS60.ge HI166.out) | refine below_set ?_ GE159.out) | exact HB.out)) (IsS60.ge HI166.out)); (case side4 => exact HC0_2.out); rintro e w19 ⟨rfl, hi, hb, hk⟩; have n0_ := Aside0.mk (KeepBut.blk hk (g' := gb159) (o := .cells #[.int .i64 a0_0, .int .i64 a0_1, .slice A0_2 l0_2.length c0_2] 24 (0, 0)) (by (with_reducible repeat (first | refine blk_drewN ?_ _ | refine blk_drew ?_ | refine blk_alloc ?_ _)); (try refine blk_far ?_ NB159_166.out _); (try refine blk_far ?_ NB159_166.out _); (with_reducible repeat (first | refine blk_drewN ?_ _ | refine blk_drew ?_ | refine blk_alloc ?_ _)); (try refine blk_far ?_ NB159_166.out _); (try refine blk_far ?_ NB159_166.out _); (with_reducible repeat (first | refine blk_drewN ?_ _ | refine blk_drew ?_ | refine blk_alloc ?_ _)); exact BK159.out) NB159_166.out (by simp)); have n1_ := Aside0.mk (hb); have n2_ := Aside0.mk (hi); clear BK159; clear HB; clear HI166; have BK159 := n0_; have HB := n1_; have HI166 := n2_; clear n0_ n1_ n2_; (try clear hb); (try clear hb2); (try clear hk); (try clear hi); obtain ⟨HGz20, hgz20⟩ := HI166.out; have hcz20_0 := cellS60_0 HGz20; have hcz20_1 := cellS60_1 HGz20; have hfz20_0 := blk_frozen HGz20 0; have hfz20_1 := blk_frozen HGz20 1; clear HGz20 hgz20)); try go_wp2_with (first | ((with_reducible refine gate_dst (N := 8) rfl ?_); (try (refine gate_guard (by rfl) ?_; dsimp only)); refine box_event ?hg (N := 8) ?hd (cs := #[.int .i64 0, .int .i64 0]) (t := 60) ?hr ?_; (case hd => rfl); (case hg => rfl); (case hr => first | (go_simp; done) | (go_simp; rfl)); intro g166 hg w16 hbox hb2; have hb := below_step be hb2; have hi : IsS60 w w16 g166 0 0 := ⟨hbox, by rw [hg]; exact (show Below w.heap.size w _ from be).size⟩; have hczn0_ : w16.cell? ⟨g166, 0, none⟩ = some (.int .i64 0) := (blk_cell hbox 0).trans rfl; have hfzn0_ := blk_frozen hbox 0; have hczn1_ : w16.cell? ⟨g166, 1, none⟩ = some (.int .i64 0) := (blk_cell hbox 1).trans rfl; have hfzn1_ := blk_frozen hbox 1; clear hg hbox; have n0_ := Aside0.mk (blk_below (g := gb159) (o := .cells #[.int .i64 a0_0, .int .i64 a0_1, .slice A0_2 l0_2.length c0_2] 24 (0, 0)) (bk BK159) hb2); have n1_ := Aside0.mk (hb); have n2_ := Aside0.mk (hi); have n3_ := Aside0.mk (IsS60.ne_blk hi (blk_below (g := gb159) (o := .cells #[.int .i64 a0_0, .int .i64 a0_1, .slice A0_2 l0_2.length c0_2] 24 (0, 0)) (bk BK159) hb2) (by decide)); have n4_ := Aside0.mk (Ne.symm (IsS60.ne_blk hi (blk_below (g := gb159) (o := .cells #[.int .i64 a0_0, .int .i64 a0_1, .slice A0_2 l0_2.length c0_2] 24 (0, 0)) (bk BK159) hb2) (by decide))); clear BK159; clear HB; have BK159 := n0_; have HB := n1_; have HI166 := n2_; have NB166_159 := n3_; have NB159_166 := n4_; clear n0_ n1_ n2_ n3_ n4_; (try clear hb); (try clear hb2); (try clear hk); (try clear hi); have hnb17 := NB159_166.out; have hnc17 := NB166_159.out; obtain ⟨hcz18_0, hcz18_1, hcz18_2, hfz18_0, hfz18_1, hfz18_2⟩ := bc3 BK159) | (go_at_call 29; (with_reducible refine (rule_machine_value.calls kj5 g166 a1 (0 : Int) a0_0 a0_1 _ _ l0_2 t167 t168 t169 w _ ?side1 ?side2 ?side3 ?side4 A15.out).mono ?_); (case side1 => repeat (first | (with_reducible first | exact HI166.out | apply IsS60.alloc | apply IsS60.drewN | apply IsS60.drew | apply IsS60.set_0 | apply IsS60.set_1 | refine IsS60.far ?_ NB166_159.out _) | exact HI166.out)); (case side2 => repeat (first | (with_reducible first | exact HB.out | apply below_alloc | apply pw_below_drewN | apply below_drew1 | refine below_set ?_ (IsS60.ge HI166.out) | refine below_set ?_ GE159.out) | exact HB.out)); (case side3 => exact Kd.C_foot_came k24_heap HR0_2.out (by repeat (first | (with_reducible first | exact HB.out | apply below_alloc | apply pw_below_drewN | apply below_drew1 | refine below_set ?_ (IsS60.ge HI166.out) | refine below_set ?_ GE159.out) | exact HB.out)) (IsS60.ge HI166.out)); (case side4 => exact HC0_2.out); rintro e w19 ⟨rfl, hi, hb, hk⟩; have n0_ := Aside0.mk (KeepBut.blk hk (g' := gb159) (o := .cells #[.int .i64 a0_0, .int .i64 a0_1, .slice A0_2 l0_2.length c0_2] 24 (0, 0)) (by (with_reducible repeat (first | refine blk_drewN ?_ _ | refine blk_drew ?_ | refine blk_alloc ?_ _)); (try refine blk_far ?_ NB159_166.out _); (try refine blk_far ?_ NB159_166.out _); (with_reducible repeat (first | refine blk_drewN ?_ _ | refine blk_drew ?_ | refine blk_alloc ?_ _)); (try refine blk_far ?_ NB159_166.out _); (try refine blk_far ?_ NB159_166.out _); (with_reducible repeat (first | refine blk_drewN ?_ _ | refine blk_drew ?_ | refine blk_alloc ?_ _)); exact BK159.out) NB159_166.out (by simp)); have n1_ := Aside0.mk (hb); have n2_ := Aside0.mk (hi); clear BK159; clear HB; clear HI166; have BK159 := n0_; have HB := n1_; have HI166 := n2_; clear n0_ n1_ n2_; (try clear hb); (try clear hb2); (try clear hk); (try clear hi); obtain ⟨HGz20, hgz20⟩ := HI166.out; have hcz20_0 := cellS60_0 HGz20; have hcz20_1 := cellS60_1 HGz20; have hfz20_0 := blk_frozen HGz20 0; have hfz20_1 := blk_frozen HGz20 1; clear HGz20 hgz20)))
     go_ret2
     exact ⟨by first | rfl | (simp [errW_none, errW_some] <;> rfl) | (simp [*, errW_none, errW_some] <;> rfl), by repeat (first | (with_reducible first | exact HB.out | apply below_alloc | apply pw_below_drewN | apply below_drew1 | refine below_set ?_ (IsS60.ge HI166.out) | refine below_set ?_ GE159.out) | exact HB.out)⟩
 ·rw [if_neg c5] at H
  have c5b0 : (t162 == 0) = false := beq_eq_false_iff_ne.mpr c5
  have c5b1 : (t162 != 0) = true := bne_iff_ne.mpr c5
  simp only [Option.some.injEq, Prod.mk.injEq] at H
  obtain ⟨rfl, rfl⟩ := H
  go_enter Tryd.func10, Tryd.ntmps10
  go_wp2_with (first | ((with_reducible refine gate_dst (N := 2) rfl ?_); refine box_event ?hg (N := 2) ?hd (cs := #[.int .i64 a0_0, .int .i64 a0_1, .slice A0_2 l0_2.length c0_2]) (t := 24) ?hr ?_; (case hd => rfl); (case hg => rfl); (case hr => first | (go_simp; done) | (go_simp; rfl)); intro gb159 hg w21 hbox hb; have n0_ := Aside0.mk (below_step be hb); have n1_ := Aside0.mk (hbox); have n2_ := gs hg HB; have n3_ := n2_; clear HB; have HB := n0_; have BK159 := n1_; have GW159 := n2_; have GE159 := n3_; clear n0_ n1_ n2_ n3_; clear hb hbox hg) | ((with_reducible refine gate_dst (N := 6) rfl ?_); (try (refine gate_guard (by rfl) ?_; dsimp only)); refine box_event ?hg (N := 6) ?hd (cs := #[.int .i64 0]) (t := 3) ?hr ?_; (case hd => rfl); (case hg => rfl); (case hr => first | (go_simp; done) | (go_simp; rfl)); intro g161 hg w22 hbox hb2; have hb := below_step be hb2; have hi : IsS119 w w22 g161 0 := ⟨hbox, by rw [hg]; exact (show Below w.heap.size w _ from be).size⟩; have hczn0_ : w22.cell? ⟨g161, 0, none⟩ = some (.int .i64 0) := (blk_cell hbox 0).trans rfl; have hfzn0_ := blk_frozen hbox 0; clear hg hbox; have n0_ := Aside0.mk (blk_below (g := gb159) (o := .cells #[.int .i64 a0_0, .int .i64 a0_1, .slice A0_2 l0_2.length c0_2] 24 (0, 0)) (bk BK159) hb2); have n1_ := Aside0.mk (hb); have n2_ := Aside0.mk (hi); have n3_ := Aside0.mk (IsS119.ne_blk hi (blk_below (g := gb159) (o := .cells #[.int .i64 a0_0, .int .i64 a0_1, .slice A0_2 l0_2.length c0_2] 24 (0, 0)) (bk BK159) hb2) (by decide)); have n4_ := Aside0.mk (Ne.symm (IsS119.ne_blk hi (blk_below (g := gb159) (o := .cells #[.int .i64 a0_0, .int .i64 a0_1, .slice A0_2 l0_2.length c0_2] 24 (0, 0)) (bk BK159) hb2) (by decide))); clear BK159; clear HB; have BK159 := n0_; have HB := n1_; have HI161 := n2_; have NB161_159 := n3_; have NB159_161 := n4_; clear n0_ n1_ n2_ n3_ n4_; (try clear hb); (try clear hb2); (try clear hk); (try clear hi); have hnb23 := NB159_161.out; have hnc23 := NB161_159.out; obtain ⟨hcz24_0, hcz24_1, hcz24_2, hfz24_0, hfz24_1, hfz24_2⟩ := bc3 BK159) | (go_at_call 24; (with_reducible refine (rule_walk.calls k a0_0 a0_1 _ _ l0_2 1 g161 (0 : Int) t162 t163 w _ ?side1 ?side2 ?side3 ?side4 hT A4.out).mono ?_); (case side1 => repeat (first | (with_reducible first | exact HI161.out | apply IsS119.alloc | apply IsS119.drewN | apply IsS119.drew | apply IsS119.set_0 | refine IsS119.far ?_ NB161_159.out _) | exact HI161.out)); (case side2 => repeat (first | (with_reducible first | exact HB.out | apply below_alloc | apply pw_below_drewN | apply below_drew1 | refine below_set ?_ (IsS119.ge HI161.out) | refine below_set ?_ GE159.out) | exact HB.out)); (case side3 => exact Kd.C_foot_came k24_heap HR0_2.out (by repeat (first | (with_reducible first | exact HB.out | apply below_alloc | apply pw_below_drewN | apply below_drew1 | refine below_set ?_ (IsS119.ge HI161.out) | refine below_set ?_ GE159.out) | exact HB.out)) (IsS119.ge HI161.out)); (case side4 => exact HC0_2.out); rintro e w25 ⟨rfl, hi, hb, hk⟩; have n0_ := Aside0.mk (KeepBut.blk hk (g' := gb159) (o := .cells #[.int .i64 a0_0, .int .i64 a0_1, .slice A0_2 l0_2.length c0_2] 24 (0, 0)) (by (with_reducible repeat (first | refine blk_drewN ?_ _ | refine blk_drew ?_ | refine blk_alloc ?_ _)); (try refine blk_far ?_ NB159_161.out _); (try refine blk_far ?_ NB159_161.out _); (with_reducible repeat (first | refine blk_drewN ?_ _ | refine blk_drew ?_ | refine blk_alloc ?_ _)); (try refine blk_far ?_ NB159_161.out _); (try refine blk_far ?_ NB159_161.out _); (with_reducible repeat (first | refine blk_drewN ?_ _ | refine blk_drew ?_ | refine blk_alloc ?_ _)); exact BK159.out) NB159_161.out (by simp)); have n1_ := Aside0.mk (hb); have n2_ := Aside0.mk (hi); clear BK159; clear HB; clear HI161; have BK159 := n0_; have HB := n1_; have HI161 := n2_; clear n0_ n1_ n2_; (try clear hb); (try clear hb2); (try clear hk); (try clear hi)))
  repeat (go_quiet (first | ((with_reducible refine gate_dst (N := 2) rfl ?_); refine box_event ?hg (N := 2) ?hd (cs := #[.int .i64 a0_0, .int .i64 a0_1, .slice A0_2 l0_2.length c0_2]) (t := 24) ?hr ?_; (case hd => rfl); (case hg => rfl); (case hr => first | (go_simp; done) | (go_simp; rfl)); intro gb159 hg w21 hbox hb; have n0_ := Aside0.mk (below_step be hb); have n1_ := Aside0.mk (hbox); have n2_ := gs hg HB; have n3_ := n2_; clear HB; have HB := n0_; have BK159 := n1_; have GW159 := n2_; have GE159 := n3_; clear n0_ n1_ n2_ n3_; clear hb hbox hg) | ((with_reducible refine gate_dst (N := 6) rfl ?_); (try (refine gate_guard (by rfl) ?_; dsimp only)); refine box_event ?hg (N := 6) ?hd (cs := #[.int .i64 0]) (t := 3) ?hr ?_; (case hd => rfl); (case hg => rfl); (case hr => first | (go_simp; done) | (go_simp; rfl)); intro g161 hg w22 hbox hb2; have hb := below_step be hb2; have hi : IsS119 w w22 g161 0 := ⟨hbox, by rw [hg]; exact (show Below w.heap.size w _ from be).size⟩; have hczn0_ : w22.cell? ⟨g161, 0, none⟩ = some (.int .i64 0) := (blk_cell hbox 0).trans rfl; have hfzn0_ := blk_frozen hbox 0; clear hg hbox; have n0_ := Aside0.mk (blk_below (g := gb159) (o := .cells #[.int .i64 a0_0, .int .i64 a0_1, .slice A0_2 l0_2.length c0_2] 24 (0, 0)) (bk BK159) hb2); have n1_ := Aside0.mk (hb); have n2_ := Aside0.mk (hi); have n3_ := Aside0.mk (IsS119.ne_blk hi (blk_below (g := gb159) (o := .cells #[.int .i64 a0_0, .int .i64 a0_1, .slice A0_2 l0_2.length c0_2] 24 (0, 0)) (bk BK159) hb2) (by decide)); have n4_ := Aside0.mk (Ne.symm (IsS119.ne_blk hi (blk_below (g := gb159) (o := .cells #[.int .i64 a0_0, .int .i64 a0_1, .slice A0_2 l0_2.length c0_2] 24 (0, 0)) (bk BK159) hb2) (by decide))); clear BK159; clear HB; have BK159 := n0_; have HB := n1_; have HI161 := n2_; have NB161_159 := n3_; have NB159_161 := n4_; clear n0_ n1_ n2_ n3_ n4_; (try clear hb); (try clear hb2); (try clear hk); (try clear hi); have hnb23 := NB159_161.out; have hnc23 := NB161_159.out; obtain ⟨hcz24_0, hcz24_1, hcz24_2, hfz24_0, hfz24_1, hfz24_2⟩ := bc3 BK159) | (go_at_call 24; (with_reducible refine (rule_walk.calls k a0_0 a0_1 _ _ l0_2 1 g161 (0 : Int) t162 t163 w _ ?side1 ?side2 ?side3 ?side4 hT A4.out).mono ?_); (case side1 => repeat (first | (with_reducible first | exact HI161.out | apply IsS119.alloc | apply IsS119.drewN | apply IsS119.drew | apply IsS119.set_0 | refine IsS119.far ?_ NB161_159.out _) | exact HI161.out)); (case side2 => repeat (first | (with_reducible first | exact HB.out | apply below_alloc | apply pw_below_drewN | apply below_drew1 | refine below_set ?_ (IsS119.ge HI161.out) | refine below_set ?_ GE159.out) | exact HB.out)); (case side3 => exact Kd.C_foot_came k24_heap HR0_2.out (by repeat (first | (with_reducible first | exact HB.out | apply below_alloc | apply pw_below_drewN | apply below_drew1 | refine below_set ?_ (IsS119.ge HI161.out) | refine below_set ?_ GE159.out) | exact HB.out)) (IsS119.ge HI161.out)); (case side4 => exact HC0_2.out); rintro e w25 ⟨rfl, hi, hb, hk⟩; have n0_ := Aside0.mk (KeepBut.blk hk (g' := gb159) (o := .cells #[.int .i64 a0_0, .int .i64 a0_1, .slice A0_2 l0_2.length c0_2] 24 (0, 0)) (by (with_reducible repeat (first | refine blk_drewN ?_ _ | refine blk_drew ?_ | refine blk_alloc ?_ _)); (try refine blk_far ?_ NB159_161.out _); (try refine blk_far ?_ NB159_161.out _); (with_reducible repeat (first | refine blk_drewN ?_ _ | refine blk_drew ?_ | refine blk_alloc ?_ _)); (try refine blk_far ?_ NB159_161.out _); (try refine blk_far ?_ NB159_161.out _); (with_reducible repeat (first | refine blk_drewN ?_ _ | refine blk_drew ?_ | refine blk_alloc ?_ _)); exact BK159.out) NB159_161.out (by simp)); have n1_ := Aside0.mk (hb); have n2_ := Aside0.mk (hi); clear BK159; clear HB; clear HI161; have BK159 := n0_; have HB := n1_; have HI161 := n2_; clear n0_ n1_ n2_; (try clear hb); (try clear hb2); (try clear hk); (try clear hi))); try go_wp2_with (first | ((with_reducible refine gate_dst (N := 2) rfl ?_); refine box_event ?hg (N := 2) ?hd (cs := #[.int .i64 a0_0, .int .i64 a0_1, .slice A0_2 l0_2.length c0_2]) (t := 24) ?hr ?_; (case hd => rfl); (case hg => rfl); (case hr => first | (go_simp; done) | (go_simp; rfl)); intro gb159 hg w21 hbox hb; have n0_ := Aside0.mk (below_step be hb); have n1_ := Aside0.mk (hbox); have n2_ := gs hg HB; have n3_ := n2_; clear HB; have HB := n0_; have BK159 := n1_; have GW159 := n2_; have GE159 := n3_; clear n0_ n1_ n2_ n3_; clear hb hbox hg) | ((with_reducible refine gate_dst (N := 6) rfl ?_); (try (refine gate_guard (by rfl) ?_; dsimp only)); refine box_event ?hg (N := 6) ?hd (cs := #[.int .i64 0]) (t := 3) ?hr ?_; (case hd => rfl); (case hg => rfl); (case hr => first | (go_simp; done) | (go_simp; rfl)); intro g161 hg w22 hbox hb2; have hb := below_step be hb2; have hi : IsS119 w w22 g161 0 := ⟨hbox, by rw [hg]; exact (show Below w.heap.size w _ from be).size⟩; have hczn0_ : w22.cell? ⟨g161, 0, none⟩ = some (.int .i64 0) := (blk_cell hbox 0).trans rfl; have hfzn0_ := blk_frozen hbox 0; clear hg hbox; have n0_ := Aside0.mk (blk_below (g := gb159) (o := .cells #[.int .i64 a0_0, .int .i64 a0_1, .slice A0_2 l0_2.length c0_2] 24 (0, 0)) (bk BK159) hb2); have n1_ := Aside0.mk (hb); have n2_ := Aside0.mk (hi); have n3_ := Aside0.mk (IsS119.ne_blk hi (blk_below (g := gb159) (o := .cells #[.int .i64 a0_0, .int .i64 a0_1, .slice A0_2 l0_2.length c0_2] 24 (0, 0)) (bk BK159) hb2) (by decide)); have n4_ := Aside0.mk (Ne.symm (IsS119.ne_blk hi (blk_below (g := gb159) (o := .cells #[.int .i64 a0_0, .int .i64 a0_1, .slice A0_2 l0_2.length c0_2] 24 (0, 0)) (bk BK159) hb2) (by decide))); clear BK159; clear HB; have BK159 := n0_; have HB := n1_; have HI161 := n2_; have NB161_159 := n3_; have NB159_161 := n4_; clear n0_ n1_ n2_ n3_ n4_; (try clear hb); (try clear hb2); (try clear hk); (try clear hi); have hnb23 := NB159_161.out; have hnc23 := NB161_159.out; obtain ⟨hcz24_0, hcz24_1, hcz24_2, hfz24_0, hfz24_1, hfz24_2⟩ := bc3 BK159) | (go_at_call 24; (with_reducible refine (rule_walk.calls k a0_0 a0_1 _ _ l0_2 1 g161 (0 : Int) t162 t163 w _ ?side1 ?side2 ?side3 ?side4 hT A4.out).mono ?_); (case side1 => repeat (first | (with_reducible first | exact HI161.out | apply IsS119.alloc | apply IsS119.drewN | apply IsS119.drew | apply IsS119.set_0 | refine IsS119.far ?_ NB161_159.out _) | exact HI161.out)); (case side2 => repeat (first | (with_reducible first | exact HB.out | apply below_alloc | apply pw_below_drewN | apply below_drew1 | refine below_set ?_ (IsS119.ge HI161.out) | refine below_set ?_ GE159.out) | exact HB.out)); (case side3 => exact Kd.C_foot_came k24_heap HR0_2.out (by repeat (first | (with_reducible first | exact HB.out | apply below_alloc | apply pw_below_drewN | apply below_drew1 | refine below_set ?_ (IsS119.ge HI161.out) | refine below_set ?_ GE159.out) | exact HB.out)) (IsS119.ge HI161.out)); (case side4 => exact HC0_2.out); rintro e w25 ⟨rfl, hi, hb, hk⟩; have n0_ := Aside0.mk (KeepBut.blk hk (g' := gb159) (o := .cells #[.int .i64 a0_0, .int .i64 a0_1, .slice A0_2 l0_2.length c0_2] 24 (0, 0)) (by (with_reducible repeat (first | refine blk_drewN ?_ _ | refine blk_drew ?_ | refine blk_alloc ?_ _)); (try refine blk_far ?_ NB159_161.out _); (try refine blk_far ?_ NB159_161.out _); (with_reducible repeat (first | refine blk_drewN ?_ _ | refine blk_drew ?_ | refine blk_alloc ?_ _)); (try refine blk_far ?_ NB159_161.out _); (try refine blk_far ?_ NB159_161.out _); (with_reducible repeat (first | refine blk_drewN ?_ _ | refine blk_drew ?_ | refine blk_alloc ?_ _)); exact BK159.out) NB159_161.out (by simp)); have n1_ := Aside0.mk (hb); have n2_ := Aside0.mk (hi); clear BK159; clear HB; clear HI161; have BK159 := n0_; have HB := n1_; have HI161 := n2_; clear n0_ n1_ n2_; (try clear hb); (try clear hb2); (try clear hk); (try clear hi))))
  go_ret2
  exact ⟨by first | rfl | (simp [errW_none, errW_some] <;> rfl) | (simp [*, errW_none, errW_some] <;> rfl), by repeat (first | (with_reducible first | exact HB.out | apply below_alloc | apply pw_below_drewN | apply below_drew1 | refine below_set ?_ (IsS119.ge HI161.out) | refine below_set ?_ GE159.out) | exact HB.out)⟩

/-! ### api_RuleMonth: function 35 -/
def api_RuleMonth.f (l0 : List (S53)) : Option ((List (S53))) := (some (([] : List (S53)) : List (S53))).bind fun y170 => (if y170.length + l0.length < 4398046511104 then (some (y170 ++ l0)) else (none))
set_option maxHeartbeats 8000000 in
set_option maxRecDepth 100000 in
theorem api_RuleMonth.calls (A0 : Option Addr) (c0 : Nat) (l0 : List (S53)) (r : List (S53)) (w : World) (hr0 : Kd.C k53 w A0 l0.length l0) (hc0 : l0.length ≤ c0) (h : api_RuleMonth.f l0 = some r) :
  Calls Tryd.prog 35 #[.slice A0 l0.length c0] w fun e w' => ∃ v0_ : Value, e = .returned (v0_) ∧ Kd.R k53 53 w' w.heap.size (fun _ => True) v0_ r ∧ Below w.heap.size w w' := by
 have HR0 := Aside0.mk hr0
 have HC0 := Aside0.mk hc0
 clear hr0 hc0
 have HB := Aside0.mk (Below.refl w.heap.size w)
 have H : ((some (([] : List (S53)) : List (S53))).bind fun y170 => (if y170.length + l0.length < 4398046511104 then (some (y170 ++ l0)) else (none))) = some r := h
 clear h
 obtain ⟨y170, hy170⟩ : ∃ y_ : List (S53), y_ = (([] : List (S53))) := ⟨_, rfl⟩
 replace H : (if y170.length + l0.length < 4398046511104 then (some (y170 ++ l0)) else (none)) = some r := rp hy170 H
 have Ny170 := Aside0.mk hy170
 clear hy170
 by_cases c2 : y170.length + l0.length < 4398046511104
 ·rw [if_pos c2] at H
  have LMc2 := Aside0.mk c2
  clear c2
  obtain ⟨y173, hy173⟩ : ∃ y_ : List (S53), y_ = (y170 ++ l0) := ⟨_, rfl⟩
  replace H : (some y173) = some r := rp hy173 H
  have Ny173 := Aside0.mk hy173
  clear hy173
  obtain rfl := Option.some.inj H
  have q_ : ∀ (w_ : World) (a_ : Option Addr) (n_ c_ n1_ c1_ : Nat), (binOp .eql 25 (.slice a_ n_ c_) (.slice none n1_ c1_)).run Tryd.prog w_ = .ok (.bool a_.isNone) w_ := fun w_ a_ n_ c_ n1_ c1_ => Go.Lib.run_eql_slice_nil w_ _ _ a_ n_ c_ n1_ c1_ Tryd.underlying25
  cases A0 with
  | none =>
   have hl0 : l0 = [] := by
    cases l0 with
    | nil => rfl
    | cons x_ l_ =>
     obtain ⟨ad_, c_, e_, _⟩ := Kd.C_get HR0.out x_ 0 (by decide) (by simp only [List.length_cons]; omega)
     cases e_
   subst hl0
   have hy0_ : y173 = [] := by rw [Ny173.out, Ny170.out]; rfl
   subst hy0_
   go_enter Tryd.func35, Tryd.ntmps35
   go_wp2
   go_ret
   exact ⟨_, rfl, Kd.R_nil _ _ _ _ _, HB.out⟩
  | some aa0 =>
   go_enter Tryd.func35, Tryd.ntmps35
   go_wp2_with (first | ((with_reducible refine gate_dst (N := 5) rfl ?_); refine Kd.R_lit k53 _ 53 ?hg (N := 5) ?hd (xs := ([] : List (S53))) (inner := []) (ok := fun _ => True) (okp := fun _ => True) ?hr ?hp (fun _ hk => hk) trivial (Below.refl _ _) (Nat.le_refl _) (by simp) ?_; (case hd => rfl); (case hg => rfl); (case hr => first | (go_simp; done) | (go_simp; rfl)); (case hp => exact (Reps.none _ _)); intro v171 w3 ho4 hb hg_ hnew_; clear hg_ hnew_; (first | rw [← Ny170.out] at ho4 | (simp only [Int.reduceToNat] at ho4; rw [← Ny170.out] at ho4)); have n0_ := Aside0.mk (Kd.R_lower ho4 (below_size be)); have n1_ := Aside0.mk (below_step be hb); clear HB; have HO172 := n0_; have HB := n1_; clear n0_ n1_; clear hb ho4) | ((with_reducible refine gate_builtin (b := .append) (xs := #[.tmp 5, .tmp 6]) rfl ?_); at_builtin; refine Kd.R_append_rows k53 (w0 := w) w.heap.size rfl (.tmp 5) (.tmp 6) 25 53 (.agg #[(.string ⟨#[]⟩), (.int .i64 0), (.int .i64 0)]) 32 rfl Tryd.underlying25 info53 rfl (by decide) (by omega) v171 y170 l0 _ _ _ (fun _ => True) (fun _ => False) rfl rfl ?aO ?aR (fun _ _ h => h) (fun _ h => h.elim) ?aF ?aB ?aS ?aL ?_; (case aR => exact kc (Kd.C_below HR0.out HB.out)); (case aB => exact be); (case aF => exact (fun _ _ => trivial)); (case aO => exact (by (with_reducible repeat (first | apply Kd.R_alloc | apply Kd.R_drewN | apply Kd.R_drew)); exact HO172.out)); (case aS => exact (below_size be)); (case aL => have := LMc2.out; omega); intro v174 w5 ho hb hg hat; rw [← Ny173.out] at ho; have n0_ := Aside0.mk (hb); have n1_ := Aside0.mk (ho); clear HB; clear HO172; have HB := n0_; have HO175 := n1_; clear n0_ n1_; clear ho hb hg hat))
   go_ret
   exact ⟨_, by first | rfl | (simp [errW_none, errW_some] <;> rfl) | (simp [*, errW_none, errW_some] <;> rfl), by (with_reducible repeat (first | apply Kd.R_alloc | apply Kd.R_drewN | apply Kd.R_drew)); exact HO175.out, be⟩
 ·rw [if_neg c2] at H
  exact absurd H (by simp)

/-! ### compile_Compile: function 14 -/
def compile_Compile.l0 : Nat → Int → ByteArray → Int → Int → Int → Int → List (S24) → List (S53) → ByteArray → Int → Int → List (S53) → List Int → Option (ByteArray × Int × Int × (List (S53)) × List Int × Int)
 | 0, _, _, _, _, _, _, _, _, _, _, _, _, _ => none
 | k + 1, x6, x177000, x177001, x177002, x177003, x177004, x177005, x177006, x183000, x183001, x183002, x183003, x183004 => if x6 ≤ x177002 then ((rule_Eval.f k x177003 x177004 x177005 x6).bind fun bt183 => (if bt183.2 = 0 then (if bt183.1 = 0 then (compile_Compile.l0 k (wrap64 (x6 + 1)) x177000 x177001 x177002 x177003 x177004 x177005 x177006 x183000 x183001 x183002 x183003 x183004) else (if x183004.length < 17592186044416 then (compile_Compile.l0 k (wrap64 (x6 + 1)) x177000 x177001 x177002 x177003 x177004 x177005 x177006 x183000 x183001 x183002 x183003 (x183004 ++ [x6])) else (none))) else (some ((⟨#[]⟩ : ByteArray), 0, 0, ([] : List (S53)), ([] : List Int), bt183.2)))) else (some (x183000, x183001, x183002, x183003, x183004, 0))
def compile_Compile.f (k : Nat) (a0_0 : ByteArray) (a0_1 : Int) (a0_2 : Int) (a0_3 : Int) (a0_4 : Int) (l0_5 : List (S24)) (l0_6 : List (S53)) : Option (ByteArray × Int × Int × (List (S53)) × List Int × Int) := (rule_Check.f k a0_0 a0_1 a0_2 a0_3 a0_4 l0_5 l0_6).bind fun t178 => (if t178 = 0 then ((api_RuleMonth.f l0_6).bind fun t179 => (compile_Compile.l0 k 1 a0_0 a0_1 a0_2 a0_3 a0_4 l0_5 l0_6 a0_0 a0_1 a0_2 t179 ([] : List Int))) else (some ((⟨#[]⟩ : ByteArray), 0, 0, ([] : List (S53)), ([] : List Int), t178)))
theorem compile_Compile.mono_l : ∀ k, (∀ y0 y1 y2 y3 y4 y5 y6 y7 y8 y9 y10 y11 y12, LeO (compile_Compile.l0 k y0 y1 y2 y3 y4 y5 y6 y7 y8 y9 y10 y11 y12) (compile_Compile.l0 (k + 1) y0 y1 y2 y3 y4 y5 y6 y7 y8 y9 y10 y11 y12))
 | 0 => fun _ _ _ _ _ _ _ _ _ _ _ _ _ r h => by simp [compile_Compile.l0] at h
 | k + 1 => by
  have ih0 := compile_Compile.mono_l k
  ·intro y0 y1 y2 y3 y4 y5 y6 y7 y8 y9 y10 y11 y12
   unfold compile_Compile.l0
   repeat' first
   | (with_reducible exact ih0 _ _ _ _ _ _ _ _ _ _ _ _ _)
   | (with_reducible exact rule_Check.mono _ _ _ _ _ _ _ _)
   | (with_reducible exact rule_Eval.mono _ _ _ _ _)
   | (with_reducible exact LeO.refl _)
   | (with_reducible exact LeO.none _)
   | (with_reducible refine LeO.ite ?_ ?_)
   | (with_reducible refine LeO.bind ?_ (fun _ => ?_))
   | exact ih0 _ _ _ _ _ _ _ _ _ _ _ _ _
   | exact rule_Check.mono _ _ _ _ _ _ _ _
   | exact rule_Eval.mono _ _ _ _ _
   | exact LeO.none _
   | refine LeO.ite ?_ ?_
   | refine LeO.bind ?_ (fun _ => ?_)
theorem compile_Compile.mono : ∀ a0 a1 a2 a3 a4 a5 a6 k, LeO (compile_Compile.f k a0 a1 a2 a3 a4 a5 a6) (compile_Compile.f (k + 1) a0 a1 a2 a3 a4 a5 a6) := by
 intro a0 a1 a2 a3 a4 a5 a6 k
 have ih0 := compile_Compile.mono_l k
 unfold compile_Compile.f
 repeat' first
   | (with_reducible exact ih0 _ _ _ _ _ _ _ _ _ _ _ _ _)
   | (with_reducible exact rule_Check.mono _ _ _ _ _ _ _ _)
   | (with_reducible exact rule_Eval.mono _ _ _ _ _)
   | (with_reducible exact LeO.refl _)
   | (with_reducible exact LeO.none _)
   | (with_reducible refine LeO.ite ?_ ?_)
   | (with_reducible refine LeO.bind ?_ (fun _ => ?_))
   | exact ih0 _ _ _ _ _ _ _ _ _ _ _ _ _
   | exact rule_Check.mono _ _ _ _ _ _ _ _
   | exact rule_Eval.mono _ _ _ _ _
   | exact LeO.none _
   | refine LeO.ite ?_ ?_
   | refine LeO.bind ?_ (fun _ => ?_)
def compile_Compile.T4 : Bool × List (List Nat × List Nat) := (true, [([], []), ([0], [0]), ([], []), ([2], [2]), ([], []), ([4], [4]), ([], []), ([6], [6]), ([7], [7]), ([1, 3, 5, 8], [1, 3, 5, 8]), ([], []), ([10, 9, 8, 0, 1, 2, 3, 4, 5, 6, 7, 8, 9, 10], [9, 10])])
def compile_Compile.B4 : List Nat := [0, 1, 0, 4, 0, 16, 0, 64, 192, 511, 0, 2047]
theorem compile_Compile.tab4 : rtab .any (opsOf Tryd.f14 4) = compile_Compile.T4 := by kernel_rfl
theorem compile_Compile.bits4 : waitsOk compile_Compile.T4.2 compile_Compile.B4 = true := by kernel_rfl
set_option maxHeartbeats 8000000 in
set_option maxRecDepth 100000 in
theorem compile_Compile.calls (k : Nat) (a0_0 : ByteArray) (a0_1 : Int) (a0_2 : Int) (a0_3 : Int) (a0_4 : Int) (A0_5 : Option Addr) (c0_5 : Nat) (l0_5 : List (S24)) (A0_6 : Option Addr) (c0_6 : Nat) (l0_6 : List (S53)) (r1 : ByteArray) (r2 : Int) (r3 : Int) (r4 : List (S53)) (r5 : List Int) (r6 : Int) (w : World) (hr0_5 : Kd.C k24 w A0_5 l0_5.length l0_5) (hc0_5 : l0_5.length ≤ c0_5) (hr0_6 : Kd.C k53 w A0_6 l0_6.length l0_6) (hc0_6 : l0_6.length ≤ c0_6) (hT : rule_walk.Tab w) (h : compile_Compile.f k a0_0 a0_1 a0_2 a0_3 a0_4 l0_5 l0_6 = some (r1, r2, r3, r4, r5, r6)) :
  Calls Tryd.prog 14 #[.agg #[.string a0_0, .int .i64 a0_1, .int .i64 a0_2, .int .i64 a0_3, .int .i64 a0_4, .slice A0_5 l0_5.length c0_5, .slice A0_6 l0_6.length c0_6]] w fun e w' => ∃ v3_ v4_ : Value, e = .returned (.tuple #[.agg #[.string r1, .int .i64 r2, .int .i64 r3, v3_, v4_], .int .i64 r6]) ∧ Kd.R k53 53 w' w.heap.size (fun _ => True) v3_ r4 ∧ Kd.R (Kd.int .i64) 3 w' w.heap.size (fun _ => True) v4_ r5 ∧ Below w.heap.size w w' := by
 have hu27 := Tryd.underlying27
 have hu39 := Tryd.underlying39
 have hu24 := Tryd.underlying24
 have HR0_5 := Aside0.mk hr0_5
 have HC0_5 := Aside0.mk hc0_5
 clear hr0_5 hc0_5
 have HR0_6 := Aside0.mk hr0_6
 have HC0_6 := Aside0.mk hc0_6
 clear hr0_6 hc0_6
 have HB := Aside0.mk (Below.refl w.heap.size w)
 have H : ((rule_Check.f k a0_0 a0_1 a0_2 a0_3 a0_4 l0_5 l0_6).bind fun t178 => (if t178 = 0 then ((api_RuleMonth.f l0_6).bind fun t179 => (compile_Compile.l0 k 1 a0_0 a0_1 a0_2 a0_3 a0_4 l0_5 l0_6 a0_0 a0_1 a0_2 t179 ([] : List Int))) else (some ((⟨#[]⟩ : ByteArray), 0, 0, ([] : List (S53)), ([] : List Int), t178)))) = some (r1, r2, r3, r4, r5, r6) := h
 clear h
 replace H := Option.bind_eq_some_iff.mp H
 obtain ⟨t178, A20, H⟩ := H
 replace H : (if t178 = 0 then ((api_RuleMonth.f l0_6).bind fun t179 => (compile_Compile.l0 k 1 a0_0 a0_1 a0_2 a0_3 a0_4 l0_5 l0_6 a0_0 a0_1 a0_2 t179 ([] : List Int))) else (some ((⟨#[]⟩ : ByteArray), 0, 0, ([] : List (S53)), ([] : List Int), t178))) = some (r1, r2, r3, r4, r5, r6) := H
 have A2 := Aside0.mk A20
 clear A20
 by_cases c3 : t178 = 0
 ·rw [if_pos c3] at H
  have c3b0 : (t178 == 0) = true := beq_iff_eq.mpr c3
  have c3b1 : (t178 != 0) = false := bne_eq_false_iff_eq.mpr c3
  clear c3
  replace H := Option.bind_eq_some_iff.mp H
  obtain ⟨t179, A40, H⟩ := H
  replace H : (compile_Compile.l0 k 1 a0_0 a0_1 a0_2 a0_3 a0_4 l0_5 l0_6 a0_0 a0_1 a0_2 t179 ([] : List Int)) = some (r1, r2, r3, r4, r5, r6) := H
  have A4 := Aside0.mk A40
  clear A40
  have H' := Aside0.mk H
  clear H
  go_enter Tryd.func14, Tryd.ntmps14
  try go_wp2_with (first | ((with_reducible refine gate_dst (N := 1) rfl ?_); refine box_event ?hg (N := 1) ?hd (cs := #[.string a0_0, .int .i64 a0_1, .int .i64 a0_2, .int .i64 a0_3, .int .i64 a0_4, .slice A0_5 l0_5.length c0_5, .slice A0_6 l0_6.length c0_6]) (t := 27) ?hr ?_; (case hd => rfl); (case hg => rfl); (case hr => first | (go_simp; done) | (go_simp; rfl)); intro gb176 hg w5 hbox hb; have n0_ := Aside0.mk (below_step be hb); have n1_ := Aside0.mk (hbox); have n2_ := gs hg HB; have n3_ := n2_; clear HB; have HB := n0_; have BK176 := n1_; have GW176 := n2_; have GE176 := n3_; clear n0_ n1_ n2_ n3_; clear hb hbox hg) | ((with_reducible refine gate_dst (N := 2) rfl ?_); refine box_event ?hg (N := 2) ?hd (cs := #[.string (⟨#[]⟩ : ByteArray), .int .i64 0, .int .i64 0, .slice none 0 0, .slice none 0 0]) (t := 39) ?hr ?_; (case hd => rfl); (case hg => rfl); (case hr => first | (go_simp; done) | (go_simp; rfl)); intro gb177 hg w6 hbox hb; have n0_ := bb BK176 hb; have n1_ := Aside0.mk (below_step be hb); have n2_ := Aside0.mk (hbox); have n3_ := gs hg HB; have n4_ := n3_; have n5_ := nl BK176 hg; have n6_ := ns n5_; clear BK176; clear HB; have BK176 := n0_; have HB := n1_; have BK177 := n2_; have GW177 := n3_; have GE177 := n4_; have NB176_177 := n5_; have NB177_176 := n6_; clear n0_ n1_ n2_ n3_ n4_ n5_ n6_; clear hb hbox hg; have hnb7 := NB176_177.out; have hnc7 := NB177_176.out; obtain ⟨hcz8_0, hcz8_1, hcz8_2, hcz8_3, hcz8_4, hcz8_5, hcz8_6, hfz8_0, hfz8_1, hfz8_2, hfz8_3, hfz8_4, hfz8_5, hfz8_6⟩ := bc7 BK176) | ((with_reducible refine gate_callee (f := 8) rfl ?_); refine goesL_ (some 10) rfl rfl Tryd.func8 kx rfl #[.agg #[.string a0_0, .int .i64 a0_1, .int .i64 a0_2, .int .i64 a0_3, .int .i64 a0_4, .slice A0_5 l0_5.length c0_5, .slice A0_6 l0_6.length c0_6]] rfl aa ?_; (with_reducible refine (rule_Check.calls k a0_0 a0_1 a0_2 a0_3 a0_4 _ _ l0_5 _ _ l0_6 t178 _ ?side1 ?side2 ?side3 ?side4 (hT.below be (Nat.le_refl _)) A2.out).mono ?_); (case side1 => exact kc (Kd.C_below HR0_5.out HB.out)); (case side2 => exact HC0_5.out); (case side3 => exact kc (Kd.C_below HR0_6.out HB.out)); (case side4 => exact HC0_6.out); rintro e w9 ⟨rfl, hb⟩; refine ⟨_, rfl, ?_⟩; have n0_ := bb BK176 hb; have n1_ := bb BK177 hb; have n2_ := Aside0.mk (below_step be hb); clear BK176; clear BK177; clear HB; have BK176 := n0_; have BK177 := n1_; have HB := n2_; clear n0_ n1_ n2_; (try clear hb); (try clear hb2); (try clear hk); (try clear hi)))
  have n0_ := Aside0.mk (blk_drew BK176.out)
  have n1_ := Aside0.mk (blk_drew BK177.out)
  have n2_ := Aside0.mk (below_drew1 HB.out)
  clear BK176
  clear BK177
  clear HB
  have BK176 := n0_
  have BK177 := n1_
  have HB := n2_
  clear n0_ n1_ n2_
  refine start_ (n := 12) (S := fun w' => w'.cell? ⟨gb176, 0, none⟩ = some (.string a0_0) ∧ w'.cell? ⟨gb176, 1, none⟩ = some (.int .i64 a0_1) ∧ w'.cell? ⟨gb176, 2, none⟩ = some (.int .i64 a0_2) ∧ w'.cell? ⟨gb176, 3, none⟩ = some (.int .i64 a0_3) ∧ w'.cell? ⟨gb176, 4, none⟩ = some (.int .i64 a0_4) ∧ w'.cell? ⟨gb176, 5, none⟩ = some (.slice A0_5 l0_5.length c0_5) ∧ w'.cell? ⟨gb176, 6, none⟩ = some (.slice A0_6 l0_6.length c0_6)) (ds := []) #[false, false, false, false, false, false, false, false, false, false, false, false] kx rfl rfl ⟨(blk_cell BK176.out 0).trans rfl, (blk_cell BK176.out 1).trans rfl, (blk_cell BK176.out 2).trans rfl, (blk_cell BK176.out 3).trans rfl, (blk_cell BK176.out 4).trans rfl, (blk_cell BK176.out 5).trans rfl, (blk_cell BK176.out 6).trans rfl⟩ (fun hHeld => ?_); refine with_tabW compile_Compile.tab4 compile_Compile.bits4 (fun HT_ HW_ => ?_)
  generalize w9.drew = w10 at BK176 BK177 HB hHeld ⊢
  refine pure_ (i := 0) (N := some 15) (v := ?_) (a' := ?_) #[true, false, false, false, false, false, false, false, false, false, false, false] rfl rfl (any_of HT_.out kx) (fun _ _ _ h => h) (Or.inl ⟨by rfl, ?_⟩) ?_ ?_
  rotate_left
  ·intro w'
   go_simp
   with_reducible rfl
  rotate_left
  ·simp only [Act.put, List.setIfInBounds_toArray, List.set_cons_zero, List.set_cons_succ, i64_w, i32_w]
   rfl
  refine pure_ (i := 2) (N := some 17) (v := ?_) (a' := ?_) #[true, false, true, false, false, false, false, false, false, false, false, false] rfl rfl (any_of HT_.out kx) (fun _ _ _ h => h) (Or.inl ⟨by rfl, ?_⟩) ?_ ?_
  rotate_left
  ·intro w'
   go_simp
   with_reducible rfl
  rotate_left
  ·simp only [Act.put, List.setIfInBounds_toArray, List.set_cons_zero, List.set_cons_succ, i64_w, i32_w]
   rfl
  refine pure_ (i := 4) (N := some 19) (v := ?_) (a' := ?_) #[true, false, true, false, true, false, false, false, false, false, false, false] rfl rfl (any_of HT_.out kx) (fun _ _ _ h => h) (Or.inl ⟨by rfl, ?_⟩) ?_ ?_
  rotate_left
  ·intro w'
   go_simp
   with_reducible rfl
  rotate_left
  ·simp only [Act.put, List.setIfInBounds_toArray, List.set_cons_zero, List.set_cons_succ, i64_w, i32_w]
   rfl
  refine pure_ (i := 6) (N := some 21) (v := ?_) (a' := ?_) #[true, false, true, false, true, false, true, false, false, false, false, false] rfl rfl (any_of HT_.out kx) (fun _ _ _ h => h) (Or.inl ⟨by rfl, ?_⟩) ?_ ?_
  rotate_left
  ·intro w'
   go_simp
   with_reducible rfl
  rotate_left
  ·simp only [Act.put, List.setIfInBounds_toArray, List.set_cons_zero, List.set_cons_succ, i64_w, i32_w]
   rfl
  refine take_ (i := 1) (N := some 16) (v := ?_) (a' := ?_) #[true, true, true, false, true, false, true, false, false, false, false, false] rfl rfl (take_ofW HT_.out HW_.out kx) (fun _ _ _ h => h) (Or.inl ⟨by rfl, ?_⟩) hHeld ?_ ?_
  rotate_left
  ·rintro w' ⟨s0, s1, s2, s3, s4, s5, s6⟩
   go_simp
   with_reducible rfl
  rotate_left
  ·simp only [Act.put, List.setIfInBounds_toArray, List.set_cons_zero, List.set_cons_succ, i64_w, i32_w]
   rfl
  refine take_ (i := 3) (N := some 18) (v := ?_) (a' := ?_) #[true, true, true, true, true, false, true, false, false, false, false, false] rfl rfl (take_ofW HT_.out HW_.out kx) (fun _ _ _ h => h) (Or.inl ⟨by rfl, ?_⟩) hHeld ?_ ?_
  rotate_left
  ·rintro w' ⟨s0, s1, s2, s3, s4, s5, s6⟩
   go_simp
   with_reducible rfl
  rotate_left
  ·simp only [Act.put, List.setIfInBounds_toArray, List.set_cons_zero, List.set_cons_succ, i64_w, i32_w]
   rfl
  refine take_ (i := 5) (N := some 20) (v := ?_) (a' := ?_) #[true, true, true, true, true, true, true, false, false, false, false, false] rfl rfl (take_ofW HT_.out HW_.out kx) (fun _ _ _ h => h) (Or.inl ⟨by rfl, ?_⟩) hHeld ?_ ?_
  rotate_left
  ·rintro w' ⟨s0, s1, s2, s3, s4, s5, s6⟩
   go_simp
   with_reducible rfl
  rotate_left
  ·simp only [Act.put, List.setIfInBounds_toArray, List.set_cons_zero, List.set_cons_succ, i64_w, i32_w]
   rfl
  refine take_ (i := 7) (N := some 22) (v := ?_) (a' := ?_) #[true, true, true, true, true, true, true, true, false, false, false, false] rfl rfl (take_ofW HT_.out HW_.out kx) (fun _ _ _ h => h) (Or.inl ⟨by rfl, ?_⟩) hHeld ?_ ?_
  rotate_left
  ·rintro w' ⟨s0, s1, s2, s3, s4, s5, s6⟩
   go_simp
   with_reducible rfl
  rotate_left
  ·simp only [Act.put, List.setIfInBounds_toArray, List.set_cons_zero, List.set_cons_succ, i64_w, i32_w]
   rfl
  refine join_ (σ := Value × Nat) 1 #[true, true, true, true, true, true, true, true, true, true, true, false] (fun s_ => [(23, s_.1), (5, .pointer (some ⟨s_.2, 0, none⟩)), (24, .agg #[.string a0_0, .int .i64 a0_1, .int .i64 a0_2, s_.1, .slice none 0 0])]) (fun s_ w' => (w'.cell? ⟨gb176, 0, none⟩ = some (.string a0_0) ∧ w'.cell? ⟨gb176, 1, none⟩ = some (.int .i64 a0_1) ∧ w'.cell? ⟨gb176, 2, none⟩ = some (.int .i64 a0_2) ∧ w'.cell? ⟨gb176, 3, none⟩ = some (.int .i64 a0_3) ∧ w'.cell? ⟨gb176, 4, none⟩ = some (.int .i64 a0_4) ∧ w'.cell? ⟨gb176, 5, none⟩ = some (.slice A0_5 l0_5.length c0_5) ∧ w'.cell? ⟨gb176, 6, none⟩ = some (.slice A0_6 l0_6.length c0_6)) ∧ (Kd.R k53 53 w' w.heap.size (fun _ => True) s_.1 t179) ∧ (w'.heap[gb176]? = some (.cells #[.string a0_0, .int .i64 a0_1, .int .i64 a0_2, .int .i64 a0_3, .int .i64 a0_4, .slice A0_5 l0_5.length c0_5, .slice A0_6 l0_6.length c0_6] 27 (0, 0))) ∧ (w'.heap[gb177]? = some (.cells #[.string (⟨#[]⟩ : ByteArray), .int .i64 0, .int .i64 0, .slice none 0 0, .slice none 0 0] 39 (0, 0))) ∧ (w'.heap[s_.2]? = some (.cells #[.string (⟨#[]⟩ : ByteArray), .int .i64 0, .int .i64 0, .slice none 0 0, .slice none 0 0] 39 (0, 0))) ∧ (w.heap.size ≤ s_.2) ∧ (w.heap.size ≤ s_.2) ∧ (gb176 ≠ s_.2) ∧ (s_.2 ≠ gb176) ∧ (gb177 ≠ s_.2) ∧ (s_.2 ≠ gb177) ∧ (Below w.heap.size w w')) ?_ ?_
  rotate_left
  ·intro hCont
   refine two_ (i := 8) (j := 10) (Ni := some 23) (Nj := some 5) #[true, true, true, true, true, true, true, true, true, false, false, false] #[true, true, true, true, true, true, true, true, false, false, true, false] rfl rfl rfl rfl (two_of HT_.out kx) (by decide) (by decide) (fun K hK => ?_) (fun K hK => ?_)
   ·skip
    refine goes_ Tryd.func35 kx rfl #[.slice A0_6 l0_6.length c0_6] (by rfl) rfl rfl aa ?_
    with_reducible refine (api_RuleMonth.calls _ _ l0_6 t179 _ ?side1 ?side2 A4.out).mono ?_
    (case side1 => exact kc (Kd.C_below HR0_6.out HB.out))
    (case side2 => exact HC0_6.out)
    rintro e w11 ⟨v180, rfl, ho0, hb⟩
    refine ⟨_, rfl, ?_⟩
    have n0_ := Aside0.mk (Kd.R_lower ho0 (below_size be))
    have n1_ := bb BK176 hb
    have n2_ := bb BK177 hb
    have n3_ := Aside0.mk (below_step be hb)
    clear BK176
    clear BK177
    clear HB
    have HO181 := n0_
    have BK176 := n1_
    have BK177 := n2_
    have HB := n3_
    clear n0_ n1_ n2_ n3_
    (try clear hb)
    (try clear hb2)
    (try clear hk)
    (try clear hi)
    (try clear ho0)
    obtain ⟨Ao12, co12, eo12⟩ := Kd.R_slice HO181.out
    (first | subst eo12 | (injection eo12 with f1_ f2_ f3_; have f4_ := f1_.symm; have f5_ := f3_.symm; clear f1_ f2_ f3_; subst f4_; subst f5_))
    refine hK.out _ _ ⟨(blk_cell BK176.out 0).trans rfl, (blk_cell BK176.out 1).trans rfl, (blk_cell BK176.out 2).trans rfl, (blk_cell BK176.out 3).trans rfl, (blk_cell BK176.out 4).trans rfl, (blk_cell BK176.out 5).trans rfl, (blk_cell BK176.out 6).trans rfl⟩ (fun hHeld => ?_)
    clear hK K
    refine norm_ (a' := ?_) ?_ ?_
    rotate_left
    ·show Act.put _ (some 23) _ = _
     simp only [Act.put, List.setIfInBounds_toArray, List.set_cons_zero, List.set_cons_succ, i64_w, i32_w]
     rfl
    refine pure_ (i := 9) (N := some 24) (v := ?_) (a' := ?_) #[true, true, true, true, true, true, true, true, true, true, false, false] rfl rfl (any_of HT_.out kx) (fun _ _ _ h => h) (Or.inl ⟨by rfl, ?_⟩) ?_ ?_
    rotate_left
    ·intro w'
     go_simp
     with_reducible rfl
    rotate_left
    ·simp only [Act.put, List.setIfInBounds_toArray, List.set_cons_zero, List.set_cons_succ, i64_w, i32_w]
     rfl
    refine one_ (i := 10) (N := some 5) #[true, true, true, true, true, true, true, true, true, true, true, false] rfl rfl (one_of HT_.out kx) (by decide) (fun K hK => ?_)
    refine box_step ?hg (N := 5) ?hd (cs := #[.string (⟨#[]⟩ : ByteArray), .int .i64 0, .int .i64 0, .slice none 0 0, .slice none 0 0]) (t := 39) ?hr ?_; (case hd => rfl); (case hg => rfl); (case hr => first | (go_simp; done) | (go_simp; rfl))
    intro gb182 hg w13 hbox hb
    have n0_ := Aside0.mk (Kd.R_below (by (with_reducible repeat (first | apply Kd.R_alloc | apply Kd.R_drewN | apply Kd.R_drew)); exact HO181.out) hb)
    have n1_ := bb BK176 hb
    have n2_ := bb BK177 hb
    have n3_ := Aside0.mk (below_step be hb)
    have n4_ := Aside0.mk (hbox)
    have n5_ := gs hg HB
    have n6_ := gs hg HB
    have n7_ := nl BK176 hg
    have n8_ := ns (nl BK176 hg)
    have n9_ := nl BK177 hg
    have n10_ := ns (nl BK177 hg)
    clear HO181
    clear BK176
    clear BK177
    clear HB
    have HO181 := n0_
    have BK176 := n1_
    have BK177 := n2_
    have HB := n3_
    have BK182 := n4_
    have GW182 := n5_
    have GE182 := n6_
    have NB176_182 := n7_
    have NB182_176 := n8_
    have NB177_182 := n9_
    have NB182_177 := n10_
    clear n0_ n1_ n2_ n3_ n4_ n5_ n6_ n7_ n8_ n9_ n10_
    clear hb hbox hg
    refine hK.out _ _ ⟨(blk_cell BK176.out 0).trans rfl, (blk_cell BK176.out 1).trans rfl, (blk_cell BK176.out 2).trans rfl, (blk_cell BK176.out 3).trans rfl, (blk_cell BK176.out 4).trans rfl, (blk_cell BK176.out 5).trans rfl, (blk_cell BK176.out 6).trans rfl⟩ (fun hHeld => ?_)
    clear hK K
    refine norm_ (a' := ?_) ?_ ?_
    rotate_left
    ·show Act.put _ (some 5) _ = _
     simp only [Act.put, List.setIfInBounds_toArray, List.set_cons_zero, List.set_cons_succ, i64_w, i32_w]
     rfl
    exact norm_ (by simp only [putAll, Act.put, List.setIfInBounds_toArray, List.set_cons_zero, List.set_cons_succ]) (hCont (.slice Ao12 t179.length co12, gb182) _ ⟨hHeld, (by (with_reducible repeat (first | apply Kd.R_alloc | apply Kd.R_drewN | apply Kd.R_drew)); exact HO181.out), (bk BK176), (bk BK177), (bk BK182), GW182.out, GE182.out, NB176_182.out, NB182_176.out, NB177_182.out, NB182_177.out, be⟩)
   ·skip
    refine box_step ?hg (N := 5) ?hd (cs := #[.string (⟨#[]⟩ : ByteArray), .int .i64 0, .int .i64 0, .slice none 0 0, .slice none 0 0]) (t := 39) ?hr ?_; (case hd => rfl); (case hg => rfl); (case hr => first | (go_simp; done) | (go_simp; rfl))
    intro gb182 hg w11 hbox hb
    have n0_ := bb BK176 hb
    have n1_ := bb BK177 hb
    have n2_ := Aside0.mk (below_step be hb)
    have n3_ := Aside0.mk (hbox)
    have n4_ := gs hg HB
    have n5_ := gs hg HB
    have n6_ := nl BK176 hg
    have n7_ := ns (nl BK176 hg)
    have n8_ := nl BK177 hg
    have n9_ := ns (nl BK177 hg)
    clear BK176
    clear BK177
    clear HB
    have BK176 := n0_
    have BK177 := n1_
    have HB := n2_
    have BK182 := n3_
    have GW182 := n4_
    have GE182 := n5_
    have NB176_182 := n6_
    have NB182_176 := n7_
    have NB177_182 := n8_
    have NB182_177 := n9_
    clear n0_ n1_ n2_ n3_ n4_ n5_ n6_ n7_ n8_ n9_
    clear hb hbox hg
    refine hK.out _ _ ⟨(blk_cell BK176.out 0).trans rfl, (blk_cell BK176.out 1).trans rfl, (blk_cell BK176.out 2).trans rfl, (blk_cell BK176.out 3).trans rfl, (blk_cell BK176.out 4).trans rfl, (blk_cell BK176.out 5).trans rfl, (blk_cell BK176.out 6).trans rfl⟩ (fun hHeld => ?_)
    clear hK K
    refine norm_ (a' := ?_) ?_ ?_
    rotate_left
    ·show Act.put _ (some 5) _ = _
     simp only [Act.put, List.setIfInBounds_toArray, List.set_cons_zero, List.set_cons_succ, i64_w, i32_w]
     rfl
    refine one_ (i := 8) (N := some 23) #[true, true, true, true, true, true, true, true, true, false, true, false] rfl rfl (one_of HT_.out kx) (by decide) (fun K hK => ?_)
    refine goes_ Tryd.func35 kx rfl #[.slice A0_6 l0_6.length c0_6] (by rfl) rfl rfl aa ?_
    with_reducible refine (api_RuleMonth.calls _ _ l0_6 t179 _ ?side1 ?side2 A4.out).mono ?_
    (case side1 => exact kc (Kd.C_below HR0_6.out HB.out))
    (case side2 => exact HC0_6.out)
    rintro e w12 ⟨v180, rfl, ho0, hb⟩
    refine ⟨_, rfl, ?_⟩
    have n0_ := Aside0.mk (Kd.R_lower ho0 (below_size be))
    have n1_ := bb BK176 hb
    have n2_ := bb BK177 hb
    have n3_ := bb BK182 hb
    have n4_ := Aside0.mk (below_step be hb)
    clear BK176
    clear BK177
    clear BK182
    clear HB
    have HO181 := n0_
    have BK176 := n1_
    have BK177 := n2_
    have BK182 := n3_
    have HB := n4_
    clear n0_ n1_ n2_ n3_ n4_
    (try clear hb)
    (try clear hb2)
    (try clear hk)
    (try clear hi)
    (try clear ho0)
    obtain ⟨Ao13, co13, eo13⟩ := Kd.R_slice HO181.out
    (first | subst eo13 | (injection eo13 with f1_ f2_ f3_; have f4_ := f1_.symm; have f5_ := f3_.symm; clear f1_ f2_ f3_; subst f4_; subst f5_))
    refine hK.out _ _ ⟨(blk_cell BK176.out 0).trans rfl, (blk_cell BK176.out 1).trans rfl, (blk_cell BK176.out 2).trans rfl, (blk_cell BK176.out 3).trans rfl, (blk_cell BK176.out 4).trans rfl, (blk_cell BK176.out 5).trans rfl, (blk_cell BK176.out 6).trans rfl⟩ (fun hHeld => ?_)
    clear hK K
    refine norm_ (a' := ?_) ?_ ?_
    rotate_left
    ·show Act.put _ (some 23) _ = _
     simp only [Act.put, List.setIfInBounds_toArray, List.set_cons_zero, List.set_cons_succ, i64_w, i32_w]
     rfl
    refine pure_ (i := 9) (N := some 24) (v := ?_) (a' := ?_) #[true, true, true, true, true, true, true, true, true, true, true, false] rfl rfl (any_of HT_.out kx) (fun _ _ _ h => h) (Or.inl ⟨by rfl, ?_⟩) ?_ ?_
    rotate_left
    ·intro w'
     go_simp
     with_reducible rfl
    rotate_left
    ·simp only [Act.put, List.setIfInBounds_toArray, List.set_cons_zero, List.set_cons_succ, i64_w, i32_w]
     rfl
    exact norm_ (by simp only [putAll, Act.put, List.setIfInBounds_toArray, List.set_cons_zero, List.set_cons_succ]) (hCont (.slice Ao13 t179.length co13, gb182) _ ⟨hHeld, (by (with_reducible repeat (first | apply Kd.R_alloc | apply Kd.R_drewN | apply Kd.R_drew)); exact HO181.out), (bk BK176), (bk BK177), (bk BK182), GW182.out, GE182.out, NB176_182.out, NB182_176.out, NB177_182.out, NB182_177.out, be⟩)
  rintro ⟨v180, gb182⟩ w14 ⟨hS_, h0_, h1_, h2_, h3_, h4_, h5_, h6_, h7_, h8_, h9_, h10_⟩
  have n0_ : Aside0 (Kd.R k53 53 w14 w.heap.size (fun _ => True) v180 t179) := ⟨h0_⟩
  have n1_ : Aside0 (w14.heap[gb176]? = some (.cells #[.string a0_0, .int .i64 a0_1, .int .i64 a0_2, .int .i64 a0_3, .int .i64 a0_4, .slice A0_5 l0_5.length c0_5, .slice A0_6 l0_6.length c0_6] 27 (0, 0))) := ⟨h1_⟩
  have n2_ : Aside0 (w14.heap[gb177]? = some (.cells #[.string (⟨#[]⟩ : ByteArray), .int .i64 0, .int .i64 0, .slice none 0 0, .slice none 0 0] 39 (0, 0))) := ⟨h2_⟩
  have n3_ : Aside0 (w14.heap[gb182]? = some (.cells #[.string (⟨#[]⟩ : ByteArray), .int .i64 0, .int .i64 0, .slice none 0 0, .slice none 0 0] 39 (0, 0))) := ⟨h3_⟩
  have n4_ : Aside0 (w.heap.size ≤ gb182) := ⟨h4_⟩
  have n5_ : Aside0 (w.heap.size ≤ gb182) := ⟨h5_⟩
  have n6_ : Aside0 (gb176 ≠ gb182) := ⟨h6_⟩
  have n7_ : Aside0 (gb182 ≠ gb176) := ⟨h7_⟩
  have n8_ : Aside0 (gb177 ≠ gb182) := ⟨h8_⟩
  have n9_ : Aside0 (gb182 ≠ gb177) := ⟨h9_⟩
  have n10_ : Aside0 (Below w.heap.size w w14) := ⟨h10_⟩
  clear BK176
  clear BK177
  clear HB
  clear h0_ h1_ h2_ h3_ h4_ h5_ h6_ h7_ h8_ h9_ h10_
  have HO181 := n0_
  have BK176 := n1_
  have BK177 := n2_
  have BK182 := n3_
  have GW182 := n4_
  have GE182 := n5_
  have NB176_182 := n6_
  have NB182_176 := n7_
  have NB177_182 := n8_
  have NB182_177 := n9_
  have HB := n10_
  clear n0_ n1_ n2_ n3_ n4_ n5_ n6_ n7_ n8_ n9_ n10_
  have hHeld : w14.cell? ⟨gb176, 0, none⟩ = some (.string a0_0) ∧ w14.cell? ⟨gb176, 1, none⟩ = some (.int .i64 a0_1) ∧ w14.cell? ⟨gb176, 2, none⟩ = some (.int .i64 a0_2) ∧ w14.cell? ⟨gb176, 3, none⟩ = some (.int .i64 a0_3) ∧ w14.cell? ⟨gb176, 4, none⟩ = some (.int .i64 a0_4) ∧ w14.cell? ⟨gb176, 5, none⟩ = some (.slice A0_5 l0_5.length c0_5) ∧ w14.cell? ⟨gb176, 6, none⟩ = some (.slice A0_6 l0_6.length c0_6) := hS_
  obtain ⟨Ao15, co15, eo15⟩ := Kd.R_slice HO181.out
  (first | subst eo15 | (injection eo15 with f1_ f2_ f3_; have f4_ := f1_.symm; have f5_ := f3_.symm; clear f1_ f2_ f3_; subst f4_; subst f5_))
  refine norm_ (a' := ?_) ?_ ?_
  rotate_left
  ·simp only [putAll, Act.put, List.setIfInBounds_toArray, List.set_cons_zero, List.set_cons_succ]
   rfl
  refine one_ (i := 11) (N := none) #[true, true, true, true, true, true, true, true, true, true, true, true] rfl rfl (one_of HT_.out kx) (by decide) (fun K hK => ?_)
  have hs16 : w14.cell? ⟨gb182, 0, none⟩ = some (.string (⟨#[]⟩ : ByteArray)) := (blk_cell BK182.out 0).trans rfl
  have hfs16 := blk_frozen BK182.out 0
  have hns16_0 := NB176_182.out
  have hns16_1 := NB177_182.out
  have hms16_0 := NB182_176.out
  have hms16_1 := NB182_177.out
  have hs17 : w14.cell? ⟨gb182, 1, none⟩ = some (.int .i64 0) := (blk_cell BK182.out 1).trans rfl
  have hfs17 := blk_frozen BK182.out 1
  have hns17_0 := NB176_182.out
  have hns17_1 := NB177_182.out
  have hms17_0 := NB182_176.out
  have hms17_1 := NB182_177.out
  have hs18 : w14.cell? ⟨gb182, 2, none⟩ = some (.int .i64 0) := (blk_cell BK182.out 2).trans rfl
  have hfs18 := blk_frozen BK182.out 2
  have hns18_0 := NB176_182.out
  have hns18_1 := NB177_182.out
  have hms18_0 := NB182_176.out
  have hms18_1 := NB182_177.out
  have hs19 : w14.cell? ⟨gb182, 3, none⟩ = some (.slice none 0 0) := (blk_cell BK182.out 3).trans rfl
  have hfs19 := blk_frozen BK182.out 3
  have hns19_0 := NB176_182.out
  have hns19_1 := NB177_182.out
  have hms19_0 := NB182_176.out
  have hms19_1 := NB182_177.out
  have hs20 : w14.cell? ⟨gb182, 4, none⟩ = some (.slice none 0 0) := (blk_cell BK182.out 4).trans rfl
  have hfs20 := blk_frozen BK182.out 4
  have hns20_0 := NB176_182.out
  have hns20_1 := NB177_182.out
  have hms20_0 := NB182_176.out
  have hms20_1 := NB182_177.out
  refine skip_ (w1 := ?_) (by rfl) rfl ?_ ?_
  rotate_left
  ·go_simp
   rfl
  refine hK.out _ _ ⟨((cell_far (p := ⟨gb182, _, none⟩) NB176_182.out _).trans (((cell_far (p := ⟨gb182, _, none⟩) NB176_182.out _).trans (((cell_far (p := ⟨gb182, _, none⟩) NB176_182.out _).trans (((cell_far (p := ⟨gb182, _, none⟩) NB176_182.out _).trans (((cell_far (p := ⟨gb182, _, none⟩) NB176_182.out _).trans (hHeld.1)))))))))), ((cell_far (p := ⟨gb182, _, none⟩) NB176_182.out _).trans (((cell_far (p := ⟨gb182, _, none⟩) NB176_182.out _).trans (((cell_far (p := ⟨gb182, _, none⟩) NB176_182.out _).trans (((cell_far (p := ⟨gb182, _, none⟩) NB176_182.out _).trans (((cell_far (p := ⟨gb182, _, none⟩) NB176_182.out _).trans (hHeld.2.1)))))))))), ((cell_far (p := ⟨gb182, _, none⟩) NB176_182.out _).trans (((cell_far (p := ⟨gb182, _, none⟩) NB176_182.out _).trans (((cell_far (p := ⟨gb182, _, none⟩) NB176_182.out _).trans (((cell_far (p := ⟨gb182, _, none⟩) NB176_182.out _).trans (((cell_far (p := ⟨gb182, _, none⟩) NB176_182.out _).trans (hHeld.2.2.1)))))))))), ((cell_far (p := ⟨gb182, _, none⟩) NB176_182.out _).trans (((cell_far (p := ⟨gb182, _, none⟩) NB176_182.out _).trans (((cell_far (p := ⟨gb182, _, none⟩) NB176_182.out _).trans (((cell_far (p := ⟨gb182, _, none⟩) NB176_182.out _).trans (((cell_far (p := ⟨gb182, _, none⟩) NB176_182.out _).trans (hHeld.2.2.2.1)))))))))), ((cell_far (p := ⟨gb182, _, none⟩) NB176_182.out _).trans (((cell_far (p := ⟨gb182, _, none⟩) NB176_182.out _).trans (((cell_far (p := ⟨gb182, _, none⟩) NB176_182.out _).trans (((cell_far (p := ⟨gb182, _, none⟩) NB176_182.out _).trans (((cell_far (p := ⟨gb182, _, none⟩) NB176_182.out _).trans (hHeld.2.2.2.2.1)))))))))), ((cell_far (p := ⟨gb182, _, none⟩) NB176_182.out _).trans (((cell_far (p := ⟨gb182, _, none⟩) NB176_182.out _).trans (((cell_far (p := ⟨gb182, _, none⟩) NB176_182.out _).trans (((cell_far (p := ⟨gb182, _, none⟩) NB176_182.out _).trans (((cell_far (p := ⟨gb182, _, none⟩) NB176_182.out _).trans (hHeld.2.2.2.2.2.1)))))))))), ((cell_far (p := ⟨gb182, _, none⟩) NB176_182.out _).trans (((cell_far (p := ⟨gb182, _, none⟩) NB176_182.out _).trans (((cell_far (p := ⟨gb182, _, none⟩) NB176_182.out _).trans (((cell_far (p := ⟨gb182, _, none⟩) NB176_182.out _).trans (((cell_far (p := ⟨gb182, _, none⟩) NB176_182.out _).trans (hHeld.2.2.2.2.2.2))))))))))⟩ (fun hHeld => ?_)
  clear hK K
  refine done_ (done_of HT_.out kx) ?_
  try go_wp2
  go_loopg [6] k (fun kq v6 w' => ∃ (x6_1 : Int) (x178000_1 : ByteArray) (x178001_1 : Int) (x178002_1 : Int) (x183004_1 : List Int) (u183004 : Value), v6 = .int .i64 x6_1 ∧ Aside0 (compile_Compile.l0 kq x6_1 a0_0 a0_1 a0_2 a0_3 a0_4 l0_5 l0_6 a0_0 a0_1 a0_2 t179 x183004_1 = some (r1, r2, r3, r4, r5, r6)) ∧ Aside0 (kq ≤ k) ∧ Aside0 (Kd.R k53 53 w' w.heap.size (fun _ => True) (.slice Ao15 t179.length co15) t179) ∧ Aside0 (Kd.R (Kd.int .i64) 3 w' w.heap.size (fun _ => True) u183004 x183004_1) ∧ Aside0 (w'.heap[gb176]? = some (.cells #[.string a0_0, .int .i64 a0_1, .int .i64 a0_2, .int .i64 a0_3, .int .i64 a0_4, (.slice A0_5 l0_5.length c0_5), (.slice A0_6 l0_6.length c0_6)] 27 (0, 0))) ∧ Aside0 (w'.heap[gb177]? = some (.cells #[.string x178000_1, .int .i64 x178001_1, .int .i64 x178002_1, (.slice none 0 0), (.slice none 0 0)] 39 (0, 0))) ∧ Aside0 (w'.heap[gb182]? = some (.cells #[.string a0_0, .int .i64 a0_1, .int .i64 a0_2, (.slice Ao15 t179.length co15), u183004] 39 (0, 0))) ∧ Aside0 (Below w.heap.size w w'))
  case atStart => exact ⟨(1), ((⟨#[]⟩ : ByteArray)), (0), (0), (([] : List Int)), (.slice none 0 0), rs, H', ⟨Nat.le_refl _⟩, ⟨by (with_reducible repeat (first | apply Kd.R_alloc | apply Kd.R_drewN | apply Kd.R_drew)); exact Kd.R_mono (Kd.R_far (p := ⟨gb182, 4, none⟩) (Kd.R_far (p := ⟨gb182, 3, none⟩) (Kd.R_far (p := ⟨gb182, 2, none⟩) (Kd.R_far (p := ⟨gb182, 1, none⟩) (Kd.R_far (p := ⟨gb182, 0, none⟩) (Kd.R_types HO181.out BK182.out (by decide)) (fun _ hk => hk.2) (.string a0_0)) (fun _ hk => hk.2) (.int .i64 a0_1)) (fun _ hk => hk.2) (.int .i64 a0_2)) (fun _ hk => hk.2) (.slice Ao15 t179.length co15)) (fun _ hk => hk.2) (.slice none 0 0)) (fun _ hk => trivial)⟩, ⟨by first | exact Kd.R_nil _ _ _ _ _ | exact Kd.N_nil _ _ _ _ _ | exact Kd.V_nil _ _ _ _ _ | exact Kd.Q_nil _ _ _ _ _ | exact Kd.S_nil _ _ _ _ _⟩, ⟨bk BK176⟩, ⟨bk BK177⟩, ⟨bk BK182⟩, ⟨be⟩⟩
  case round =>
   clear H'
   (try clear c1); (try clear p2); (try clear c3); (try clear c3b0); (try clear c3b1); (try clear c7); (try clear c8); (try clear c14); (try clear hcz8_0); (try clear hcz8_1); (try clear hcz8_2); (try clear hcz8_3); (try clear hcz8_4); (try clear hcz8_5); (try clear hcz8_6); (try clear hfz8_0); (try clear hfz8_1); (try clear hfz8_2); (try clear hfz8_3); (try clear hfz8_4); (try clear hfz8_5); (try clear hfz8_6)
   obtain ⟨x6_1, x178000_1, x178001_1, x178002_1, x183004_1, u183004, rfl, HA, HK1, HO_183003, HO_183004, BK176, BK177, BK182, HB⟩ := hrel
   cases gk with
   | zero => exact absurd HA.out (by simp [compile_Compile.l0])
   | succ k1 =>
    have H := HA.out
    clear HA
    simp only [compile_Compile.l0] at H
    by_cases c21 : x6_1 ≤ a0_2
    ·rw [if_pos c21] at H
     have c21b0 : decide (x6_1 ≤ a0_2) = true := decide_eq_true c21
     clear c21
     replace H := Option.bind_eq_some_iff.mp H
     obtain ⟨⟨t183, t184⟩, A220, H⟩ := H
     replace H : (if t184 = 0 then (if t183 = 0 then (compile_Compile.l0 k1 (wrap64 (x6_1 + 1)) a0_0 a0_1 a0_2 a0_3 a0_4 l0_5 l0_6 a0_0 a0_1 a0_2 t179 x183004_1) else (if x183004_1.length < 17592186044416 then (compile_Compile.l0 k1 (wrap64 (x6_1 + 1)) a0_0 a0_1 a0_2 a0_3 a0_4 l0_5 l0_6 a0_0 a0_1 a0_2 t179 (x183004_1 ++ [x6_1])) else (none))) else (some ((⟨#[]⟩ : ByteArray), 0, 0, ([] : List (S53)), ([] : List Int), t184))) = some (r1, r2, r3, r4, r5, r6) := H
     have A22 := Aside0.mk A220
     clear A220
     by_cases c23 : t184 = 0
     ·rw [if_pos c23] at H
      have c23b0 : (t184 == 0) = true := beq_iff_eq.mpr c23
      have c23b1 : (t184 != 0) = false := bne_eq_false_iff_eq.mpr c23
      clear c23
      by_cases c24 : t183 = 0
      ·rw [if_pos c24] at H
       have c24b0 : (t183 == 0) = true := beq_iff_eq.mpr c24
       have c24b1 : (t183 != 0) = false := bne_eq_false_iff_eq.mpr c24
       clear c24
       have H' := Aside0.mk H
       clear H
       have hnb25 := NB176_177.out
       have hnc25 := NB177_176.out
       have hnb26 := NB176_182.out
       have hnc26 := NB182_176.out
       obtain ⟨hcz27_0, hcz27_1, hcz27_2, hcz27_3, hcz27_4, hcz27_5, hcz27_6, hfz27_0, hfz27_1, hfz27_2, hfz27_3, hfz27_4, hfz27_5, hfz27_6⟩ := bc7 BK176
       go_wp2_with (first | ((with_reducible refine gate_callee (f := 10) rfl ?_); refine goesL_ (some 35) rfl rfl Tryd.func10 kx rfl #[.agg #[.int .i64 a0_3, .int .i64 a0_4, .slice A0_5 l0_5.length c0_5], .int .i64 x6_1] rfl aa ?_; (with_reducible refine (rule_Eval.calls k1 a0_3 a0_4 _ _ l0_5 x6_1 t183 t184 _ ?side1 ?side2 (hT.below be (Nat.le_refl _)) A22.out).mono ?_); (case side1 => exact kc (Kd.C_below HR0_5.out HB.out)); (case side2 => exact HC0_5.out); rintro e w28 ⟨rfl, hb⟩; refine ⟨_, rfl, ?_⟩; have n0_ := Aside0.mk (Kd.R_below (by (with_reducible repeat (first | apply Kd.R_alloc | apply Kd.R_drewN | apply Kd.R_drew)); exact HO_183003.out) hb); have n1_ := Aside0.mk (Kd.R_below (by (with_reducible repeat (first | apply Kd.R_alloc | apply Kd.R_drewN | apply Kd.R_drew)); exact HO_183004.out) hb); have n2_ := bb BK176 hb; have n3_ := bb BK177 hb; have n4_ := bb BK182 hb; have n5_ := Aside0.mk (below_step be hb); clear HO_183003; clear HO_183004; clear BK176; clear BK177; clear BK182; clear HB; have HO_183003 := n0_; have HO_183004 := n1_; have BK176 := n2_; have BK177 := n3_; have BK182 := n4_; have HB := n5_; clear n0_ n1_ n2_ n3_ n4_ n5_; (try clear hb); (try clear hb2); (try clear hk); (try clear hi)))
       go_roundg k1
       case measure => have := HK1.out; omega
       case rel => exact ⟨(wrap64 (x6_1 + 1)), (x178000_1), (x178001_1), (x178002_1), (x183004_1), (u183004), rs, H', ⟨by have := HK1.out; omega⟩, ⟨by (with_reducible repeat (first | apply Kd.R_alloc | apply Kd.R_drewN | apply Kd.R_drew)); exact HO_183003.out⟩, ⟨by (with_reducible repeat (first | apply Kd.R_alloc | apply Kd.R_drewN | apply Kd.R_drew)); exact HO_183004.out⟩, ⟨bk BK176⟩, ⟨bk BK177⟩, ⟨bk BK182⟩, ⟨be⟩⟩
      ·rw [if_neg c24] at H
       have c24b0 : (t183 == 0) = false := beq_eq_false_iff_ne.mpr c24
       have c24b1 : (t183 != 0) = true := bne_iff_ne.mpr c24
       by_cases c29 : x183004_1.length < 17592186044416
       ·rw [if_pos c29] at H
        have LMc29 := Aside0.mk c29
        clear c29
        obtain ⟨y185, hy185⟩ : ∃ y_ : List Int, y_ = (x183004_1 ++ [x6_1]) := ⟨_, rfl⟩
        replace H : (compile_Compile.l0 k1 (wrap64 (x6_1 + 1)) a0_0 a0_1 a0_2 a0_3 a0_4 l0_5 l0_6 a0_0 a0_1 a0_2 t179 y185) = some (r1, r2, r3, r4, r5, r6) := rp hy185 H
        have Ny185 := Aside0.mk hy185
        clear hy185
        have H' := Aside0.mk H
        clear H
        have hnb30 := NB176_177.out
        have hnc30 := NB177_176.out
        have hnb31 := NB176_182.out
        have hnc31 := NB182_176.out
        obtain ⟨hcz32_0, hcz32_1, hcz32_2, hcz32_3, hcz32_4, hcz32_5, hcz32_6, hfz32_0, hfz32_1, hfz32_2, hfz32_3, hfz32_4, hfz32_5, hfz32_6⟩ := bc7 BK176
        go_wp2_with (first | ((with_reducible refine gate_callee (f := 10) rfl ?_); refine goesL_ (some 35) rfl rfl Tryd.func10 kx rfl #[.agg #[.int .i64 a0_3, .int .i64 a0_4, .slice A0_5 l0_5.length c0_5], .int .i64 x6_1] rfl aa ?_; (with_reducible refine (rule_Eval.calls k1 a0_3 a0_4 _ _ l0_5 x6_1 t183 t184 _ ?side1 ?side2 (hT.below be (Nat.le_refl _)) A22.out).mono ?_); (case side1 => exact kc (Kd.C_below HR0_5.out HB.out)); (case side2 => exact HC0_5.out); rintro e w33 ⟨rfl, hb⟩; refine ⟨_, rfl, ?_⟩; have n0_ := Aside0.mk (Kd.R_below (by (with_reducible repeat (first | apply Kd.R_alloc | apply Kd.R_drewN | apply Kd.R_drew)); exact HO_183003.out) hb); have n1_ := Aside0.mk (Kd.R_below (by (with_reducible repeat (first | apply Kd.R_alloc | apply Kd.R_drewN | apply Kd.R_drew)); exact HO_183004.out) hb); have n2_ := bb BK176 hb; have n3_ := bb BK177 hb; have n4_ := bb BK182 hb; have n5_ := Aside0.mk (below_step be hb); clear HO_183003; clear HO_183004; clear BK176; clear BK177; clear BK182; clear HB; have HO_183003 := n0_; have HO_183004 := n1_; have BK176 := n2_; have BK177 := n3_; have BK182 := n4_; have HB := n5_; clear n0_ n1_ n2_ n3_ n4_ n5_; (try clear hb); (try clear hb2); (try clear hk); (try clear hi); have hnb34 := NB182_177.out; have hnc34 := NB177_182.out; obtain ⟨hcz35_0, hcz35_1, hcz35_2, hcz35_3, hcz35_4, hfz35_0, hfz35_1, hfz35_2, hfz35_3, hfz35_4⟩ := bc5 BK182) | ((with_reducible refine gate_builtin (b := .append) (xs := #[.tmp 45, .tmp 47]) rfl ?_); at_builtin; refine Kd.R_append (Kd.int .i64) (w0 := w) w.heap.size rfl (.tmp 45) (.tmp 47) 37 3 (.int .i64 0) 8 rfl Tryd.underlying37 info3 rfl (by decide) (by omega) u183004 x183004_1 x6_1 [.int .i64 x6_1] (fun _ => True) (fun _ => False) rfl rfl ?aP (fun _ hk => hk.elim) ?aF ?aO ?aB ?aS ?aL ?_; (case aP => exact rfl); (case aB => exact be); (case aF => exact (fun _ _ => trivial)); (case aO => exact (by (with_reducible repeat (first | apply Kd.R_alloc | apply Kd.R_drewN | apply Kd.R_drew)); exact HO_183004.out)); (case aS => exact (below_size be)); (case aL => have := LMc29.out; omega); intro v186 w36 ho hb hg hat; rw [← Ny185.out] at ho; have n0_ := Aside0.mk (Kd.R_over' (by (with_reducible repeat (first | apply Kd.R_alloc | apply Kd.R_drewN | apply Kd.R_drew)); exact HO_183003.out) (Kd.R_typed (by (with_reducible repeat (first | apply Kd.R_alloc | apply Kd.R_drewN | apply Kd.R_drew)); exact HO_183004.out)) (by decide) hg); have n1_ := Aside0.mk (blk_grown (g := gb176) (o := .cells #[.string a0_0, .int .i64 a0_1, .int .i64 a0_2, .int .i64 a0_3, .int .i64 a0_4, .slice A0_5 l0_5.length c0_5, .slice A0_6 l0_6.length c0_6] 27 (0, 0)) (bk BK176) hg (Kd.R_ne HO_183004.out BK176.out (by decide))); have n2_ := Aside0.mk (blk_grown (g := gb177) (o := .cells #[.string x178000_1, .int .i64 x178001_1, .int .i64 x178002_1, .slice none 0 0, .slice none 0 0] 39 (0, 0)) (bk BK177) hg (Kd.R_ne HO_183004.out BK177.out (by decide))); have n3_ := Aside0.mk (blk_grown (g := gb182) (o := .cells #[.string a0_0, .int .i64 a0_1, .int .i64 a0_2, .slice Ao15 t179.length co15, u183004] 39 (0, 0)) (bk BK182) hg (Kd.R_ne HO_183004.out BK182.out (by decide))); have n4_ := Aside0.mk (hb); have n5_ := Aside0.mk (ho); clear HO_183003; clear BK176; clear BK177; clear BK182; clear HB; clear HO_183004; have HO_183003 := n0_; have BK176 := n1_; have BK177 := n2_; have BK182 := n3_; have HB := n4_; have HO187 := n5_; clear n0_ n1_ n2_ n3_ n4_ n5_; clear ho hb hg hat; obtain ⟨Ao37, co37, eo37⟩ := Kd.R_slice HO187.out; subst eo37; obtain ⟨hcz38_0, hcz38_1, hcz38_2, hcz38_3, hcz38_4, hfz38_0, hfz38_1, hfz38_2, hfz38_3, hfz38_4⟩ := bc5 BK182))
        go_roundg k1
        case measure => have := HK1.out; omega
        case rel => exact ⟨(wrap64 (x6_1 + 1)), (x178000_1), (x178001_1), (x178002_1), (y185), (.slice Ao37 y185.length co37), rs, H', ⟨by have := HK1.out; omega⟩, ⟨by (with_reducible repeat (first | apply Kd.R_alloc | apply Kd.R_drewN | apply Kd.R_drew)); exact Kd.R_mono (Kd.R_far (p := ⟨gb182, 4, none⟩) (Kd.R_types HO_183003.out BK182.out (by decide)) (fun _ hk => hk.2) (.slice Ao37 y185.length co37)) (fun _ hk => trivial)⟩, ⟨by (with_reducible repeat (first | apply Kd.R_alloc | apply Kd.R_drewN | apply Kd.R_drew)); exact Kd.R_mono (Kd.R_far (p := ⟨gb182, 4, none⟩) (Kd.R_types HO187.out BK182.out (by decide)) (fun _ hk => hk.2) (.slice Ao37 y185.length co37)) (fun _ hk => trivial)⟩, ⟨bk BK176⟩, ⟨bk BK177⟩, ⟨bk BK182⟩, ⟨be⟩⟩
       ·rw [if_neg c29] at H
        exact absurd H (by simp)
     ·rw [if_neg c23] at H
      have c23b0 : (t184 == 0) = false := beq_eq_false_iff_ne.mpr c23
      have c23b1 : (t184 != 0) = true := bne_iff_ne.mpr c23
      simp only [Option.some.injEq, Prod.mk.injEq] at H
      obtain ⟨rfl, rfl, rfl, rfl, rfl, rfl⟩ := H
      have hnb39 := NB176_177.out
      have hnc39 := NB177_176.out
      have hnb40 := NB176_182.out
      have hnc40 := NB182_176.out
      obtain ⟨hcz41_0, hcz41_1, hcz41_2, hcz41_3, hcz41_4, hcz41_5, hcz41_6, hfz41_0, hfz41_1, hfz41_2, hfz41_3, hfz41_4, hfz41_5, hfz41_6⟩ := bc7 BK176
      go_wp2_with (first | ((with_reducible refine gate_callee (f := 10) rfl ?_); refine goesL_ (some 35) rfl rfl Tryd.func10 kx rfl #[.agg #[.int .i64 a0_3, .int .i64 a0_4, .slice A0_5 l0_5.length c0_5], .int .i64 x6_1] rfl aa ?_; (with_reducible refine (rule_Eval.calls k1 a0_3 a0_4 _ _ l0_5 x6_1 t183 t184 _ ?side1 ?side2 (hT.below be (Nat.le_refl _)) A22.out).mono ?_); (case side1 => exact kc (Kd.C_below HR0_5.out HB.out)); (case side2 => exact HC0_5.out); rintro e w42 ⟨rfl, hb⟩; refine ⟨_, rfl, ?_⟩; have n0_ := Aside0.mk (Kd.R_below (by (with_reducible repeat (first | apply Kd.R_alloc | apply Kd.R_drewN | apply Kd.R_drew)); exact HO_183003.out) hb); have n1_ := Aside0.mk (Kd.R_below (by (with_reducible repeat (first | apply Kd.R_alloc | apply Kd.R_drewN | apply Kd.R_drew)); exact HO_183004.out) hb); have n2_ := bb BK176 hb; have n3_ := bb BK177 hb; have n4_ := bb BK182 hb; have n5_ := Aside0.mk (below_step be hb); clear HO_183003; clear HO_183004; clear BK176; clear BK177; clear BK182; clear HB; have HO_183003 := n0_; have HO_183004 := n1_; have BK176 := n2_; have BK177 := n3_; have BK182 := n4_; have HB := n5_; clear n0_ n1_ n2_ n3_ n4_ n5_; (try clear hb); (try clear hb2); (try clear hk); (try clear hi); have hnb43 := NB177_182.out; have hnc43 := NB182_177.out; obtain ⟨hcz44_0, hcz44_1, hcz44_2, hcz44_3, hcz44_4, hfz44_0, hfz44_1, hfz44_2, hfz44_3, hfz44_4⟩ := bc5 BK177))
      refine bodyPost_ret (results_ct rfl _ _ gb177 39 #[.string (⟨#[]⟩ : ByteArray), .int .i64 0, .int .i64 0, .slice none 0 0, .slice none 0 0] (0, 0) _ rfl (bk BK177) Tryd.underlying39 rfl kx) rfl ?_
      exact ⟨_, _, by first | rfl | (simp [errW_none, errW_some] <;> rfl) | (simp [*, errW_none, errW_some] <;> rfl), by first | exact Kd.R_nil _ _ _ _ _ | exact Kd.N_nil _ _ _ _ _ | exact Kd.V_nil _ _ _ _ _ | exact Kd.Q_nil _ _ _ _ _ | exact Kd.S_nil _ _ _ _ _, by first | exact Kd.R_nil _ _ _ _ _ | exact Kd.N_nil _ _ _ _ _ | exact Kd.V_nil _ _ _ _ _ | exact Kd.Q_nil _ _ _ _ _ | exact Kd.S_nil _ _ _ _ _, be⟩
    ·rw [if_neg c21] at H
     have c21b0 : decide (x6_1 ≤ a0_2) = false := decide_eq_false c21
     clear c21
     simp only [Option.some.injEq, Prod.mk.injEq] at H
     obtain ⟨rfl, rfl, rfl, rfl, rfl, rfl⟩ := H
     have hnb45 := NB176_177.out
     have hnc45 := NB177_176.out
     have hnb46 := NB176_182.out
     have hnc46 := NB182_176.out
     obtain ⟨hcz47_0, hcz47_1, hcz47_2, hcz47_3, hcz47_4, hcz47_5, hcz47_6, hfz47_0, hfz47_1, hfz47_2, hfz47_3, hfz47_4, hfz47_5, hfz47_6⟩ := bc7 BK176
     have hnb48 := NB182_177.out
     have hnc48 := NB177_182.out
     obtain ⟨hcz49_0, hcz49_1, hcz49_2, hcz49_3, hcz49_4, hfz49_0, hfz49_1, hfz49_2, hfz49_3, hfz49_4⟩ := bc5 BK182
     obtain ⟨hcz50_0, hcz50_1, hcz50_2, hcz50_3, hcz50_4, hfz50_0, hfz50_1, hfz50_2, hfz50_3, hfz50_4⟩ := bc5 BK177
     obtain ⟨Ao51, co51, eo51⟩ := Kd.R_slice HO_183004.out
     subst eo51
     go_wp2
     refine bodyPost_ret (results_ct rfl _ _ gb177 39 #[.string a0_0, .int .i64 a0_1, .int .i64 a0_2, .slice Ao15 t179.length co15, .slice Ao51 x183004_1.length co51] (0, 0) _ rfl (bk BK177) Tryd.underlying39 rfl kx) rfl ?_
     exact ⟨_, _, by first | rfl | (simp [errW_none, errW_some] <;> rfl) | (simp [*, errW_none, errW_some] <;> rfl), by (with_reducible repeat (first | apply Kd.R_alloc | apply Kd.R_drewN | apply Kd.R_drew)); exact Kd.R_mono (Kd.R_far (p := ⟨gb177, 4, none⟩) (Kd.R_far (p := ⟨gb177, 3, none⟩) (Kd.R_far (p := ⟨gb177, 2, none⟩) (Kd.R_far (p := ⟨gb177, 1, none⟩) (Kd.R_far (p := ⟨gb177, 0, none⟩) (Kd.R_types HO_183003.out BK177.out (by decide)) (fun _ hk => hk.2) (.string a0_0)) (fun _ hk => hk.2) (.int .i64 a0_1)) (fun _ hk => hk.2) (.int .i64 a0_2)) (fun _ hk => hk.2) (.slice Ao15 t179.length co15)) (fun _ hk => hk.2) (.slice Ao51 x183004_1.length co51)) (fun _ hk => trivial), by (with_reducible repeat (first | apply Kd.R_alloc | apply Kd.R_drewN | apply Kd.R_drew)); exact Kd.R_mono (Kd.R_far (p := ⟨gb177, 4, none⟩) (Kd.R_far (p := ⟨gb177, 3, none⟩) (Kd.R_far (p := ⟨gb177, 2, none⟩) (Kd.R_far (p := ⟨gb177, 1, none⟩) (Kd.R_far (p := ⟨gb177, 0, none⟩) (Kd.R_types HO_183004.out BK177.out (by decide)) (fun _ hk => hk.2) (.string a0_0)) (fun _ hk => hk.2) (.int .i64 a0_1)) (fun _ hk => hk.2) (.int .i64 a0_2)) (fun _ hk => hk.2) (.slice Ao15 t179.length co15)) (fun _ hk => hk.2) (.slice Ao51 x183004_1.length co51)) (fun _ hk => trivial), be⟩
 ·rw [if_neg c3] at H
  have c3b0 : (t178 == 0) = false := beq_eq_false_iff_ne.mpr c3
  have c3b1 : (t178 != 0) = true := bne_iff_ne.mpr c3
  simp only [Option.some.injEq, Prod.mk.injEq] at H
  obtain ⟨rfl, rfl, rfl, rfl, rfl, rfl⟩ := H
  go_enter Tryd.func14, Tryd.ntmps14
  go_wp2_with (first | ((with_reducible refine gate_dst (N := 1) rfl ?_); refine box_event ?hg (N := 1) ?hd (cs := #[.string a0_0, .int .i64 a0_1, .int .i64 a0_2, .int .i64 a0_3, .int .i64 a0_4, .slice A0_5 l0_5.length c0_5, .slice A0_6 l0_6.length c0_6]) (t := 27) ?hr ?_; (case hd => rfl); (case hg => rfl); (case hr => first | (go_simp; done) | (go_simp; rfl)); intro gb176 hg w52 hbox hb; have n0_ := Aside0.mk (below_step be hb); have n1_ := Aside0.mk (hbox); have n2_ := gs hg HB; have n3_ := n2_; clear HB; have HB := n0_; have BK176 := n1_; have GW176 := n2_; have GE176 := n3_; clear n0_ n1_ n2_ n3_; clear hb hbox hg) | ((with_reducible refine gate_dst (N := 2) rfl ?_); refine box_event ?hg (N := 2) ?hd (cs := #[.string (⟨#[]⟩ : ByteArray), .int .i64 0, .int .i64 0, .slice none 0 0, .slice none 0 0]) (t := 39) ?hr ?_; (case hd => rfl); (case hg => rfl); (case hr => first | (go_simp; done) | (go_simp; rfl)); intro gb177 hg w53 hbox hb; have n0_ := bb BK176 hb; have n1_ := Aside0.mk (below_step be hb); have n2_ := Aside0.mk (hbox); have n3_ := gs hg HB; have n4_ := n3_; have n5_ := nl BK176 hg; have n6_ := ns n5_; clear BK176; clear HB; have BK176 := n0_; have HB := n1_; have BK177 := n2_; have GW177 := n3_; have GE177 := n4_; have NB176_177 := n5_; have NB177_176 := n6_; clear n0_ n1_ n2_ n3_ n4_ n5_ n6_; clear hb hbox hg; have hnb54 := NB176_177.out; have hnc54 := NB177_176.out; obtain ⟨hcz55_0, hcz55_1, hcz55_2, hcz55_3, hcz55_4, hcz55_5, hcz55_6, hfz55_0, hfz55_1, hfz55_2, hfz55_3, hfz55_4, hfz55_5, hfz55_6⟩ := bc7 BK176) | ((with_reducible refine gate_callee (f := 8) rfl ?_); refine goesL_ (some 10) rfl rfl Tryd.func8 kx rfl #[.agg #[.string a0_0, .int .i64 a0_1, .int .i64 a0_2, .int .i64 a0_3, .int .i64 a0_4, .slice A0_5 l0_5.length c0_5, .slice A0_6 l0_6.length c0_6]] rfl aa ?_; (with_reducible refine (rule_Check.calls k a0_0 a0_1 a0_2 a0_3 a0_4 _ _ l0_5 _ _ l0_6 t178 _ ?side1 ?side2 ?side3 ?side4 (hT.below be (Nat.le_refl _)) A2.out).mono ?_); (case side1 => exact kc (Kd.C_below HR0_5.out HB.out)); (case side2 => exact HC0_5.out); (case side3 => exact kc (Kd.C_below HR0_6.out HB.out)); (case side4 => exact HC0_6.out); rintro e w56 ⟨rfl, hb⟩; refine ⟨_, rfl, ?_⟩; have n0_ := bb BK176 hb; have n1_ := bb BK177 hb; have n2_ := Aside0.mk (below_step be hb); clear BK176; clear BK177; clear HB; have BK176 := n0_; have BK177 := n1_; have HB := n2_; clear n0_ n1_ n2_; (try clear hb); (try clear hb2); (try clear hk); (try clear hi); obtain ⟨hcz57_0, hcz57_1, hcz57_2, hcz57_3, hcz57_4, hfz57_0, hfz57_1, hfz57_2, hfz57_3, hfz57_4⟩ := bc5 BK177))
  refine bodyPost_ret (results_ct rfl _ _ gb177 39 #[.string (⟨#[]⟩ : ByteArray), .int .i64 0, .int .i64 0, .slice none 0 0, .slice none 0 0] (0, 0) _ rfl (bk BK177) Tryd.underlying39 rfl kx) rfl ?_
  exact ⟨_, _, by first | rfl | (simp [errW_none, errW_some] <;> rfl) | (simp [*, errW_none, errW_some] <;> rfl), by first | exact Kd.R_nil _ _ _ _ _ | exact Kd.N_nil _ _ _ _ _ | exact Kd.V_nil _ _ _ _ _ | exact Kd.Q_nil _ _ _ _ _ | exact Kd.S_nil _ _ _ _ _, by first | exact Kd.R_nil _ _ _ _ _ | exact Kd.N_nil _ _ _ _ _ | exact Kd.V_nil _ _ _ _ _ | exact Kd.Q_nil _ _ _ _ _ | exact Kd.S_nil _ _ _ _ _, be⟩

end Go.Proofs.YtgcmclnjnimolaaDoor.PCompileCompiles
