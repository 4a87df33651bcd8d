/- The walks of the functions of this part. The proof of series_Narrow (in part), phase_Find (in part) is written by hand; the other ones are as the kit's print tells them. -/
-- The walks of the law's functions, told by a program.
import Derived.Test.YtlfammlboncmeaaPFactsMoonsx0
import Derived.Test.YtlfammlboncmeaaPFactsMoonsx4
namespace Go.Proofs.Ytlfammlboncmeaa.PFactsMoons
open Go.RowKit Go.Proofs.YtlfammlboncmeaaW.PrintWords Go.Proofs.YtlfammlboncmeaaW.PrintLast Go.Proofs.YtlfammlboncmeaaW.PrintMore
attribute [local go_sem] max2_int min2_int max_two min_two max_three min_three max_four min_four   -- for this text's walks alone
set_option linter.unusedVariables false
set_option linter.unusedSimpArgs false

/-! ### series_Narrow: function 123 -/
mutual
def series_Narrow.l0 : Nat → Int → Int → Int → Int → Option (Int × Int × Int)
  | 0, _, _, _, _ => none
  | k + 1, x0, x1, x2, x3 => if (wrap64 (x1 - x0)) > x2 then ((phase_Sign.f k x3 (wrap64 (x0 + (wrap64 (Int.tdiv (wrap64 (x1 - x0)) 2))))).bind fun t247 => (if t247 < 0 then (series_Narrow.l0 k (wrap64 (x0 + (wrap64 (Int.tdiv (wrap64 (x1 - x0)) 2)))) x1 x2 x3) else (if t247 > 0 then (series_Narrow.l0 k x0 (wrap64 (x0 + (wrap64 (Int.tdiv (wrap64 (x1 - x0)) 2)))) x2 x3) else (series_Narrow.l1 k x0 x1 x2 x3 (wrap64 (x0 + (wrap64 (Int.tdiv (wrap64 (x1 - x0)) 2)))) (wrap64 (x0 + (wrap64 (Int.tdiv (wrap64 (x1 - x0)) 2)))))))) else (some (x0, x1, 0))
def series_Narrow.l1 : Nat → Int → Int → Int → Int → Int → Int → Option (Int × Int × Int)
  | 0, _, _, _, _, _, _ => none
  | k + 1, x0, x1, x2, x3, x10, x12 => if (wrap64 (x12 - x0)) > 1 then ((phase_Sign.f k x3 (wrap64 (x0 + (wrap64 (Int.tdiv (wrap64 (x12 - x0)) 2))))).bind fun t248 => (if t248 < 0 then (series_Narrow.l1 k (wrap64 (x0 + (wrap64 (Int.tdiv (wrap64 (x12 - x0)) 2)))) x1 x2 x3 x10 x12) else (series_Narrow.l1 k x0 x1 x2 x3 x10 (wrap64 (x0 + (wrap64 (Int.tdiv (wrap64 (x12 - x0)) 2))))))) else (series_Narrow.l2 k x0 x1 x2 x3 x10)
def series_Narrow.l2 : Nat → Int → Int → Int → Int → Int → Option (Int × Int × Int)
  | 0, _, _, _, _, _ => none
  | k + 1, x0, x1, x2, x3, x14 => if (wrap64 (x1 - x14)) > 1 then ((phase_Sign.f k x3 (wrap64 (x14 + (wrap64 (Int.tdiv (wrap64 (x1 - x14)) 2))))).bind fun t249 => (if t249 > 0 then (series_Narrow.l2 k x0 (wrap64 (x14 + (wrap64 (Int.tdiv (wrap64 (x1 - x14)) 2)))) x2 x3 x14) else (series_Narrow.l2 k x0 x1 x2 x3 (wrap64 (x14 + (wrap64 (Int.tdiv (wrap64 (x1 - x14)) 2))))))) else (if (wrap64 (x1 - x0)) > x2 then (some (0, 0, 11)) else (some (x0, x1, 0)))
end
def series_Narrow.f (k : Nat) (a0 : Int) (a1 : Int) (a2 : Int) (a3 : Int) : Option (Int × Int × Int) := series_Narrow.l0 k a0 a1 a2 a3
theorem series_Narrow.mono_l : ∀ k, (∀ y0 y1 y2 y3, LeO (series_Narrow.l0 k y0 y1 y2 y3) (series_Narrow.l0 (k + 1) y0 y1 y2 y3)) ∧ (∀ y0 y1 y2 y3 y4 y5, LeO (series_Narrow.l1 k y0 y1 y2 y3 y4 y5) (series_Narrow.l1 (k + 1) y0 y1 y2 y3 y4 y5)) ∧ (∀ y0 y1 y2 y3 y4, LeO (series_Narrow.l2 k y0 y1 y2 y3 y4) (series_Narrow.l2 (k + 1) y0 y1 y2 y3 y4))
  | 0 => ⟨fun _ _ _ _ r h => by simp [series_Narrow.l0] at h, fun _ _ _ _ _ _ r h => by simp [series_Narrow.l1] at h, fun _ _ _ _ _ r h => by simp [series_Narrow.l2] at h⟩
  | k + 1 => by
    obtain ⟨ih0, ih1, ih2⟩ := series_Narrow.mono_l k
    refine ⟨?_, ?_, ?_⟩
    · intro y0 y1 y2 y3
      unfold series_Narrow.l0
      repeat' first
      | (with_reducible exact ih0 _ _ _ _)
      | (with_reducible exact ih1 _ _ _ _ _ _)
      | (with_reducible exact ih2 _ _ _ _ _)
      | (with_reducible exact phase_Sign.mono _ _ _)
      | (with_reducible exact LeO.refl _)
      | (with_reducible exact LeO.none _)
      | (with_reducible refine LeO.ite ?_ ?_)
      | (with_reducible refine LeO.bind ?_ (fun _ => ?_))
      | exact ih0 _ _ _ _
      | exact ih1 _ _ _ _ _ _
      | exact ih2 _ _ _ _ _
      | exact phase_Sign.mono _ _ _
      | exact LeO.none _
      | refine LeO.ite ?_ ?_
      | refine LeO.bind ?_ (fun _ => ?_)
    · intro y0 y1 y2 y3 y4 y5
      unfold series_Narrow.l1
      repeat' first
      | (with_reducible exact ih0 _ _ _ _)
      | (with_reducible exact ih1 _ _ _ _ _ _)
      | (with_reducible exact ih2 _ _ _ _ _)
      | (with_reducible exact phase_Sign.mono _ _ _)
      | (with_reducible exact LeO.refl _)
      | (with_reducible exact LeO.none _)
      | (with_reducible refine LeO.ite ?_ ?_)
      | (with_reducible refine LeO.bind ?_ (fun _ => ?_))
      | exact ih0 _ _ _ _
      | exact ih1 _ _ _ _ _ _
      | exact ih2 _ _ _ _ _
      | exact phase_Sign.mono _ _ _
      | exact LeO.none _
      | refine LeO.ite ?_ ?_
      | refine LeO.bind ?_ (fun _ => ?_)
    · intro y0 y1 y2 y3 y4
      unfold series_Narrow.l2
      repeat' first
      | (with_reducible exact ih0 _ _ _ _)
      | (with_reducible exact ih1 _ _ _ _ _ _)
      | (with_reducible exact ih2 _ _ _ _ _)
      | (with_reducible exact phase_Sign.mono _ _ _)
      | (with_reducible exact LeO.refl _)
      | (with_reducible exact LeO.none _)
      | (with_reducible refine LeO.ite ?_ ?_)
      | (with_reducible refine LeO.bind ?_ (fun _ => ?_))
      | exact ih0 _ _ _ _
      | exact ih1 _ _ _ _ _ _
      | exact ih2 _ _ _ _ _
      | exact phase_Sign.mono _ _ _
      | exact LeO.none _
      | refine LeO.ite ?_ ?_
      | refine LeO.bind ?_ (fun _ => ?_)
theorem series_Narrow.mono : ∀ a0 a1 a2 a3 k, LeO (series_Narrow.f k a0 a1 a2 a3) (series_Narrow.f (k + 1) a0 a1 a2 a3) := by
  intro a0 a1 a2 a3 k
  obtain ⟨ih0, ih1, ih2⟩ := series_Narrow.mono_l k
  unfold series_Narrow.f
  repeat' first
      | (with_reducible exact ih0 _ _ _ _)
      | (with_reducible exact ih1 _ _ _ _ _ _)
      | (with_reducible exact ih2 _ _ _ _ _)
      | (with_reducible exact phase_Sign.mono _ _ _)
      | (with_reducible exact LeO.refl _)
      | (with_reducible exact LeO.none _)
      | (with_reducible refine LeO.ite ?_ ?_)
      | (with_reducible refine LeO.bind ?_ (fun _ => ?_))
      | exact ih0 _ _ _ _
      | exact ih1 _ _ _ _ _ _
      | exact ih2 _ _ _ _ _
      | exact phase_Sign.mono _ _ _
      | exact LeO.none _
      | refine LeO.ite ?_ ?_
      | refine LeO.bind ?_ (fun _ => ?_)
set_option maxHeartbeats 8000000 in
set_option maxRecDepth 100000 in
theorem phase_Find.sg (k : Nat) (q : Int) (at_ : Int) (r : Int) (gq : Nat) (w : World) (hq : w.heap[gq]? = some (.cells #[.int .i64 q] 3 (0, 0))) (h : phase_Sign.f k q at_ = some r) :
    Calls Try.prog 124 #[.int .i64 at_, .pointer (some ⟨gq, 0, none⟩)] w fun e w' => e = .returned (.int .i64 r) ∧ Below w.heap.size w w' := by
  have hc : w.cell? ⟨gq, 0, none⟩ = some (.int .i64 q) := (blk_cell hq 0).trans rfl
  have H := Aside0.mk h
  clear h hq
  go_enter Try.func124, Try.ntmps124
  go_wp2_with (go_at_call 122; (with_reducible refine (phase_Sign.calls k q at_ r _ H.out).mono ?_); rintro e w1 ⟨rfl, hb⟩)
  go_ret
  exact ⟨rfl, hb⟩
set_option maxHeartbeats 8000000 in
set_option maxRecDepth 100000 in
theorem series_Narrow.calls (k : Nat) (a0 : Int) (a1 : Int) (a2 : Int) (a3 : Int) (r1 : Int) (r2 : Int) (r3 : Int) (gq : Nat) (w : World) (hq : w.heap[gq]? = some (.cells #[.int .i64 a3] 3 (0, 0))) (h : series_Narrow.f k a0 a1 a2 a3 = some (r1, r2, r3)) :
    Calls Try.prog 123 #[.int .i64 a0, .int .i64 a1, .int .i64 a2, .func (.func 124) #[] #[.pointer (some ⟨gq, 0, none⟩)]] w fun e w' => e = .returned (.tuple #[.agg #[.int .i64 r1, .int .i64 r2], .int .i64 r3]) ∧ Below w.heap.size w w' := by
  have hu153 := Try.underlying153
  have HB := Aside0.mk (Below.refl w.heap.size w)
  have HQ := Aside0.mk hq
  clear hq
  have H : (series_Narrow.l0 k a0 a1 a2 a3) = some (r1, r2, r3) := h
  clear h
  have H' := Aside0.mk H
  clear H
  go_enter Try.func123, Try.ntmps123
  go_wp2_with (first | ((with_reducible refine gate_dst (N := 8) rfl ?_); refine box_event ?hg (N := 8) ?hd (cs := #[.int .i64 0, .int .i64 0]) (t := 153) ?hr ?_; (case hd => rfl); (case hg => rfl); (case hr => first | (go_simp; done) | (go_simp; rfl)); intro gb246 hg w5 hbox hb; have n0_ := Aside0.mk (below_step (by repeat (first | (with_reducible first | exact HB.out | apply below_alloc | apply pw_below_drewN | apply below_drew1) | exact HB.out)) hb); have n1_ := Aside0.mk (hbox); have n2_ := Aside0.mk ((by rw [hg]; exact (below_size (by repeat (first | (with_reducible first | exact HB.out | apply below_alloc | apply pw_below_drewN | apply below_drew1) | exact HB.out))) : w.heap.size ≤ gb246)); have n3_ := Aside0.mk ((by rw [hg]; exact (below_size (by repeat (first | (with_reducible first | exact HB.out | apply below_alloc | apply pw_below_drewN | apply below_drew1) | exact HB.out))) : w.heap.size ≤ gb246)); clear HB; have HB := n0_; have BK246 := n1_; have GW246 := n2_; have GE246 := n3_; clear n0_ n1_ n2_ n3_; clear hb hbox hg))
  go_loopg [0, 1] k (fun kq v0 v1 w' => ∃ (x0_1 : Int) (x1_1 : Int), v0 = .int .i64 x0_1 ∧ v1 = .int .i64 x1_1 ∧ Aside0 (series_Narrow.l0 kq x0_1 x1_1 a2 a3 = some (r1, r2, r3)) ∧ Aside0 (kq ≤ k) ∧ Aside0 (w'.heap[gb246]? = some (.cells #[.int .i64 0, .int .i64 0] 153 (0, 0))) ∧ Aside0 (Below w.heap.size w w'))
  case atStart => exact ⟨(a0), (a1), (by first | rfl | (simp; done) | (simp [*]; done)), (by first | rfl | (simp; done) | (simp [*]; done)), H', ⟨Nat.le_refl _⟩, ⟨by (with_reducible repeat (first | refine blk_drewN ?_ _ | refine blk_drew ?_ | refine blk_alloc ?_ _)); exact BK246.out⟩, ⟨by repeat (first | (with_reducible first | exact HB.out | apply below_alloc | apply pw_below_drewN | apply below_drew1 | refine below_set ?_ GE246.out) | exact HB.out)⟩⟩
  case round =>
    clear H'
    try clear c1
    try clear p2
    obtain ⟨x0_1, x1_1, rfl, rfl, HA, HK1, BK246, HB⟩ := hrel
    cases gk with
    | zero => exact absurd HA.out (by simp [series_Narrow.l0])
    | succ k1 =>
      have H := HA.out
      clear HA
      simp only [series_Narrow.l0] at H
      by_cases c6 : (wrap64 (x1_1 - x0_1)) > a2
      · rw [if_pos c6] at H
        have c6b0 : decide (a2 < (wrap64 (x1_1 - x0_1))) = true := decide_eq_true c6
        clear c6
        replace H := Option.bind_eq_some_iff.mp H
        obtain ⟨t247, A70, H⟩ := H
        replace H : (if t247 < 0 then (series_Narrow.l0 k1 (wrap64 (x0_1 + (wrap64 (Int.tdiv (wrap64 (x1_1 - x0_1)) 2)))) x1_1 a2 a3) else (if t247 > 0 then (series_Narrow.l0 k1 x0_1 (wrap64 (x0_1 + (wrap64 (Int.tdiv (wrap64 (x1_1 - x0_1)) 2)))) a2 a3) else (series_Narrow.l1 k1 x0_1 x1_1 a2 a3 (wrap64 (x0_1 + (wrap64 (Int.tdiv (wrap64 (x1_1 - x0_1)) 2)))) (wrap64 (x0_1 + (wrap64 (Int.tdiv (wrap64 (x1_1 - x0_1)) 2))))))) = some (r1, r2, r3) := H
        have A7 := Aside0.mk A70
        clear A70
        by_cases c8 : t247 < 0
        · rw [if_pos c8] at H
          have c8b0 : decide (t247 < 0) = true := decide_eq_true c8
          clear c8
          have H' := Aside0.mk H
          clear H
          go_wp2_with (first | (go_at_call 124; (with_reducible refine (phase_Find.sg k1 a3 (wrap64 (x0_1 + (wrap64 (Int.tdiv (wrap64 (x1_1 - x0_1)) 2)))) t247 gq _ (blk_below HQ.out (by first | exact HB.out | (with_reducible repeat (first | exact HB.out | apply below_alloc | apply pw_below_drewN | apply below_drew1)))) A7.out).mono ?_); rintro e w9 ⟨rfl, hb⟩; have n0_ := Aside0.mk (blk_below (g := gb246) (o := .cells #[.int .i64 0, .int .i64 0] 153 (0, 0)) (by (with_reducible repeat (first | refine blk_drewN ?_ _ | refine blk_drew ?_ | refine blk_alloc ?_ _)); exact BK246.out) hb); have n1_ := Aside0.mk (below_step (by repeat (first | (with_reducible first | exact HB.out | apply below_alloc | apply pw_below_drewN | apply below_drew1 | refine below_set ?_ GE246.out) | exact HB.out)) hb); clear BK246; clear HB; have BK246 := n0_; have HB := n1_; clear n0_ n1_; (try clear hb); (try clear hb2); (try clear hk); (try clear hi)))
          go_roundg k1
          case measure => have := HK1.out; omega
          case rel => exact ⟨(wrap64 (x0_1 + (wrap64 (Int.tdiv (wrap64 (x1_1 - x0_1)) 2)))), (x1_1), (by first | rfl | (simp; done) | (simp [*]; done)), (by first | rfl | (simp; done) | (simp [*]; done)), H', ⟨by have := HK1.out; omega⟩, ⟨by (with_reducible repeat (first | refine blk_drewN ?_ _ | refine blk_drew ?_ | refine blk_alloc ?_ _)); exact BK246.out⟩, ⟨by repeat (first | (with_reducible first | exact HB.out | apply below_alloc | apply pw_below_drewN | apply below_drew1 | refine below_set ?_ GE246.out) | exact HB.out)⟩⟩
        · rw [if_neg c8] at H
          have c8b0 : decide (t247 < 0) = false := decide_eq_false c8
          clear c8
          by_cases c10 : t247 > 0
          · rw [if_pos c10] at H
            have c10b0 : decide (0 < t247) = true := decide_eq_true c10
            clear c10
            have H' := Aside0.mk H
            clear H
            go_wp2_with (first | (go_at_call 124; (with_reducible refine (phase_Find.sg k1 a3 (wrap64 (x0_1 + (wrap64 (Int.tdiv (wrap64 (x1_1 - x0_1)) 2)))) t247 gq _ (blk_below HQ.out (by first | exact HB.out | (with_reducible repeat (first | exact HB.out | apply below_alloc | apply pw_below_drewN | apply below_drew1)))) A7.out).mono ?_); rintro e w11 ⟨rfl, hb⟩; have n0_ := Aside0.mk (blk_below (g := gb246) (o := .cells #[.int .i64 0, .int .i64 0] 153 (0, 0)) (by (with_reducible repeat (first | refine blk_drewN ?_ _ | refine blk_drew ?_ | refine blk_alloc ?_ _)); exact BK246.out) hb); have n1_ := Aside0.mk (below_step (by repeat (first | (with_reducible first | exact HB.out | apply below_alloc | apply pw_below_drewN | apply below_drew1 | refine below_set ?_ GE246.out) | exact HB.out)) hb); clear BK246; clear HB; have BK246 := n0_; have HB := n1_; clear n0_ n1_; (try clear hb); (try clear hb2); (try clear hk); (try clear hi)))
            go_roundg k1
            case measure => have := HK1.out; omega
            case rel => exact ⟨(x0_1), (wrap64 (x0_1 + (wrap64 (Int.tdiv (wrap64 (x1_1 - x0_1)) 2)))), (by first | rfl | (simp; done) | (simp [*]; done)), (by first | rfl | (simp; done) | (simp [*]; done)), H', ⟨by have := HK1.out; omega⟩, ⟨by (with_reducible repeat (first | refine blk_drewN ?_ _ | refine blk_drew ?_ | refine blk_alloc ?_ _)); exact BK246.out⟩, ⟨by repeat (first | (with_reducible first | exact HB.out | apply below_alloc | apply pw_below_drewN | apply below_drew1 | refine below_set ?_ GE246.out) | exact HB.out)⟩⟩
          · rw [if_neg c10] at H
            have c10b0 : decide (0 < t247) = false := decide_eq_false c10
            clear c10
            have H' := Aside0.mk H
            clear H
            go_wp2_with (first | (go_at_call 124; (with_reducible refine (phase_Find.sg k1 a3 (wrap64 (x0_1 + (wrap64 (Int.tdiv (wrap64 (x1_1 - x0_1)) 2)))) t247 gq _ (blk_below HQ.out (by first | exact HB.out | (with_reducible repeat (first | exact HB.out | apply below_alloc | apply pw_below_drewN | apply below_drew1)))) A7.out).mono ?_); rintro e w12 ⟨rfl, hb⟩; have n0_ := Aside0.mk (blk_below (g := gb246) (o := .cells #[.int .i64 0, .int .i64 0] 153 (0, 0)) (by (with_reducible repeat (first | refine blk_drewN ?_ _ | refine blk_drew ?_ | refine blk_alloc ?_ _)); exact BK246.out) hb); have n1_ := Aside0.mk (below_step (by repeat (first | (with_reducible first | exact HB.out | apply below_alloc | apply pw_below_drewN | apply below_drew1 | refine below_set ?_ GE246.out) | exact HB.out)) hb); clear BK246; clear HB; have BK246 := n0_; have HB := n1_; clear n0_ n1_; (try clear hb); (try clear hb2); (try clear hk); (try clear hi)))
            go_loopg [0, 12] k1 (fun kq v0 v12 w' => ∃ (x0_2 : Int) (x12_2 : Int), v0 = .int .i64 x0_2 ∧ v12 = .int .i64 x12_2 ∧ Aside0 (series_Narrow.l1 kq x0_2 x1_1 a2 a3 (wrap64 (x0_1 + (wrap64 (Int.tdiv (wrap64 (x1_1 - x0_1)) 2)))) x12_2 = some (r1, r2, r3)) ∧ Aside0 (kq ≤ k1) ∧ Aside0 (w'.heap[gb246]? = some (.cells #[.int .i64 0, .int .i64 0] 153 (0, 0))) ∧ Aside0 (Below w.heap.size w w'))
            case atStart => exact ⟨(x0_1), (wrap64 (x0_1 + (wrap64 (Int.tdiv (wrap64 (x1_1 - x0_1)) 2)))), (by first | rfl | (simp; done) | (simp [*]; done)), (by first | rfl | (simp; done) | (simp [*]; done)), H', ⟨Nat.le_refl _⟩, ⟨by (with_reducible repeat (first | refine blk_drewN ?_ _ | refine blk_drew ?_ | refine blk_alloc ?_ _)); exact BK246.out⟩, ⟨by repeat (first | (with_reducible first | exact HB.out | apply below_alloc | apply pw_below_drewN | apply below_drew1 | refine below_set ?_ GE246.out) | exact HB.out)⟩⟩
            case round =>
              clear H'
              try clear c1
              try clear p2
              try clear c6
              try clear c6b0
              try clear p6
              try clear c8
              try clear c8b0
              try clear c10
              try clear c10b0
              try clear c12
              try clear p2
              obtain ⟨x0_2, x12_2, rfl, rfl, HA, HK2, BK246, HB⟩ := hrel
              cases gk with
              | zero => exact absurd HA.out (by simp [series_Narrow.l1])
              | succ k2 =>
                have H := HA.out
                clear HA
                simp only [series_Narrow.l1] at H
                by_cases c13 : (wrap64 (x12_2 - x0_2)) > 1
                · rw [if_pos c13] at H
                  have c13b0 : decide (1 < (wrap64 (x12_2 - x0_2))) = true := decide_eq_true c13
                  clear c13
                  replace H := Option.bind_eq_some_iff.mp H
                  obtain ⟨t248, A140, H⟩ := H
                  replace H : (if t248 < 0 then (series_Narrow.l1 k2 (wrap64 (x0_2 + (wrap64 (Int.tdiv (wrap64 (x12_2 - x0_2)) 2)))) x1_1 a2 a3 (wrap64 (x0_1 + (wrap64 (Int.tdiv (wrap64 (x1_1 - x0_1)) 2)))) x12_2) else (series_Narrow.l1 k2 x0_2 x1_1 a2 a3 (wrap64 (x0_1 + (wrap64 (Int.tdiv (wrap64 (x1_1 - x0_1)) 2)))) (wrap64 (x0_2 + (wrap64 (Int.tdiv (wrap64 (x12_2 - x0_2)) 2)))))) = some (r1, r2, r3) := H
                  have A14 := Aside0.mk A140
                  clear A140
                  by_cases c15 : t248 < 0
                  · rw [if_pos c15] at H
                    have c15b0 : decide (t248 < 0) = true := decide_eq_true c15
                    clear c15
                    have H' := Aside0.mk H
                    clear H
                    go_wp2_with (first | (go_at_call 124; (with_reducible refine (phase_Find.sg k2 a3 (wrap64 (x0_2 + (wrap64 (Int.tdiv (wrap64 (x12_2 - x0_2)) 2)))) t248 gq _ (blk_below HQ.out (by first | exact HB.out | (with_reducible repeat (first | exact HB.out | apply below_alloc | apply pw_below_drewN | apply below_drew1)))) A14.out).mono ?_); rintro e w16 ⟨rfl, hb⟩; have n0_ := Aside0.mk (blk_below (g := gb246) (o := .cells #[.int .i64 0, .int .i64 0] 153 (0, 0)) (by (with_reducible repeat (first | refine blk_drewN ?_ _ | refine blk_drew ?_ | refine blk_alloc ?_ _)); exact BK246.out) hb); have n1_ := Aside0.mk (below_step (by repeat (first | (with_reducible first | exact HB.out | apply below_alloc | apply pw_below_drewN | apply below_drew1 | refine below_set ?_ GE246.out) | exact HB.out)) hb); clear BK246; clear HB; have BK246 := n0_; have HB := n1_; clear n0_ n1_; (try clear hb); (try clear hb2); (try clear hk); (try clear hi)))
                    go_roundg k2
                    case measure => have := HK1.out; have := HK2.out; omega
                    case rel => exact ⟨(wrap64 (x0_2 + (wrap64 (Int.tdiv (wrap64 (x12_2 - x0_2)) 2)))), (x12_2), (by first | rfl | (simp; done) | (simp [*]; done)), (by first | rfl | (simp; done) | (simp [*]; done)), H', ⟨by have := HK1.out; have := HK2.out; omega⟩, ⟨by (with_reducible repeat (first | refine blk_drewN ?_ _ | refine blk_drew ?_ | refine blk_alloc ?_ _)); exact BK246.out⟩, ⟨by repeat (first | (with_reducible first | exact HB.out | apply below_alloc | apply pw_below_drewN | apply below_drew1 | refine below_set ?_ GE246.out) | exact HB.out)⟩⟩
                  · rw [if_neg c15] at H
                    have c15b0 : decide (t248 < 0) = false := decide_eq_false c15
                    clear c15
                    have H' := Aside0.mk H
                    clear H
                    go_wp2_with (first | (go_at_call 124; (with_reducible refine (phase_Find.sg k2 a3 (wrap64 (x0_2 + (wrap64 (Int.tdiv (wrap64 (x12_2 - x0_2)) 2)))) t248 gq _ (blk_below HQ.out (by first | exact HB.out | (with_reducible repeat (first | exact HB.out | apply below_alloc | apply pw_below_drewN | apply below_drew1)))) A14.out).mono ?_); rintro e w17 ⟨rfl, hb⟩; have n0_ := Aside0.mk (blk_below (g := gb246) (o := .cells #[.int .i64 0, .int .i64 0] 153 (0, 0)) (by (with_reducible repeat (first | refine blk_drewN ?_ _ | refine blk_drew ?_ | refine blk_alloc ?_ _)); exact BK246.out) hb); have n1_ := Aside0.mk (below_step (by repeat (first | (with_reducible first | exact HB.out | apply below_alloc | apply pw_below_drewN | apply below_drew1 | refine below_set ?_ GE246.out) | exact HB.out)) hb); clear BK246; clear HB; have BK246 := n0_; have HB := n1_; clear n0_ n1_; (try clear hb); (try clear hb2); (try clear hk); (try clear hi)))
                    go_roundg k2
                    case measure => have := HK1.out; have := HK2.out; omega
                    case rel => exact ⟨(x0_2), (wrap64 (x0_2 + (wrap64 (Int.tdiv (wrap64 (x12_2 - x0_2)) 2)))), (by first | rfl | (simp; done) | (simp [*]; done)), (by first | rfl | (simp; done) | (simp [*]; done)), H', ⟨by have := HK1.out; have := HK2.out; omega⟩, ⟨by (with_reducible repeat (first | refine blk_drewN ?_ _ | refine blk_drew ?_ | refine blk_alloc ?_ _)); exact BK246.out⟩, ⟨by repeat (first | (with_reducible first | exact HB.out | apply below_alloc | apply pw_below_drewN | apply below_drew1 | refine below_set ?_ GE246.out) | exact HB.out)⟩⟩
                · rw [if_neg c13] at H
                  have c13b0 : decide (1 < (wrap64 (x12_2 - x0_2))) = false := decide_eq_false c13
                  clear c13
                  have H' := Aside0.mk H
                  clear H
                  go_wp2
                  go_loopg [1, 14] k2 (fun kq v1 v14 w' => ∃ (x1_3 : Int) (x14_3 : Int), v1 = .int .i64 x1_3 ∧ v14 = .int .i64 x14_3 ∧ Aside0 (series_Narrow.l2 kq x0_2 x1_3 a2 a3 x14_3 = some (r1, r2, r3)) ∧ Aside0 (kq ≤ k2) ∧ Aside0 (w'.heap[gb246]? = some (.cells #[.int .i64 0, .int .i64 0] 153 (0, 0))) ∧ Aside0 (Below w.heap.size w w'))
                  case atStart => exact ⟨(x1_1), ((wrap64 (x0_1 + (wrap64 (Int.tdiv (wrap64 (x1_1 - x0_1)) 2))))), (by first | rfl | (simp; done) | (simp [*]; done)), (by first | rfl | (simp; done) | (simp [*]; done)), H', ⟨Nat.le_refl _⟩, ⟨by (with_reducible repeat (first | refine blk_drewN ?_ _ | refine blk_drew ?_ | refine blk_alloc ?_ _)); exact BK246.out⟩, ⟨by repeat (first | (with_reducible first | exact HB.out | apply below_alloc | apply pw_below_drewN | apply below_drew1 | refine below_set ?_ GE246.out) | exact HB.out)⟩⟩
                  case round =>
                    clear H'
                    try clear c1
                    try clear p2
                    try clear c6
                    try clear c6b0
                    try clear p6
                    try clear c8
                    try clear c8b0
                    try clear c10
                    try clear c10b0
                    try clear c12
                    try clear c13
                    try clear c13b0
                    try clear c15
                    try clear c15b0
                    try clear p2
                    try clear p6
                    obtain ⟨x1_3, x14_3, rfl, rfl, HA, HK3, BK246, HB⟩ := hrel
                    cases gk with
                    | zero => exact absurd HA.out (by simp [series_Narrow.l2])
                    | succ k3 =>
                      have H := HA.out
                      clear HA
                      simp only [series_Narrow.l2] at H
                      by_cases c18 : (wrap64 (x1_3 - x14_3)) > 1
                      · rw [if_pos c18] at H
                        have c18b0 : decide (1 < (wrap64 (x1_3 - x14_3))) = true := decide_eq_true c18
                        clear c18
                        replace H := Option.bind_eq_some_iff.mp H
                        obtain ⟨t249, A190, H⟩ := H
                        replace H : (if t249 > 0 then (series_Narrow.l2 k3 x0_2 (wrap64 (x14_3 + (wrap64 (Int.tdiv (wrap64 (x1_3 - x14_3)) 2)))) a2 a3 x14_3) else (series_Narrow.l2 k3 x0_2 x1_3 a2 a3 (wrap64 (x14_3 + (wrap64 (Int.tdiv (wrap64 (x1_3 - x14_3)) 2)))))) = some (r1, r2, r3) := H
                        have A19 := Aside0.mk A190
                        clear A190
                        by_cases c20 : t249 > 0
                        · rw [if_pos c20] at H
                          have c20b0 : decide (0 < t249) = true := decide_eq_true c20
                          clear c20
                          have H' := Aside0.mk H
                          clear H
                          go_wp2_with (first | (go_at_call 124; (with_reducible refine (phase_Find.sg k3 a3 (wrap64 (x14_3 + (wrap64 (Int.tdiv (wrap64 (x1_3 - x14_3)) 2)))) t249 gq _ (blk_below HQ.out (by first | exact HB.out | (with_reducible repeat (first | exact HB.out | apply below_alloc | apply pw_below_drewN | apply below_drew1)))) A19.out).mono ?_); rintro e w21 ⟨rfl, hb⟩; have n0_ := Aside0.mk (blk_below (g := gb246) (o := .cells #[.int .i64 0, .int .i64 0] 153 (0, 0)) (by (with_reducible repeat (first | refine blk_drewN ?_ _ | refine blk_drew ?_ | refine blk_alloc ?_ _)); exact BK246.out) hb); have n1_ := Aside0.mk (below_step (by repeat (first | (with_reducible first | exact HB.out | apply below_alloc | apply pw_below_drewN | apply below_drew1 | refine below_set ?_ GE246.out) | exact HB.out)) hb); clear BK246; clear HB; have BK246 := n0_; have HB := n1_; clear n0_ n1_; (try clear hb); (try clear hb2); (try clear hk); (try clear hi)))
                          go_roundg k3
                          case measure => have := HK1.out; have := HK2.out; have := HK3.out; omega
                          case rel => exact ⟨(wrap64 (x14_3 + (wrap64 (Int.tdiv (wrap64 (x1_3 - x14_3)) 2)))), (x14_3), (by first | rfl | (simp; done) | (simp [*]; done)), (by first | rfl | (simp; done) | (simp [*]; done)), H', ⟨by have := HK1.out; have := HK2.out; have := HK3.out; omega⟩, ⟨by (with_reducible repeat (first | refine blk_drewN ?_ _ | refine blk_drew ?_ | refine blk_alloc ?_ _)); exact BK246.out⟩, ⟨by repeat (first | (with_reducible first | exact HB.out | apply below_alloc | apply pw_below_drewN | apply below_drew1 | refine below_set ?_ GE246.out) | exact HB.out)⟩⟩
                        · rw [if_neg c20] at H
                          have c20b0 : decide (0 < t249) = false := decide_eq_false c20
                          clear c20
                          have H' := Aside0.mk H
                          clear H
                          go_wp2_with (first | (go_at_call 124; (with_reducible refine (phase_Find.sg k3 a3 (wrap64 (x14_3 + (wrap64 (Int.tdiv (wrap64 (x1_3 - x14_3)) 2)))) t249 gq _ (blk_below HQ.out (by first | exact HB.out | (with_reducible repeat (first | exact HB.out | apply below_alloc | apply pw_below_drewN | apply below_drew1)))) A19.out).mono ?_); rintro e w22 ⟨rfl, hb⟩; have n0_ := Aside0.mk (blk_below (g := gb246) (o := .cells #[.int .i64 0, .int .i64 0] 153 (0, 0)) (by (with_reducible repeat (first | refine blk_drewN ?_ _ | refine blk_drew ?_ | refine blk_alloc ?_ _)); exact BK246.out) hb); have n1_ := Aside0.mk (below_step (by repeat (first | (with_reducible first | exact HB.out | apply below_alloc | apply pw_below_drewN | apply below_drew1 | refine below_set ?_ GE246.out) | exact HB.out)) hb); clear BK246; clear HB; have BK246 := n0_; have HB := n1_; clear n0_ n1_; (try clear hb); (try clear hb2); (try clear hk); (try clear hi)))
                          go_roundg k3
                          case measure => have := HK1.out; have := HK2.out; have := HK3.out; omega
                          case rel => exact ⟨(x1_3), (wrap64 (x14_3 + (wrap64 (Int.tdiv (wrap64 (x1_3 - x14_3)) 2)))), (by first | rfl | (simp; done) | (simp [*]; done)), (by first | rfl | (simp; done) | (simp [*]; done)), H', ⟨by have := HK1.out; have := HK2.out; have := HK3.out; omega⟩, ⟨by (with_reducible repeat (first | refine blk_drewN ?_ _ | refine blk_drew ?_ | refine blk_alloc ?_ _)); exact BK246.out⟩, ⟨by repeat (first | (with_reducible first | exact HB.out | apply below_alloc | apply pw_below_drewN | apply below_drew1 | refine below_set ?_ GE246.out) | exact HB.out)⟩⟩
                      · rw [if_neg c18] at H
                        have c18b0 : decide (1 < (wrap64 (x1_3 - x14_3))) = false := decide_eq_false c18
                        clear c18
                        by_cases c23 : (wrap64 (x1_3 - x0_2)) > a2
                        · rw [if_pos c23] at H
                          have c23b0 : decide (a2 < (wrap64 (x1_3 - x0_2))) = true := decide_eq_true c23
                          clear c23
                          simp only [Option.some.injEq, Prod.mk.injEq] at H
                          obtain ⟨rfl, rfl, rfl⟩ := H
                          have hcz24_0 : wr.cell? ⟨gb246, 0, none⟩ = some (.int .i64 0) := (blk_cell BK246.out 0).trans rfl
                          have hcz24_1 : wr.cell? ⟨gb246, 1, none⟩ = some (.int .i64 0) := (blk_cell BK246.out 1).trans rfl
                          have hfz24_0 := blk_frozen BK246.out 0
                          have hfz24_1 := blk_frozen BK246.out 1
                          go_wp2
                          refine bodyPost_ret (results_ct rfl _ _ gb246 153 #[.int .i64 0, .int .i64 0] (0, 0) _ rfl (by (with_reducible repeat (first | refine blk_drewN ?_ _ | refine blk_drew ?_ | refine blk_alloc ?_ _)); refine blk_put (cs := #[.int .i64 0, .int .i64 0]) ?_ 1 _ rfl; (with_reducible repeat (first | refine blk_drewN ?_ _ | refine blk_drew ?_ | refine blk_alloc ?_ _)); refine blk_put (cs := #[.int .i64 0, .int .i64 0]) ?_ 0 _ rfl; (with_reducible repeat (first | refine blk_drewN ?_ _ | refine blk_drew ?_ | refine blk_alloc ?_ _)); exact BK246.out) Try.underlying153 rfl (by kernel_rfl)) rfl ?_
                          exact ⟨by first | rfl | (simp [errW_none, errW_some] <;> rfl) | (simp [*, errW_none, errW_some] <;> rfl), by repeat (first | (with_reducible first | exact HB.out | apply below_alloc | apply pw_below_drewN | apply below_drew1 | refine below_set ?_ GE246.out) | exact HB.out)⟩
                        · rw [if_neg c23] at H
                          have c23b0 : decide (a2 < (wrap64 (x1_3 - x0_2))) = false := decide_eq_false c23
                          clear c23
                          simp only [Option.some.injEq, Prod.mk.injEq] at H
                          obtain ⟨rfl, rfl, rfl⟩ := H
                          have hcz25_0 : wr.cell? ⟨gb246, 0, none⟩ = some (.int .i64 0) := (blk_cell BK246.out 0).trans rfl
                          have hcz25_1 : wr.cell? ⟨gb246, 1, none⟩ = some (.int .i64 0) := (blk_cell BK246.out 1).trans rfl
                          have hfz25_0 := blk_frozen BK246.out 0
                          have hfz25_1 := blk_frozen BK246.out 1
                          go_wp2
                          refine bodyPost_ret (results_ct rfl _ _ gb246 153 #[.int .i64 x0_2, .int .i64 x1_3] (0, 0) _ rfl (by (with_reducible repeat (first | refine blk_drewN ?_ _ | refine blk_drew ?_ | refine blk_alloc ?_ _)); refine blk_put (cs := #[.int .i64 x0_2, .int .i64 0]) ?_ 1 _ rfl; (with_reducible repeat (first | refine blk_drewN ?_ _ | refine blk_drew ?_ | refine blk_alloc ?_ _)); refine blk_put (cs := #[.int .i64 0, .int .i64 0]) ?_ 0 _ rfl; (with_reducible repeat (first | refine blk_drewN ?_ _ | refine blk_drew ?_ | refine blk_alloc ?_ _)); exact BK246.out) Try.underlying153 rfl (by kernel_rfl)) rfl ?_
                          exact ⟨by first | rfl | (simp [errW_none, errW_some] <;> rfl) | (simp [*, errW_none, errW_some] <;> rfl), by repeat (first | (with_reducible first | exact HB.out | apply below_alloc | apply pw_below_drewN | apply below_drew1 | refine below_set ?_ GE246.out) | exact HB.out)⟩
      · rw [if_neg c6] at H
        have c6b0 : decide (a2 < (wrap64 (x1_1 - x0_1))) = false := decide_eq_false c6
        clear c6
        simp only [Option.some.injEq, Prod.mk.injEq] at H
        obtain ⟨rfl, rfl, rfl⟩ := H
        have hcz26_0 : wr.cell? ⟨gb246, 0, none⟩ = some (.int .i64 0) := (blk_cell BK246.out 0).trans rfl
        have hcz26_1 : wr.cell? ⟨gb246, 1, none⟩ = some (.int .i64 0) := (blk_cell BK246.out 1).trans rfl
        have hfz26_0 := blk_frozen BK246.out 0
        have hfz26_1 := blk_frozen BK246.out 1
        go_wp2
        refine bodyPost_ret (results_ct rfl _ _ gb246 153 #[.int .i64 x0_1, .int .i64 x1_1] (0, 0) _ rfl (by (with_reducible repeat (first | refine blk_drewN ?_ _ | refine blk_drew ?_ | refine blk_alloc ?_ _)); refine blk_put (cs := #[.int .i64 x0_1, .int .i64 0]) ?_ 1 _ rfl; (with_reducible repeat (first | refine blk_drewN ?_ _ | refine blk_drew ?_ | refine blk_alloc ?_ _)); refine blk_put (cs := #[.int .i64 0, .int .i64 0]) ?_ 0 _ rfl; (with_reducible repeat (first | refine blk_drewN ?_ _ | refine blk_drew ?_ | refine blk_alloc ?_ _)); exact BK246.out) Try.underlying153 rfl (by kernel_rfl)) rfl ?_
        exact ⟨by first | rfl | (simp [errW_none, errW_some] <;> rfl) | (simp [*, errW_none, errW_some] <;> rfl), by repeat (first | (with_reducible first | exact HB.out | apply below_alloc | apply pw_below_drewN | apply below_drew1 | refine below_set ?_ GE246.out) | exact HB.out)⟩

/-! ### phase_Find: function 93 -/
mutual
def phase_Find.j0 : Nat → Int → Int → Bool → Option (Int × Int × Int)
  | 0, _, _, _ => none
  | k + 1, x0, x3, x14 => if x14 = true then (some (0, 0, 1)) else (if x0 < (-100000) then (phase_Find.j1 k x0 x3 true) else (phase_Find.j1 k x0 x3 (decide (x0 > 100000))))
def phase_Find.j1 : Nat → Int → Int → Bool → Option (Int × Int × Int)
  | 0, _, _, _ => none
  | k + 1, x0, x3, x21 => if x21 = true then (some (0, 0, 3)) else ((phase_Sign.f k x3 (wrap64 ((wrap64 ((wrap64 (977949455 + (wrap64 (x0 * 2551442878)))) + (wrap64 (x3 * 637860719)))) - 172800000))).bind fun t251 => (if t251 ≥ 0 then (some (0, 0, 11)) else ((phase_Sign.f k x3 (wrap64 ((wrap64 ((wrap64 (977949455 + (wrap64 (x0 * 2551442878)))) + (wrap64 (x3 * 637860719)))) + 172800000))).bind fun t252 => (if t252 ≤ 0 then (some (0, 0, 11)) else ((series_Narrow.f k (wrap64 ((wrap64 ((wrap64 (977949455 + (wrap64 (x0 * 2551442878)))) + (wrap64 (x3 * 637860719)))) - 172800000)) (wrap64 ((wrap64 ((wrap64 (977949455 + (wrap64 (x0 * 2551442878)))) + (wrap64 (x3 * 637860719)))) + 172800000)) 600000 x3).bind fun bt253 => (some (bt253.1, bt253.2.1, bt253.2.2)))))))
end
def phase_Find.f (k : Nat) (a0 : Int) (a1 : Int) : Option (Int × Int × Int) := if a1 < 0 then (phase_Find.j0 k a0 a1 true) else (phase_Find.j0 k a0 a1 (decide (a1 > 3)))
theorem phase_Find.mono_l : ∀ k, (∀ y0 y1 y2, LeO (phase_Find.j0 k y0 y1 y2) (phase_Find.j0 (k + 1) y0 y1 y2)) ∧ (∀ y0 y1 y2, LeO (phase_Find.j1 k y0 y1 y2) (phase_Find.j1 (k + 1) y0 y1 y2))
  | 0 => ⟨fun _ _ _ r h => by simp [phase_Find.j0] at h, fun _ _ _ r h => by simp [phase_Find.j1] at h⟩
  | k + 1 => by
    obtain ⟨ih0, ih1⟩ := phase_Find.mono_l k
    refine ⟨?_, ?_⟩
    · intro y0 y1 y2
      unfold phase_Find.j0
      repeat' first
      | (with_reducible exact ih0 _ _ _)
      | (with_reducible exact ih1 _ _ _)
      | (with_reducible exact phase_Sign.mono _ _ _)
      | (with_reducible exact series_Narrow.mono _ _ _ _ _)
      | (with_reducible exact LeO.refl _)
      | (with_reducible exact LeO.none _)
      | (with_reducible refine LeO.ite ?_ ?_)
      | (with_reducible refine LeO.bind ?_ (fun _ => ?_))
      | exact ih0 _ _ _
      | exact ih1 _ _ _
      | exact phase_Sign.mono _ _ _
      | exact series_Narrow.mono _ _ _ _ _
      | exact LeO.none _
      | refine LeO.ite ?_ ?_
      | refine LeO.bind ?_ (fun _ => ?_)
    · intro y0 y1 y2
      unfold phase_Find.j1
      repeat' first
      | (with_reducible exact ih0 _ _ _)
      | (with_reducible exact ih1 _ _ _)
      | (with_reducible exact phase_Sign.mono _ _ _)
      | (with_reducible exact series_Narrow.mono _ _ _ _ _)
      | (with_reducible exact LeO.refl _)
      | (with_reducible exact LeO.none _)
      | (with_reducible refine LeO.ite ?_ ?_)
      | (with_reducible refine LeO.bind ?_ (fun _ => ?_))
      | exact ih0 _ _ _
      | exact ih1 _ _ _
      | exact phase_Sign.mono _ _ _
      | exact series_Narrow.mono _ _ _ _ _
      | exact LeO.none _
      | refine LeO.ite ?_ ?_
      | refine LeO.bind ?_ (fun _ => ?_)
theorem phase_Find.mono : ∀ a0 a1 k, LeO (phase_Find.f k a0 a1) (phase_Find.f (k + 1) a0 a1) := by
  intro a0 a1 k
  obtain ⟨ih0, ih1⟩ := phase_Find.mono_l k
  unfold phase_Find.f
  repeat' first
      | (with_reducible exact ih0 _ _ _)
      | (with_reducible exact ih1 _ _ _)
      | (with_reducible exact phase_Sign.mono _ _ _)
      | (with_reducible exact series_Narrow.mono _ _ _ _ _)
      | (with_reducible exact LeO.refl _)
      | (with_reducible exact LeO.none _)
      | (with_reducible refine LeO.ite ?_ ?_)
      | (with_reducible refine LeO.bind ?_ (fun _ => ?_))
      | exact ih0 _ _ _
      | exact ih1 _ _ _
      | exact phase_Sign.mono _ _ _
      | exact series_Narrow.mono _ _ _ _ _
      | exact LeO.none _
      | refine LeO.ite ?_ ?_
      | refine LeO.bind ?_ (fun _ => ?_)
set_option maxHeartbeats 8000000 in
set_option maxRecDepth 100000 in
theorem phase_Find.calls (k : Nat) (a0 : Int) (a1 : Int) (r1 : Int) (r2 : Int) (r3 : Int) (w : World) (h : phase_Find.f k a0 a1 = some (r1, r2, r3)) :
    Calls Try.prog 93 #[.int .i64 a0, .int .i64 a1] w fun e w' => e = .returned (.tuple #[.agg #[.int .i64 r1, .int .i64 r2], .int .i64 r3]) ∧ Below w.heap.size w w' := by
  have hu153 := Try.underlying153
  have HB := Aside0.mk (Below.refl w.heap.size w)
  have H : (if a1 < 0 then (phase_Find.j0 k a0 a1 true) else (phase_Find.j0 k a0 a1 (decide (a1 > 3)))) = some (r1, r2, r3) := h
  clear h
  have HC3 := Aside0.mk H
  clear H
  have hmf : ∀ (fn : Fn) (first cap : Array Value) (w : World), (Instr.makeFunc fn first cap).run Try.prog w = .ok (.func fn first cap) w := fun _ _ _ _ => rfl
  go_enter Try.func93, Try.ntmps93
  go_upto_region 1 with (first | ((with_reducible refine gate_dst (N := 3) rfl ?_); refine box_event ?hg (N := 3) ?hd (cs := #[.int .i64 a1]) (t := 3) ?hr ?_; (case hd => rfl); (case hg => rfl); (case hr => first | (go_simp; done) | (go_simp; rfl)); intro gq hgq wq hboxq hbq; have HQ := Aside0.mk hboxq; have HW := Aside0.mk (below_step (by first | exact HB.out | (with_reducible repeat (first | exact HB.out | apply below_alloc | apply pw_below_drewN | apply below_drew1))) hbq); clear HB; have HB := Aside0.mk (Below.refl wq.heap.size wq); clear hbq hboxq hgq) | ((with_reducible refine gate_dst (N := 4) rfl ?_); refine box_event ?hg (N := 4) ?hd (cs := #[.int .i64 0, .int .i64 0]) (t := 153) ?hr ?_; (case hd => rfl); (case hg => rfl); (case hr => first | (go_simp; done) | (go_simp; rfl)); intro gb250 hg w4 hbox hb; have n0_ := Aside0.mk (below_step (by repeat (first | (with_reducible first | exact HB.out | apply below_alloc | apply pw_below_drewN | apply below_drew1) | exact HB.out)) hb); have n1_ := Aside0.mk (hbox); have n2_ := Aside0.mk ((by rw [hg]; exact (below_size (by repeat (first | (with_reducible first | exact HB.out | apply below_alloc | apply pw_below_drewN | apply below_drew1) | exact HB.out))) : wq.heap.size ≤ gb250)); have n3_ := Aside0.mk ((by rw [hg]; exact (below_size (by repeat (first | (with_reducible first | exact HB.out | apply below_alloc | apply pw_below_drewN | apply below_drew1) | exact HB.out))) : wq.heap.size ≤ gb250)); clear HB; have HB := n0_; have BK250 := n1_; have GW250 := n2_; have GE250 := n3_; clear n0_ n1_ n2_ n3_; clear hb hbox hg))
  have hq_ := (blk_cell (blk_below HQ.out HB.out) 0).trans (rfl : (#[Value.int .i64 a1] : Array Value)[0]? = some (Value.int .i64 a1))
  (try simp only [Act.put, List.setIfInBounds_toArray, List.set_cons_zero, List.set_cons_succ])
  go_cut [14] (fun v14 wc => ∃ (kq : Nat) (x14_2 : Bool), v14 = .bool x14_2 ∧ Aside0 (phase_Find.j0 kq a0 a1 x14_2 = some (r1, r2, r3)) ∧ Aside0 (kq ≤ k) ∧ Aside0 (wc.heap[gb250]? = some (.cells #[.int .i64 0, .int .i64 0] 153 (0, 0))) ∧ Aside0 (Below wq.heap.size wq wc))
  case first =>
    have H := HC3.out
    clear HC3
    by_cases c5 : a1 < 0
    · rw [if_pos c5] at H
      have c5b0 : decide (a1 < 0) = true := decide_eq_true c5
      clear c5
      (first | rw [c5b0] | (simp only [i64_w, i32_w]; rw [c5b0]) | skip)
      have H' := Aside0.mk H
      clear H
      go_wp2
      go_meet
      case rel => exact ⟨_, (true), (by first | rfl | (simp; done) | (simp [*]; done)), H', ⟨by first | omega | exact Nat.le_refl _⟩, ⟨by (with_reducible repeat (first | refine blk_drewN ?_ _ | refine blk_drew ?_ | refine blk_alloc ?_ _)); exact BK250.out⟩, ⟨by repeat (first | (with_reducible first | exact HB.out | apply below_alloc | apply pw_below_drewN | apply below_drew1 | refine below_set ?_ GE250.out) | exact HB.out)⟩⟩
    · rw [if_neg c5] at H
      have c5b0 : decide (a1 < 0) = false := decide_eq_false c5
      clear c5
      (first | rw [c5b0] | (simp only [i64_w, i32_w]; rw [c5b0]) | skip)
      have H' := Aside0.mk H
      clear H
      go_wp2
      go_meet
      case rel => exact ⟨_, (decide (a1 > 3)), (by first | rfl | (simp; done) | (simp [*]; done)), H', ⟨by first | omega | exact Nat.le_refl _⟩, ⟨by (with_reducible repeat (first | refine blk_drewN ?_ _ | refine blk_drew ?_ | refine blk_alloc ?_ _)); exact BK250.out⟩, ⟨by repeat (first | (with_reducible first | exact HB.out | apply below_alloc | apply pw_below_drewN | apply below_drew1 | refine below_set ?_ GE250.out) | exact HB.out)⟩⟩
  case rest =>
    clear HC3
    try clear p2
    try clear c5
    try clear c5b0
    obtain ⟨kq, x14_2, rfl, HA, HJ2, BK250, HB⟩ := hcut
    have hq_ := (blk_cell (blk_below HQ.out HB.out) 0).trans (rfl : (#[Value.int .i64 a1] : Array Value)[0]? = some (Value.int .i64 a1))
    cases kq with
    | zero => exact absurd HA.out (by simp [phase_Find.j0])
    | succ kj2 =>
      have H := HA.out
      clear HA
      simp only [phase_Find.j0] at H
      by_cases c6 : x14_2 = true
      · subst c6
        have H1 : (some (0, 0, 1)) = some (r1, r2, r3) := by rw [if_pos rfl] at H; exact H
        clear H
        have H := H1
        clear H1
        simp only [Option.some.injEq, Prod.mk.injEq] at H
        obtain ⟨rfl, rfl, rfl⟩ := H
        have hcz7_0 : wc.cell? ⟨gb250, 0, none⟩ = some (.int .i64 0) := (blk_cell BK250.out 0).trans rfl
        have hcz7_1 : wc.cell? ⟨gb250, 1, none⟩ = some (.int .i64 0) := (blk_cell BK250.out 1).trans rfl
        have hfz7_0 := blk_frozen BK250.out 0
        have hfz7_1 := blk_frozen BK250.out 1
        go_wp2
        refine bodyPost_ret (results_ct rfl _ _ gb250 153 #[.int .i64 0, .int .i64 0] (0, 0) _ rfl (by (with_reducible repeat (first | refine blk_drewN ?_ _ | refine blk_drew ?_ | refine blk_alloc ?_ _)); refine blk_put (cs := #[.int .i64 0, .int .i64 0]) ?_ 1 _ rfl; (with_reducible repeat (first | refine blk_drewN ?_ _ | refine blk_drew ?_ | refine blk_alloc ?_ _)); refine blk_put (cs := #[.int .i64 0, .int .i64 0]) ?_ 0 _ rfl; (with_reducible repeat (first | refine blk_drewN ?_ _ | refine blk_drew ?_ | refine blk_alloc ?_ _)); exact BK250.out) Try.underlying153 rfl (by kernel_rfl)) rfl ?_
        exact ⟨by first | rfl | (simp [errW_none, errW_some] <;> rfl) | (simp [*, errW_none, errW_some] <;> rfl), below_step HW.out (by repeat (first | (with_reducible first | exact HB.out | apply below_alloc | apply pw_below_drewN | apply below_drew1 | refine below_set ?_ GE250.out) | exact HB.out))⟩
      · replace c6 := Bool.eq_false_iff.mpr c6
        subst c6
        have H1 : (if a0 < (-100000) then (phase_Find.j1 kj2 a0 a1 true) else (phase_Find.j1 kj2 a0 a1 (decide (a0 > 100000)))) = some (r1, r2, r3) := by rw [if_neg (show ¬ (false = true) by decide)] at H; exact H
        clear H
        have H := H1
        clear H1
        have HC8 := Aside0.mk H
        clear H
        go_upto_region 3 with (fail)
        go_cut [21] (fun v21 wc => ∃ (kq : Nat) (x21_7 : Bool), v21 = .bool x21_7 ∧ Aside0 (phase_Find.j1 kq a0 a1 x21_7 = some (r1, r2, r3)) ∧ Aside0 (kq ≤ kj2) ∧ Aside0 (wc.heap[gb250]? = some (.cells #[.int .i64 0, .int .i64 0] 153 (0, 0))) ∧ Aside0 (Below wq.heap.size wq wc))
        case first =>
          have H := HC8.out
          clear HC8
          by_cases c9 : a0 < (-100000)
          · rw [if_pos c9] at H
            have c9b0 : decide (a0 < (-100000)) = true := decide_eq_true c9
            clear c9
            (first | rw [c9b0] | (simp only [i64_w, i32_w]; rw [c9b0]) | skip)
            have H' := Aside0.mk H
            clear H
            go_wp2
            go_meet
            case rel => exact ⟨_, (true), (by first | rfl | (simp; done) | (simp [*]; done)), H', ⟨by have := HJ2.out; first | omega | exact Nat.le_refl _⟩, ⟨by (with_reducible repeat (first | refine blk_drewN ?_ _ | refine blk_drew ?_ | refine blk_alloc ?_ _)); exact BK250.out⟩, ⟨by repeat (first | (with_reducible first | exact HB.out | apply below_alloc | apply pw_below_drewN | apply below_drew1 | refine below_set ?_ GE250.out) | exact HB.out)⟩⟩
          · rw [if_neg c9] at H
            have c9b0 : decide (a0 < (-100000)) = false := decide_eq_false c9
            clear c9
            (first | rw [c9b0] | (simp only [i64_w, i32_w]; rw [c9b0]) | skip)
            have H' := Aside0.mk H
            clear H
            go_wp2
            go_meet
            case rel => exact ⟨_, (decide (a0 > 100000)), (by first | rfl | (simp; done) | (simp [*]; done)), H', ⟨by have := HJ2.out; first | omega | exact Nat.le_refl _⟩, ⟨by (with_reducible repeat (first | refine blk_drewN ?_ _ | refine blk_drew ?_ | refine blk_alloc ?_ _)); exact BK250.out⟩, ⟨by repeat (first | (with_reducible first | exact HB.out | apply below_alloc | apply pw_below_drewN | apply below_drew1 | refine below_set ?_ GE250.out) | exact HB.out)⟩⟩
        case rest =>
          clear HC8
          try clear p2
          try clear c5
          try clear c5b0
          try clear c6
          try clear c9
          try clear c9b0
          try clear hcz7_0
          try clear hcz7_1
          try clear hfz7_0
          try clear hfz7_1
          try clear p2
          obtain ⟨kq, x21_7, rfl, HA, HJ7, BK250, HB⟩ := hcut
          have hq_ := (blk_cell (blk_below HQ.out HB.out) 0).trans (rfl : (#[Value.int .i64 a1] : Array Value)[0]? = some (Value.int .i64 a1))
          cases kq with
          | zero => exact absurd HA.out (by simp [phase_Find.j1])
          | succ kj7 =>
            have H := HA.out
            clear HA
            simp only [phase_Find.j1] at H
            by_cases c10 : x21_7 = true
            · subst c10
              have H1 : (some (0, 0, 3)) = some (r1, r2, r3) := by rw [if_pos rfl] at H; exact H
              clear H
              have H := H1
              clear H1
              simp only [Option.some.injEq, Prod.mk.injEq] at H
              obtain ⟨rfl, rfl, rfl⟩ := H
              have hcz11_0 : wc.cell? ⟨gb250, 0, none⟩ = some (.int .i64 0) := (blk_cell BK250.out 0).trans rfl
              have hcz11_1 : wc.cell? ⟨gb250, 1, none⟩ = some (.int .i64 0) := (blk_cell BK250.out 1).trans rfl
              have hfz11_0 := blk_frozen BK250.out 0
              have hfz11_1 := blk_frozen BK250.out 1
              go_wp2
              refine bodyPost_ret (results_ct rfl _ _ gb250 153 #[.int .i64 0, .int .i64 0] (0, 0) _ rfl (by (with_reducible repeat (first | refine blk_drewN ?_ _ | refine blk_drew ?_ | refine blk_alloc ?_ _)); refine blk_put (cs := #[.int .i64 0, .int .i64 0]) ?_ 1 _ rfl; (with_reducible repeat (first | refine blk_drewN ?_ _ | refine blk_drew ?_ | refine blk_alloc ?_ _)); refine blk_put (cs := #[.int .i64 0, .int .i64 0]) ?_ 0 _ rfl; (with_reducible repeat (first | refine blk_drewN ?_ _ | refine blk_drew ?_ | refine blk_alloc ?_ _)); exact BK250.out) Try.underlying153 rfl (by kernel_rfl)) rfl ?_
              exact ⟨by first | rfl | (simp [errW_none, errW_some] <;> rfl) | (simp [*, errW_none, errW_some] <;> rfl), below_step HW.out (by repeat (first | (with_reducible first | exact HB.out | apply below_alloc | apply pw_below_drewN | apply below_drew1 | refine below_set ?_ GE250.out) | exact HB.out))⟩
            · replace c10 := Bool.eq_false_iff.mpr c10
              subst c10
              have H1 : ((phase_Sign.f kj7 a1 (wrap64 ((wrap64 ((wrap64 (977949455 + (wrap64 (a0 * 2551442878)))) + (wrap64 (a1 * 637860719)))) - 172800000))).bind fun t251 => (if t251 ≥ 0 then (some (0, 0, 11)) else ((phase_Sign.f kj7 a1 (wrap64 ((wrap64 ((wrap64 (977949455 + (wrap64 (a0 * 2551442878)))) + (wrap64 (a1 * 637860719)))) + 172800000))).bind fun t252 => (if t252 ≤ 0 then (some (0, 0, 11)) else ((series_Narrow.f kj7 (wrap64 ((wrap64 ((wrap64 (977949455 + (wrap64 (a0 * 2551442878)))) + (wrap64 (a1 * 637860719)))) - 172800000)) (wrap64 ((wrap64 ((wrap64 (977949455 + (wrap64 (a0 * 2551442878)))) + (wrap64 (a1 * 637860719)))) + 172800000)) 600000 a1).bind fun bt253 => (some (bt253.1, bt253.2.1, bt253.2.2))))))) = some (r1, r2, r3) := by rw [if_neg (show ¬ (false = true) by decide)] at H; exact H
              clear H
              have H := H1
              clear H1
              replace H := Option.bind_eq_some_iff.mp H
              obtain ⟨t251, A120, H⟩ := H
              replace H : (if t251 ≥ 0 then (some (0, 0, 11)) else ((phase_Sign.f kj7 a1 (wrap64 ((wrap64 ((wrap64 (977949455 + (wrap64 (a0 * 2551442878)))) + (wrap64 (a1 * 637860719)))) + 172800000))).bind fun t252 => (if t252 ≤ 0 then (some (0, 0, 11)) else ((series_Narrow.f kj7 (wrap64 ((wrap64 ((wrap64 (977949455 + (wrap64 (a0 * 2551442878)))) + (wrap64 (a1 * 637860719)))) - 172800000)) (wrap64 ((wrap64 ((wrap64 (977949455 + (wrap64 (a0 * 2551442878)))) + (wrap64 (a1 * 637860719)))) + 172800000)) 600000 a1).bind fun bt253 => (some (bt253.1, bt253.2.1, bt253.2.2)))))) = some (r1, r2, r3) := H
              have A12 := Aside0.mk A120
              clear A120
              by_cases c13 : t251 ≥ 0
              · rw [if_pos c13] at H
                have c13b0 : decide (0 ≤ t251) = true := decide_eq_true c13
                clear c13
                simp only [Option.some.injEq, Prod.mk.injEq] at H
                obtain ⟨rfl, rfl, rfl⟩ := H
                go_wp2_with (first | ((with_reducible refine gate_callee (f := 122) rfl ?_); refine goesL_ (some 35) rfl rfl Try.func122 (by kernel_rfl) rfl #[.int .i64 a1, .int .i64 (wrap64 ((wrap64 ((wrap64 (977949455 + (wrap64 (a0 * 2551442878)))) + (wrap64 (a1 * 637860719)))) - 172800000))] rfl (by (try simp only [List.map_toArray, List.map_cons, List.map_nil]); first | done | rfl | (simp only [List.length_drop, List.length_take]; rfl)) ?_; (with_reducible refine (phase_Sign.calls kj7 a1 (wrap64 ((wrap64 ((wrap64 (977949455 + (wrap64 (a0 * 2551442878)))) + (wrap64 (a1 * 637860719)))) - 172800000)) t251 _ A12.out).mono ?_); rintro e w14 ⟨rfl, hb⟩; refine ⟨_, rfl, ?_⟩; have n0_ := Aside0.mk (blk_below (g := gb250) (o := .cells #[.int .i64 0, .int .i64 0] 153 (0, 0)) (by (with_reducible repeat (first | refine blk_drewN ?_ _ | refine blk_drew ?_ | refine blk_alloc ?_ _)); exact BK250.out) hb); have n1_ := Aside0.mk (below_step (by repeat (first | (with_reducible first | exact HB.out | apply below_alloc | apply pw_below_drewN | apply below_drew1 | refine below_set ?_ GE250.out) | exact HB.out)) hb); clear BK250; clear HB; have BK250 := n0_; have HB := n1_; clear n0_ n1_; have hq_ := (blk_cell (blk_below HQ.out HB.out) 0).trans (rfl : (#[Value.int .i64 a1] : Array Value)[0]? = some (Value.int .i64 a1)); (try clear hb); (try clear hb2); (try clear hk); (try clear hi); have hcz15_0 : w14.cell? ⟨gb250, 0, none⟩ = some (.int .i64 0) := (blk_cell BK250.out 0).trans rfl; have hcz15_1 : w14.cell? ⟨gb250, 1, none⟩ = some (.int .i64 0) := (blk_cell BK250.out 1).trans rfl; have hfz15_0 := blk_frozen BK250.out 0; have hfz15_1 := blk_frozen BK250.out 1))
                refine bodyPost_ret (results_ct rfl _ _ gb250 153 #[.int .i64 0, .int .i64 0] (0, 0) _ rfl (by (with_reducible repeat (first | refine blk_drewN ?_ _ | refine blk_drew ?_ | refine blk_alloc ?_ _)); refine blk_put (cs := #[.int .i64 0, .int .i64 0]) ?_ 1 _ rfl; (with_reducible repeat (first | refine blk_drewN ?_ _ | refine blk_drew ?_ | refine blk_alloc ?_ _)); refine blk_put (cs := #[.int .i64 0, .int .i64 0]) ?_ 0 _ rfl; (with_reducible repeat (first | refine blk_drewN ?_ _ | refine blk_drew ?_ | refine blk_alloc ?_ _)); exact BK250.out) Try.underlying153 rfl (by kernel_rfl)) rfl ?_
                exact ⟨by first | rfl | (simp [errW_none, errW_some] <;> rfl) | (simp [*, errW_none, errW_some] <;> rfl), below_step HW.out (by repeat (first | (with_reducible first | exact HB.out | apply below_alloc | apply pw_below_drewN | apply below_drew1 | refine below_set ?_ GE250.out) | exact HB.out))⟩
              · rw [if_neg c13] at H
                have c13b0 : decide (0 ≤ t251) = false := decide_eq_false c13
                clear c13
                replace H := Option.bind_eq_some_iff.mp H
                obtain ⟨t252, A160, H⟩ := H
                replace H : (if t252 ≤ 0 then (some (0, 0, 11)) else ((series_Narrow.f kj7 (wrap64 ((wrap64 ((wrap64 (977949455 + (wrap64 (a0 * 2551442878)))) + (wrap64 (a1 * 637860719)))) - 172800000)) (wrap64 ((wrap64 ((wrap64 (977949455 + (wrap64 (a0 * 2551442878)))) + (wrap64 (a1 * 637860719)))) + 172800000)) 600000 a1).bind fun bt253 => (some (bt253.1, bt253.2.1, bt253.2.2)))) = some (r1, r2, r3) := H
                have A16 := Aside0.mk A160
                clear A160
                by_cases c17 : t252 ≤ 0
                · rw [if_pos c17] at H
                  have c17b0 : decide (t252 ≤ 0) = true := decide_eq_true c17
                  clear c17
                  simp only [Option.some.injEq, Prod.mk.injEq] at H
                  obtain ⟨rfl, rfl, rfl⟩ := H
                  go_wp2_with (first | ((with_reducible refine gate_callee (f := 122) rfl ?_); refine goesL_ (some 35) rfl rfl Try.func122 (by kernel_rfl) rfl #[.int .i64 a1, .int .i64 (wrap64 ((wrap64 ((wrap64 (977949455 + (wrap64 (a0 * 2551442878)))) + (wrap64 (a1 * 637860719)))) - 172800000))] rfl (by (try simp only [List.map_toArray, List.map_cons, List.map_nil]); first | done | rfl | (simp only [List.length_drop, List.length_take]; rfl)) ?_; (with_reducible refine (phase_Sign.calls kj7 a1 (wrap64 ((wrap64 ((wrap64 (977949455 + (wrap64 (a0 * 2551442878)))) + (wrap64 (a1 * 637860719)))) - 172800000)) t251 _ A12.out).mono ?_); rintro e w18 ⟨rfl, hb⟩; refine ⟨_, rfl, ?_⟩; have n0_ := Aside0.mk (blk_below (g := gb250) (o := .cells #[.int .i64 0, .int .i64 0] 153 (0, 0)) (by (with_reducible repeat (first | refine blk_drewN ?_ _ | refine blk_drew ?_ | refine blk_alloc ?_ _)); exact BK250.out) hb); have n1_ := Aside0.mk (below_step (by repeat (first | (with_reducible first | exact HB.out | apply below_alloc | apply pw_below_drewN | apply below_drew1 | refine below_set ?_ GE250.out) | exact HB.out)) hb); clear BK250; clear HB; have BK250 := n0_; have HB := n1_; clear n0_ n1_; have hq_ := (blk_cell (blk_below HQ.out HB.out) 0).trans (rfl : (#[Value.int .i64 a1] : Array Value)[0]? = some (Value.int .i64 a1)); (try clear hb); (try clear hb2); (try clear hk); (try clear hi)) | (go_at_call 122; (with_reducible refine (phase_Sign.calls kj7 a1 (wrap64 ((wrap64 ((wrap64 (977949455 + (wrap64 (a0 * 2551442878)))) + (wrap64 (a1 * 637860719)))) + 172800000)) t252 _ A16.out).mono ?_); rintro e w19 ⟨rfl, hb⟩; have n0_ := Aside0.mk (blk_below (g := gb250) (o := .cells #[.int .i64 0, .int .i64 0] 153 (0, 0)) (by (with_reducible repeat (first | refine blk_drewN ?_ _ | refine blk_drew ?_ | refine blk_alloc ?_ _)); exact BK250.out) hb); have n1_ := Aside0.mk (below_step (by repeat (first | (with_reducible first | exact HB.out | apply below_alloc | apply pw_below_drewN | apply below_drew1 | refine below_set ?_ GE250.out) | exact HB.out)) hb); clear BK250; clear HB; have BK250 := n0_; have HB := n1_; clear n0_ n1_; have hq_ := (blk_cell (blk_below HQ.out HB.out) 0).trans (rfl : (#[Value.int .i64 a1] : Array Value)[0]? = some (Value.int .i64 a1)); (try clear hb); (try clear hb2); (try clear hk); (try clear hi); have hcz20_0 : w19.cell? ⟨gb250, 0, none⟩ = some (.int .i64 0) := (blk_cell BK250.out 0).trans rfl; have hcz20_1 : w19.cell? ⟨gb250, 1, none⟩ = some (.int .i64 0) := (blk_cell BK250.out 1).trans rfl; have hfz20_0 := blk_frozen BK250.out 0; have hfz20_1 := blk_frozen BK250.out 1))
                  refine bodyPost_ret (results_ct rfl _ _ gb250 153 #[.int .i64 0, .int .i64 0] (0, 0) _ rfl (by (with_reducible repeat (first | refine blk_drewN ?_ _ | refine blk_drew ?_ | refine blk_alloc ?_ _)); refine blk_put (cs := #[.int .i64 0, .int .i64 0]) ?_ 1 _ rfl; (with_reducible repeat (first | refine blk_drewN ?_ _ | refine blk_drew ?_ | refine blk_alloc ?_ _)); refine blk_put (cs := #[.int .i64 0, .int .i64 0]) ?_ 0 _ rfl; (with_reducible repeat (first | refine blk_drewN ?_ _ | refine blk_drew ?_ | refine blk_alloc ?_ _)); exact BK250.out) Try.underlying153 rfl (by kernel_rfl)) rfl ?_
                  exact ⟨by first | rfl | (simp [errW_none, errW_some] <;> rfl) | (simp [*, errW_none, errW_some] <;> rfl), below_step HW.out (by repeat (first | (with_reducible first | exact HB.out | apply below_alloc | apply pw_below_drewN | apply below_drew1 | refine below_set ?_ GE250.out) | exact HB.out))⟩
                · rw [if_neg c17] at H
                  have c17b0 : decide (t252 ≤ 0) = false := decide_eq_false c17
                  clear c17
                  replace H := Option.bind_eq_some_iff.mp H
                  obtain ⟨⟨t253, t254, t255⟩, A210, H⟩ := H
                  replace H : (some (t253, t254, t255)) = some (r1, r2, r3) := H
                  have A21 := Aside0.mk A210
                  clear A210
                  simp only [Option.some.injEq, Prod.mk.injEq] at H
                  obtain ⟨rfl, rfl, rfl⟩ := H
                  go_wp2_with (first | ((with_reducible refine gate_callee (f := 122) rfl ?_); refine goesL_ (some 35) rfl rfl Try.func122 (by kernel_rfl) rfl #[.int .i64 a1, .int .i64 (wrap64 ((wrap64 ((wrap64 (977949455 + (wrap64 (a0 * 2551442878)))) + (wrap64 (a1 * 637860719)))) - 172800000))] rfl (by (try simp only [List.map_toArray, List.map_cons, List.map_nil]); first | done | rfl | (simp only [List.length_drop, List.length_take]; rfl)) ?_; (with_reducible refine (phase_Sign.calls kj7 a1 (wrap64 ((wrap64 ((wrap64 (977949455 + (wrap64 (a0 * 2551442878)))) + (wrap64 (a1 * 637860719)))) - 172800000)) t251 _ A12.out).mono ?_); rintro e w22 ⟨rfl, hb⟩; refine ⟨_, rfl, ?_⟩; have n0_ := Aside0.mk (blk_below (g := gb250) (o := .cells #[.int .i64 0, .int .i64 0] 153 (0, 0)) (by (with_reducible repeat (first | refine blk_drewN ?_ _ | refine blk_drew ?_ | refine blk_alloc ?_ _)); exact BK250.out) hb); have n1_ := Aside0.mk (below_step (by repeat (first | (with_reducible first | exact HB.out | apply below_alloc | apply pw_below_drewN | apply below_drew1 | refine below_set ?_ GE250.out) | exact HB.out)) hb); clear BK250; clear HB; have BK250 := n0_; have HB := n1_; clear n0_ n1_; have hq_ := (blk_cell (blk_below HQ.out HB.out) 0).trans (rfl : (#[Value.int .i64 a1] : Array Value)[0]? = some (Value.int .i64 a1)); (try clear hb); (try clear hb2); (try clear hk); (try clear hi)) | (go_at_call 122; (with_reducible refine (phase_Sign.calls kj7 a1 (wrap64 ((wrap64 ((wrap64 (977949455 + (wrap64 (a0 * 2551442878)))) + (wrap64 (a1 * 637860719)))) + 172800000)) t252 _ A16.out).mono ?_); rintro e w23 ⟨rfl, hb⟩; have n0_ := Aside0.mk (blk_below (g := gb250) (o := .cells #[.int .i64 0, .int .i64 0] 153 (0, 0)) (by (with_reducible repeat (first | refine blk_drewN ?_ _ | refine blk_drew ?_ | refine blk_alloc ?_ _)); exact BK250.out) hb); have n1_ := Aside0.mk (below_step (by repeat (first | (with_reducible first | exact HB.out | apply below_alloc | apply pw_below_drewN | apply below_drew1 | refine below_set ?_ GE250.out) | exact HB.out)) hb); clear BK250; clear HB; have BK250 := n0_; have HB := n1_; clear n0_ n1_; have hq_ := (blk_cell (blk_below HQ.out HB.out) 0).trans (rfl : (#[Value.int .i64 a1] : Array Value)[0]? = some (Value.int .i64 a1)); (try clear hb); (try clear hb2); (try clear hk); (try clear hi)) | (go_at_call 123; (with_reducible refine (series_Narrow.calls kj7 (wrap64 ((wrap64 ((wrap64 (977949455 + (wrap64 (a0 * 2551442878)))) + (wrap64 (a1 * 637860719)))) - 172800000)) (wrap64 ((wrap64 ((wrap64 (977949455 + (wrap64 (a0 * 2551442878)))) + (wrap64 (a1 * 637860719)))) + 172800000)) 600000 a1 t253 t254 t255 gq _ (blk_below HQ.out (by first | exact HB.out | (with_reducible repeat (first | exact HB.out | apply below_alloc | apply pw_below_drewN | apply below_drew1)))) A21.out).mono ?_); rintro e w24 ⟨rfl, hb⟩; have n0_ := Aside0.mk (blk_below (g := gb250) (o := .cells #[.int .i64 0, .int .i64 0] 153 (0, 0)) (by (with_reducible repeat (first | refine blk_drewN ?_ _ | refine blk_drew ?_ | refine blk_alloc ?_ _)); exact BK250.out) hb); have n1_ := Aside0.mk (below_step (by repeat (first | (with_reducible first | exact HB.out | apply below_alloc | apply pw_below_drewN | apply below_drew1 | refine below_set ?_ GE250.out) | exact HB.out)) hb); clear BK250; clear HB; have BK250 := n0_; have HB := n1_; clear n0_ n1_; have hq_ := (blk_cell (blk_below HQ.out HB.out) 0).trans (rfl : (#[Value.int .i64 a1] : Array Value)[0]? = some (Value.int .i64 a1)); (try clear hb); (try clear hb2); (try clear hk); (try clear hi); have hcz25_0 : w24.cell? ⟨gb250, 0, none⟩ = some (.int .i64 0) := (blk_cell BK250.out 0).trans rfl; have hcz25_1 : w24.cell? ⟨gb250, 1, none⟩ = some (.int .i64 0) := (blk_cell BK250.out 1).trans rfl; have hfz25_0 := blk_frozen BK250.out 0; have hfz25_1 := blk_frozen BK250.out 1))
                  refine bodyPost_ret (results_ct rfl _ _ gb250 153 #[.int .i64 t253, .int .i64 t254] (0, 0) _ rfl (by (with_reducible repeat (first | refine blk_drewN ?_ _ | refine blk_drew ?_ | refine blk_alloc ?_ _)); refine blk_put (cs := #[.int .i64 t253, .int .i64 0]) ?_ 1 _ rfl; (with_reducible repeat (first | refine blk_drewN ?_ _ | refine blk_drew ?_ | refine blk_alloc ?_ _)); refine blk_put (cs := #[.int .i64 0, .int .i64 0]) ?_ 0 _ rfl; (with_reducible repeat (first | refine blk_drewN ?_ _ | refine blk_drew ?_ | refine blk_alloc ?_ _)); exact BK250.out) Try.underlying153 rfl (by kernel_rfl)) rfl ?_
                  exact ⟨by first | rfl | (simp [errW_none, errW_some] <;> rfl) | (simp [*, errW_none, errW_some] <;> rfl), below_step HW.out (by repeat (first | (with_reducible first | exact HB.out | apply below_alloc | apply pw_below_drewN | apply below_drew1 | refine below_set ?_ GE250.out) | exact HB.out))⟩

end Go.Proofs.Ytlfammlboncmeaa.PFactsMoons
