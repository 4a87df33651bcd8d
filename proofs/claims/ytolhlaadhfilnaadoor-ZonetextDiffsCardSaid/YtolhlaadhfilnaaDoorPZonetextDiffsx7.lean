/- The walks of the functions of this part. The proof of runtime_boundsError_RuntimeError is written by hand; the other ones are as the kit's print tells them. -/
-- The walks of the law's functions, told by a program.
import Derived.Test.YtolhlaadhfilnaaDoorShiftN
import Derived.Deep.RegionLaw
import Derived.Test.YtolhlaadhfilnaaDoorPZonetextDiffsx0
import Derived.Test.YtolhlaadhfilnaaDoorPZonetextDiffsx1
namespace Go.Proofs.YtolhlaadhfilnaaDoor.PZonetextDiffs
open Go.RowKit Go.Proofs.YtolhlaadhfilnaaDoorW.PrintWords Go.Proofs.YtolhlaadhfilnaaDoorW.PrintLast Go.Proofs.YtolhlaadhfilnaaDoorW.PrintMore
attribute [local go_sem] max2_int min2_int max_two min_two max_three min_three max_four min_four   -- for this text's walks alone
set_option linter.unusedVariables false
set_option linter.unusedSimpArgs false

attribute [local go_sem high] eqA43
/-! ### ephemerisref1_ZoneEdits_1: function 53 -/
def ephemerisref1_ZoneEdits_1.l0 : Nat → List (S43) → Int → Int → Int → Int → ByteArray → Option (Bool)
  | 0, _, _, _, _, _, _ => none
  | k + 1, x7, x8, x9, x210000, x210001, x210002 => if x9 < x8 then (if 0 ≤ x9 then (if x9 < (x7.length : Int) then (if (((rd_T43 x7 x9).f0) == x210000 && (((rd_T43 x7 x9).f1) == x210001 && ((((rd_T43 x7 x9).f2).toList) == x210002.toList))) = true then (some true) else (ephemerisref1_ZoneEdits_1.l0 k x7 x8 (wrap64 (x9 + 1)) x210000 x210001 x210002)) else (none)) else (none)) else (some false)
def ephemerisref1_ZoneEdits_1.f (k : Nat) (l0 : List (S43)) (a1_0 : Int) (a1_1 : Int) (a1_2 : ByteArray) : Option (Bool) := ephemerisref1_ZoneEdits_1.l0 k l0 (l0.length : Int) 0 a1_0 a1_1 a1_2
theorem ephemerisref1_ZoneEdits_1.mono_l : ∀ k, (∀ y0 y1 y2 y3 y4 y5, LeO (ephemerisref1_ZoneEdits_1.l0 k y0 y1 y2 y3 y4 y5) (ephemerisref1_ZoneEdits_1.l0 (k + 1) y0 y1 y2 y3 y4 y5))
  | 0 => fun _ _ _ _ _ _ r h => by simp [ephemerisref1_ZoneEdits_1.l0] at h
  | k + 1 => by
    have ih0 := ephemerisref1_ZoneEdits_1.mono_l k
    · intro y0 y1 y2 y3 y4 y5
      unfold ephemerisref1_ZoneEdits_1.l0
      repeat' first
      | (with_reducible exact ih0 _ _ _ _ _ _)
      | (with_reducible exact LeO.refl _)
      | (with_reducible exact LeO.none _)
      | (with_reducible refine LeO.ite ?_ ?_)
      | (with_reducible refine LeO.bind ?_ (fun _ => ?_))
      | exact ih0 _ _ _ _ _ _
      | exact LeO.none _
      | refine LeO.ite ?_ ?_
      | refine LeO.bind ?_ (fun _ => ?_)
theorem ephemerisref1_ZoneEdits_1.mono : ∀ a0 a1 a2 a3 k, LeO (ephemerisref1_ZoneEdits_1.f k a0 a1 a2 a3) (ephemerisref1_ZoneEdits_1.f (k + 1) a0 a1 a2 a3) := by
  intro a0 a1 a2 a3 k
  have ih0 := ephemerisref1_ZoneEdits_1.mono_l k
  unfold ephemerisref1_ZoneEdits_1.f
  repeat' first
      | (with_reducible exact ih0 _ _ _ _ _ _)
      | (with_reducible exact LeO.refl _)
      | (with_reducible exact LeO.none _)
      | (with_reducible refine LeO.ite ?_ ?_)
      | (with_reducible refine LeO.bind ?_ (fun _ => ?_))
      | exact ih0 _ _ _ _ _ _
      | exact LeO.none _
      | refine LeO.ite ?_ ?_
      | refine LeO.bind ?_ (fun _ => ?_)
set_option maxHeartbeats 8000000 in
set_option maxRecDepth 100000 in
theorem ephemerisref1_ZoneEdits_1.calls (k : Nat) (A0 : Option Addr) (c0 : Nat) (l0 : List (S43)) (a1_0 : Int) (a1_1 : Int) (a1_2 : ByteArray) (r : Bool) (w : World) (hr0 : Kd.C k43 w A0 l0.length l0) (hc0 : l0.length ≤ c0) (h : ephemerisref1_ZoneEdits_1.f k l0 a1_0 a1_1 a1_2 = some r) :
    Calls Tryd.prog 53 #[.slice A0 l0.length c0, .agg #[.int .i64 a1_0, .int .i64 a1_1, .string a1_2]] w fun e w' => e = .returned (.bool r) ∧ Below w.heap.size w w' := by
  have hu43 := Tryd.underlying43
  have HR0 := Aside0.mk hr0
  have HC0 := Aside0.mk hc0
  clear hr0 hc0
  have HB := Aside0.mk (Below.refl w.heap.size w)
  have H : (ephemerisref1_ZoneEdits_1.l0 k l0 (l0.length : Int) 0 a1_0 a1_1 a1_2) = some r := h
  clear h
  have H' := Aside0.mk H
  clear H
  go_enter Tryd.func53, Tryd.ntmps53
  go_wp2_with (first | ((with_reducible refine gate_dst (N := 3) rfl ?_); refine box_event ?hg (N := 3) ?hd (cs := #[.int .i64 a1_0, .int .i64 a1_1, .string a1_2]) (t := 43) ?hr ?_; (case hd => rfl); (case hg => rfl); (case hr => first | (go_simp; done) | (go_simp; rfl)); intro gb209 hg w3 hbox hb; have n0_ := Aside0.mk (below_step (by repeat (first | (with_reducible first | exact HB.out | apply below_alloc | apply pw_below_drewN | apply below_drew1) | exact HB.out)) hb); have n1_ := Aside0.mk (hbox); have n2_ := Aside0.mk ((by rw [hg]; exact (below_size (by repeat (first | (with_reducible first | exact HB.out | apply below_alloc | apply pw_below_drewN | apply below_drew1) | exact HB.out))) : w.heap.size ≤ gb209)); have n3_ := Aside0.mk ((by rw [hg]; exact (below_size (by repeat (first | (with_reducible first | exact HB.out | apply below_alloc | apply pw_below_drewN | apply below_drew1) | exact HB.out))) : w.heap.size ≤ gb209)); clear HB; have HB := n0_; have BK209 := n1_; have GW209 := n2_; have GE209 := n3_; clear n0_ n1_ n2_ n3_; clear hb hbox hg))
  go_loopg [9] k (fun kq v9 w' => ∃ (x9_1 : Int), v9 = .int .i64 x9_1 ∧ Aside0 (ephemerisref1_ZoneEdits_1.l0 kq l0 (l0.length : Int) x9_1 a1_0 a1_1 a1_2 = some r) ∧ Aside0 (kq ≤ k) ∧ Aside0 (w'.heap[gb209]? = some (.cells #[.int .i64 a1_0, .int .i64 a1_1, .string a1_2] 43 (0, 0))) ∧ Aside0 (Below w.heap.size w w'))
  case atStart => exact ⟨(0), (by first | rfl | (simp; done) | (simp [*]; done)), H', ⟨Nat.le_refl _⟩, ⟨by (with_reducible repeat (first | refine blk_drewN ?_ _ | refine blk_drew ?_ | refine blk_alloc ?_ _)); exact BK209.out⟩, ⟨by repeat (first | (with_reducible first | exact HB.out | apply below_alloc | apply pw_below_drewN | apply below_drew1 | refine below_set ?_ GE209.out) | exact HB.out)⟩⟩
  case round =>
    clear H'
    try clear p2
    obtain ⟨x9_1, rfl, HA, HK1, BK209, HB⟩ := hrel
    cases gk with
    | zero => exact absurd HA.out (by simp [ephemerisref1_ZoneEdits_1.l0])
    | succ k1 =>
      have H := HA.out
      clear HA
      simp only [ephemerisref1_ZoneEdits_1.l0] at H
      by_cases c4 : x9_1 < (l0.length : Int)
      · rw [if_pos c4] at H
        have c4b0 : decide (x9_1 < (l0.length : Int)) = true := decide_eq_true c4
        clear c4
        by_cases c5 : 0 ≤ x9_1
        · rw [if_pos c5] at H
          have c5b0 : decide (0 ≤ x9_1) = true := decide_eq_true c5
          clear c5
          by_cases c6 : x9_1 < (l0.length : Int)
          · rw [if_pos c6] at H
            have c6b0 : decide (x9_1 < (l0.length : Int)) = true := decide_eq_true c6
            clear c6
            by_cases c7 : (((rd_T43 l0 x9_1).f0) == a1_0 && (((rd_T43 l0 x9_1).f1) == a1_1 && ((((rd_T43 l0 x9_1).f2).toList) == a1_2.toList))) = true
            · rw [if_pos c7] at H
              have c7b0 : (((rd_T43 l0 x9_1).f0) == a1_0 && (((rd_T43 l0 x9_1).f1) == a1_1 && ((((rd_T43 l0 x9_1).f2).toList) == a1_2.toList))) = true := c7
              (try (have c7b1 : decide (((rd_T43 l0 x9_1).f0) = a1_0 && (((rd_T43 l0 x9_1).f1) == a1_1 && ((((rd_T43 l0 x9_1).f2).toList) == a1_2.toList))) = true := by simpa using c7))
              (try (have c7b2 : (((rd_T43 l0 x9_1).f0) == a1_0 && (((rd_T43 l0 x9_1).f1) == a1_1 && ((((rd_T43 l0 x9_1).f2).toList) == a1_2.toList))) = true := by simpa using c7))
              clear c7
              obtain rfl := Option.some.inj H
              have p210 : 0 ≤ (x9_1 : Int) := of_decide_eq_true (by first | (with_reducible assumption) | assumption)
              have q210 : x9_1 < (l0.length : Int) := of_decide_eq_true (by first | (with_reducible assumption) | assumption)
              obtain ⟨ad210, e210, hx210_0, hx210_1, hx210_2⟩ := at_T43 HR0.out x9_1 p210 q210
              cases e210
              replace hx210_0 := (HB.out.cell (World.block_lt_of_cell? w _ hx210_0)).trans hx210_0
              replace hx210_1 := (HB.out.cell (World.block_lt_of_cell? w _ hx210_1)).trans hx210_1
              replace hx210_2 := (HB.out.cell (World.block_lt_of_cell? w _ hx210_2)).trans hx210_2
              replace p210 := eq_true p210
              replace q210 := eq_true q210
              go_wp2_with (first | ((with_reducible refine gate_dst (N := 6) rfl ?_); refine box_event ?hg (N := 6) ?hd (cs := #[.int .i64 0, .int .i64 0, .string (⟨#[]⟩ : ByteArray)]) (t := 43) ?hr ?_; (case hd => rfl); (case hg => rfl); (case hr => first | (go_simp; done) | (go_simp; rfl)); intro gb211 hg w8 hbox hb; have n0_ := Aside0.mk (blk_below (g := gb209) (o := .cells #[.int .i64 a1_0, .int .i64 a1_1, .string a1_2] 43 (0, 0)) (by (with_reducible repeat (first | refine blk_drewN ?_ _ | refine blk_drew ?_ | refine blk_alloc ?_ _)); exact BK209.out) hb); have n1_ := Aside0.mk (below_step (by repeat (first | (with_reducible first | exact HB.out | apply below_alloc | apply pw_below_drewN | apply below_drew1 | refine below_set ?_ GE209.out) | exact HB.out)) hb); have n2_ := Aside0.mk (hbox); have n3_ := Aside0.mk ((by rw [hg]; exact (below_size (by repeat (first | (with_reducible first | exact HB.out | apply below_alloc | apply pw_below_drewN | apply below_drew1 | refine below_set ?_ GE209.out) | exact HB.out))) : w.heap.size ≤ gb211)); have n4_ := Aside0.mk ((by rw [hg]; exact (below_size (by repeat (first | (with_reducible first | exact HB.out | apply below_alloc | apply pw_below_drewN | apply below_drew1 | refine below_set ?_ GE209.out) | exact HB.out))) : w.heap.size ≤ gb211)); have n5_ := Aside0.mk ((by rw [hg]; exact Nat.ne_of_lt (blk_lt (g := gb209) (o := .cells #[.int .i64 a1_0, .int .i64 a1_1, .string a1_2] 43 (0, 0)) (by (with_reducible repeat (first | refine blk_drewN ?_ _ | refine blk_drew ?_ | refine blk_alloc ?_ _)); exact BK209.out)) : gb209 ≠ gb211)); have n6_ := Aside0.mk ((by rw [hg]; exact Nat.ne_of_gt (blk_lt (g := gb209) (o := .cells #[.int .i64 a1_0, .int .i64 a1_1, .string a1_2] 43 (0, 0)) (by (with_reducible repeat (first | refine blk_drewN ?_ _ | refine blk_drew ?_ | refine blk_alloc ?_ _)); exact BK209.out)) : gb211 ≠ gb209)); clear BK209; clear HB; have BK209 := n0_; have HB := n1_; have BK211 := n2_; have GW211 := n3_; have GE211 := n4_; have NB209_211 := n5_; have NB211_209 := n6_; clear n0_ n1_ n2_ n3_ n4_ n5_ n6_; clear hb hbox hg; have hnb9 := NB211_209.out; have hnc9 := NB209_211.out; have hcz10_0 : w8.cell? ⟨gb211, 0, none⟩ = some (.int .i64 0) := (blk_cell BK211.out 0).trans rfl; have hcz10_1 : w8.cell? ⟨gb211, 1, none⟩ = some (.int .i64 0) := (blk_cell BK211.out 1).trans rfl; have hcz10_2 : w8.cell? ⟨gb211, 2, none⟩ = some (.string (⟨#[]⟩ : ByteArray)) := (blk_cell BK211.out 2).trans rfl; have hfz10_0 := blk_frozen BK211.out 0; have hfz10_1 := blk_frozen BK211.out 1; have hfz10_2 := blk_frozen BK211.out 2; have hcz11_0 : w8.cell? ⟨gb209, 0, none⟩ = some (.int .i64 a1_0) := (blk_cell BK209.out 0).trans rfl; have hcz11_1 : w8.cell? ⟨gb209, 1, none⟩ = some (.int .i64 a1_1) := (blk_cell BK209.out 1).trans rfl; have hcz11_2 : w8.cell? ⟨gb209, 2, none⟩ = some (.string a1_2) := (blk_cell BK209.out 2).trans rfl; have hfz11_0 := blk_frozen BK209.out 0; have hfz11_1 := blk_frozen BK209.out 1; have hfz11_2 := blk_frozen BK209.out 2))
              go_ret
              exact ⟨by first | rfl | (simp [errW_none, errW_some] <;> rfl) | (simp [*, errW_none, errW_some] <;> rfl), by repeat (first | (with_reducible first | exact HB.out | apply below_alloc | apply pw_below_drewN | apply below_drew1 | refine below_set ?_ GE209.out | refine below_set ?_ GE211.out) | exact HB.out)⟩
            · rw [if_neg c7] at H
              have c7b0 : (((rd_T43 l0 x9_1).f0) == a1_0 && (((rd_T43 l0 x9_1).f1) == a1_1 && ((((rd_T43 l0 x9_1).f2).toList) == a1_2.toList))) = false := by simpa using c7
              (try (have c7b1 : decide (((rd_T43 l0 x9_1).f0) = a1_0 && (((rd_T43 l0 x9_1).f1) == a1_1 && ((((rd_T43 l0 x9_1).f2).toList) == a1_2.toList))) = false := by simpa using c7))
              (try (have c7b2 : (((rd_T43 l0 x9_1).f0) == a1_0 && (((rd_T43 l0 x9_1).f1) == a1_1 && ((((rd_T43 l0 x9_1).f2).toList) == a1_2.toList))) = false := by simpa using c7))
              (try (have c7b3 : ¬ (((rd_T43 l0 x9_1).f0) = a1_0 && (((rd_T43 l0 x9_1).f1) == a1_1 && ((((rd_T43 l0 x9_1).f2).toList) == a1_2.toList))) := by simpa using c7))
              clear c7
              have H' := Aside0.mk H
              clear H
              have p210 : 0 ≤ (x9_1 : Int) := of_decide_eq_true (by first | (with_reducible assumption) | assumption)
              have q210 : x9_1 < (l0.length : Int) := of_decide_eq_true (by first | (with_reducible assumption) | assumption)
              obtain ⟨ad210, e210, hx210_0, hx210_1, hx210_2⟩ := at_T43 HR0.out x9_1 p210 q210
              cases e210
              replace hx210_0 := (HB.out.cell (World.block_lt_of_cell? w _ hx210_0)).trans hx210_0
              replace hx210_1 := (HB.out.cell (World.block_lt_of_cell? w _ hx210_1)).trans hx210_1
              replace hx210_2 := (HB.out.cell (World.block_lt_of_cell? w _ hx210_2)).trans hx210_2
              replace p210 := eq_true p210
              replace q210 := eq_true q210
              go_wp2_with (first | ((with_reducible refine gate_dst (N := 6) rfl ?_); refine box_event ?hg (N := 6) ?hd (cs := #[.int .i64 0, .int .i64 0, .string (⟨#[]⟩ : ByteArray)]) (t := 43) ?hr ?_; (case hd => rfl); (case hg => rfl); (case hr => first | (go_simp; done) | (go_simp; rfl)); intro gb211 hg w12 hbox hb; have n0_ := Aside0.mk (blk_below (g := gb209) (o := .cells #[.int .i64 a1_0, .int .i64 a1_1, .string a1_2] 43 (0, 0)) (by (with_reducible repeat (first | refine blk_drewN ?_ _ | refine blk_drew ?_ | refine blk_alloc ?_ _)); exact BK209.out) hb); have n1_ := Aside0.mk (below_step (by repeat (first | (with_reducible first | exact HB.out | apply below_alloc | apply pw_below_drewN | apply below_drew1 | refine below_set ?_ GE209.out) | exact HB.out)) hb); have n2_ := Aside0.mk (hbox); have n3_ := Aside0.mk ((by rw [hg]; exact (below_size (by repeat (first | (with_reducible first | exact HB.out | apply below_alloc | apply pw_below_drewN | apply below_drew1 | refine below_set ?_ GE209.out) | exact HB.out))) : w.heap.size ≤ gb211)); have n4_ := Aside0.mk ((by rw [hg]; exact (below_size (by repeat (first | (with_reducible first | exact HB.out | apply below_alloc | apply pw_below_drewN | apply below_drew1 | refine below_set ?_ GE209.out) | exact HB.out))) : w.heap.size ≤ gb211)); have n5_ := Aside0.mk ((by rw [hg]; exact Nat.ne_of_lt (blk_lt (g := gb209) (o := .cells #[.int .i64 a1_0, .int .i64 a1_1, .string a1_2] 43 (0, 0)) (by (with_reducible repeat (first | refine blk_drewN ?_ _ | refine blk_drew ?_ | refine blk_alloc ?_ _)); exact BK209.out)) : gb209 ≠ gb211)); have n6_ := Aside0.mk ((by rw [hg]; exact Nat.ne_of_gt (blk_lt (g := gb209) (o := .cells #[.int .i64 a1_0, .int .i64 a1_1, .string a1_2] 43 (0, 0)) (by (with_reducible repeat (first | refine blk_drewN ?_ _ | refine blk_drew ?_ | refine blk_alloc ?_ _)); exact BK209.out)) : gb211 ≠ gb209)); clear BK209; clear HB; have BK209 := n0_; have HB := n1_; have BK211 := n2_; have GW211 := n3_; have GE211 := n4_; have NB209_211 := n5_; have NB211_209 := n6_; clear n0_ n1_ n2_ n3_ n4_ n5_ n6_; clear hb hbox hg; have hnb13 := NB211_209.out; have hnc13 := NB209_211.out; have hcz14_0 : w12.cell? ⟨gb211, 0, none⟩ = some (.int .i64 0) := (blk_cell BK211.out 0).trans rfl; have hcz14_1 : w12.cell? ⟨gb211, 1, none⟩ = some (.int .i64 0) := (blk_cell BK211.out 1).trans rfl; have hcz14_2 : w12.cell? ⟨gb211, 2, none⟩ = some (.string (⟨#[]⟩ : ByteArray)) := (blk_cell BK211.out 2).trans rfl; have hfz14_0 := blk_frozen BK211.out 0; have hfz14_1 := blk_frozen BK211.out 1; have hfz14_2 := blk_frozen BK211.out 2; have hcz15_0 : w12.cell? ⟨gb209, 0, none⟩ = some (.int .i64 a1_0) := (blk_cell BK209.out 0).trans rfl; have hcz15_1 : w12.cell? ⟨gb209, 1, none⟩ = some (.int .i64 a1_1) := (blk_cell BK209.out 1).trans rfl; have hcz15_2 : w12.cell? ⟨gb209, 2, none⟩ = some (.string a1_2) := (blk_cell BK209.out 2).trans rfl; have hfz15_0 := blk_frozen BK209.out 0; have hfz15_1 := blk_frozen BK209.out 1; have hfz15_2 := blk_frozen BK209.out 2))
              go_roundg k1
              case measure => have := HK1.out; omega
              case rel => exact ⟨(wrap64 (x9_1 + 1)), (by first | rfl | (simp; done) | (simp [*]; done)), H', ⟨by have := HK1.out; omega⟩, ⟨by (with_reducible repeat (first | refine blk_drewN ?_ _ | refine blk_drew ?_ | refine blk_alloc ?_ _)); refine blk_far ?_ NB209_211.out _; (with_reducible repeat (first | refine blk_drewN ?_ _ | refine blk_drew ?_ | refine blk_alloc ?_ _)); refine blk_far ?_ NB209_211.out _; (with_reducible repeat (first | refine blk_drewN ?_ _ | refine blk_drew ?_ | refine blk_alloc ?_ _)); refine blk_far ?_ NB209_211.out _; (with_reducible repeat (first | refine blk_drewN ?_ _ | refine blk_drew ?_ | refine blk_alloc ?_ _)); exact BK209.out⟩, ⟨by repeat (first | (with_reducible first | exact HB.out | apply below_alloc | apply pw_below_drewN | apply below_drew1 | refine below_set ?_ GE209.out | refine below_set ?_ GE211.out) | exact HB.out)⟩⟩
          · rw [if_neg c6] at H
            exact absurd H (by simp)
        · rw [if_neg c5] at H
          exact absurd H (by simp)
      · rw [if_neg c4] at H
        have c4b0 : decide (x9_1 < (l0.length : Int)) = false := decide_eq_false c4
        clear c4
        obtain rfl := Option.some.inj H
        go_wp2
        go_ret
        exact ⟨by first | rfl | (simp [errW_none, errW_some] <;> rfl) | (simp [*, errW_none, errW_some] <;> rfl), by repeat (first | (with_reducible first | exact HB.out | apply below_alloc | apply pw_below_drewN | apply below_drew1 | refine below_set ?_ GE209.out) | exact HB.out)⟩

/-! ### runtime_boundsError_RuntimeError: function 141 -/
/-- A list whose elements from a place on have moved up by one; the last one is dropped. -/
def runtime_boundsError_RuntimeError.f (l0 : List S56) (a1 : Int) : Option (List S56) := if 0 ≤ a1 ∧ a1 < (l0.length : Int) then some (l0.take (a1.toNat + 1) ++ (l0.drop a1.toNat).take (l0.length - (a1.toNat + 1))) else none

/-! ### ephemerisref1_ZoneEdits: function 27 -/
mutual
def ephemerisref1_ZoneEdits.l0 : Nat → List (S43) → List (S43) → List (S56) → List (S43) → Int → Int → Option ((List (S56)))
  | 0, _, _, _, _, _, _ => none
  | k + 1, x0, x1, x5, x12, x13, x14 => if x14 < x13 then (if 0 ≤ x14 then (if x14 < (x12.length : Int) then ((ephemerisref1_ZoneEdits_1.f k x1 ((rd_T43 x12 x14).f0) ((rd_T43 x12 x14).f1) ((rd_T43 x12 x14).f2)).bind fun t217 => (if t217 = true then (ephemerisref1_ZoneEdits.l0 k x0 x1 x5 x12 x13 (wrap64 (x14 + 1))) else (if x5.length < 3518437208883 then (ephemerisref1_ZoneEdits.l0 k x0 x1 (x5 ++ [(⟨1, (⟨(rd_T43 x12 x14).f0, (rd_T43 x12 x14).f1, (rd_T43 x12 x14).f2⟩ : S43)⟩ : S56)]) x12 x13 (wrap64 (x14 + 1))) else (none)))) else (none)) else (none)) else (ephemerisref1_ZoneEdits.l1 k x0 x5 x1 (x1.length : Int) 0)
def ephemerisref1_ZoneEdits.l1 : Nat → List (S43) → List (S56) → List (S43) → Int → Int → Option ((List (S56)))
  | 0, _, _, _, _, _ => none
  | k + 1, x0, x5, x29, x30, x31 => if x31 < x30 then (if 0 ≤ x31 then (if x31 < (x29.length : Int) then ((ephemerisref1_ZoneEdits_1.f k x0 ((rd_T43 x29 x31).f0) ((rd_T43 x29 x31).f1) ((rd_T43 x29 x31).f2)).bind fun t223 => (if t223 = true then (ephemerisref1_ZoneEdits.l1 k x0 x5 x29 x30 (wrap64 (x31 + 1))) else (ephemerisref1_ZoneEdits.l2 k x0 x5 (x5.length : Int) x29 x30 x31 ((rd_T43 x29 x31).f0) ((rd_T43 x29 x31).f1) ((rd_T43 x29 x31).f2)))) else (none)) else (none)) else (some x5)
def ephemerisref1_ZoneEdits.l2 : Nat → List (S43) → List (S56) → Int → List (S43) → Int → Int → Int → Int → ByteArray → Option ((List (S56)))
  | 0, _, _, _, _, _, _, _, _, _ => none
  | k + 1, x0, x5, x11, x29, x30, x31, x223000, x223001, x223002 => if x11 > 0 then (if 0 ≤ (wrap64 (x11 - 1)) then (if (wrap64 (x11 - 1)) < (x5.length : Int) then (if ((rd_T56 x5 (wrap64 (x11 - 1))).f1.f0) > x223000 then (ephemerisref1_ZoneEdits.l2 k x0 x5 (wrap64 (x11 - 1)) x29 x30 x31 x223000 x223001 x223002) else (if x5.length < 3518437208883 then ((runtime_boundsError_RuntimeError.f (x5 ++ [(⟨0, (⟨0, 0, (⟨#[]⟩ : ByteArray)⟩ : S43)⟩ : S56)]) x11).bind fun t228 => (if 0 ≤ x11 then (if x11 < (t228.length : Int) then (ephemerisref1_ZoneEdits.l1 k x0 (t228.set (x11 : Int).toNat (⟨2, (⟨x223000, x223001, x223002⟩ : S43)⟩ : S56)) x29 x30 (wrap64 (x31 + 1))) else (none)) else (none))) else (none))) else (none)) else (none)) else (if x5.length < 3518437208883 then ((runtime_boundsError_RuntimeError.f (x5 ++ [(⟨0, (⟨0, 0, (⟨#[]⟩ : ByteArray)⟩ : S43)⟩ : S56)]) x11).bind fun t235 => (if 0 ≤ x11 then (if x11 < (t235.length : Int) then (ephemerisref1_ZoneEdits.l1 k x0 (t235.set (x11 : Int).toNat (⟨2, (⟨x223000, x223001, x223002⟩ : S43)⟩ : S56)) x29 x30 (wrap64 (x31 + 1))) else (none)) else (none))) else (none))
end
def ephemerisref1_ZoneEdits.f (k : Nat) (l0 : List (S43)) (l1 : List (S43)) : Option ((List (S56))) := ephemerisref1_ZoneEdits.l0 k l0 l1 ([] : List (S56)) l0 (l0.length : Int) 0
theorem ephemerisref1_ZoneEdits.mono_l : ∀ k, (∀ y0 y1 y2 y3 y4 y5, LeO (ephemerisref1_ZoneEdits.l0 k y0 y1 y2 y3 y4 y5) (ephemerisref1_ZoneEdits.l0 (k + 1) y0 y1 y2 y3 y4 y5)) ∧ (∀ y0 y1 y2 y3 y4, LeO (ephemerisref1_ZoneEdits.l1 k y0 y1 y2 y3 y4) (ephemerisref1_ZoneEdits.l1 (k + 1) y0 y1 y2 y3 y4)) ∧ (∀ y0 y1 y2 y3 y4 y5 y6 y7 y8, LeO (ephemerisref1_ZoneEdits.l2 k y0 y1 y2 y3 y4 y5 y6 y7 y8) (ephemerisref1_ZoneEdits.l2 (k + 1) y0 y1 y2 y3 y4 y5 y6 y7 y8))
  | 0 => ⟨fun _ _ _ _ _ _ r h => by simp [ephemerisref1_ZoneEdits.l0] at h, fun _ _ _ _ _ r h => by simp [ephemerisref1_ZoneEdits.l1] at h, fun _ _ _ _ _ _ _ _ _ r h => by simp [ephemerisref1_ZoneEdits.l2] at h⟩
  | k + 1 => by
    obtain ⟨ih0, ih1, ih2⟩ := ephemerisref1_ZoneEdits.mono_l k
    refine ⟨?_, ?_, ?_⟩
    · intro y0 y1 y2 y3 y4 y5
      unfold ephemerisref1_ZoneEdits.l0
      repeat' first
      | (with_reducible exact ih0 _ _ _ _ _ _)
      | (with_reducible exact ih1 _ _ _ _ _)
      | (with_reducible exact ih2 _ _ _ _ _ _ _ _ _)
      | (with_reducible exact ephemerisref1_ZoneEdits_1.mono _ _ _ _ _)
      | (with_reducible exact LeO.refl _)
      | (with_reducible exact LeO.none _)
      | (with_reducible refine LeO.ite ?_ ?_)
      | (with_reducible refine LeO.bind ?_ (fun _ => ?_))
      | exact ih0 _ _ _ _ _ _
      | exact ih1 _ _ _ _ _
      | exact ih2 _ _ _ _ _ _ _ _ _
      | exact ephemerisref1_ZoneEdits_1.mono _ _ _ _ _
      | exact LeO.none _
      | refine LeO.ite ?_ ?_
      | refine LeO.bind ?_ (fun _ => ?_)
    · intro y0 y1 y2 y3 y4
      unfold ephemerisref1_ZoneEdits.l1
      repeat' first
      | (with_reducible exact ih0 _ _ _ _ _ _)
      | (with_reducible exact ih1 _ _ _ _ _)
      | (with_reducible exact ih2 _ _ _ _ _ _ _ _ _)
      | (with_reducible exact ephemerisref1_ZoneEdits_1.mono _ _ _ _ _)
      | (with_reducible exact LeO.refl _)
      | (with_reducible exact LeO.none _)
      | (with_reducible refine LeO.ite ?_ ?_)
      | (with_reducible refine LeO.bind ?_ (fun _ => ?_))
      | exact ih0 _ _ _ _ _ _
      | exact ih1 _ _ _ _ _
      | exact ih2 _ _ _ _ _ _ _ _ _
      | exact ephemerisref1_ZoneEdits_1.mono _ _ _ _ _
      | exact LeO.none _
      | refine LeO.ite ?_ ?_
      | refine LeO.bind ?_ (fun _ => ?_)
    · intro y0 y1 y2 y3 y4 y5 y6 y7 y8
      unfold ephemerisref1_ZoneEdits.l2
      repeat' first
      | (with_reducible exact ih0 _ _ _ _ _ _)
      | (with_reducible exact ih1 _ _ _ _ _)
      | (with_reducible exact ih2 _ _ _ _ _ _ _ _ _)
      | (with_reducible exact ephemerisref1_ZoneEdits_1.mono _ _ _ _ _)
      | (with_reducible exact LeO.refl _)
      | (with_reducible exact LeO.none _)
      | (with_reducible refine LeO.ite ?_ ?_)
      | (with_reducible refine LeO.bind ?_ (fun _ => ?_))
      | exact ih0 _ _ _ _ _ _
      | exact ih1 _ _ _ _ _
      | exact ih2 _ _ _ _ _ _ _ _ _
      | exact ephemerisref1_ZoneEdits_1.mono _ _ _ _ _
      | exact LeO.none _
      | refine LeO.ite ?_ ?_
      | refine LeO.bind ?_ (fun _ => ?_)
theorem ephemerisref1_ZoneEdits.mono : ∀ a0 a1 k, LeO (ephemerisref1_ZoneEdits.f k a0 a1) (ephemerisref1_ZoneEdits.f (k + 1) a0 a1) := by
  intro a0 a1 k
  obtain ⟨ih0, ih1, ih2⟩ := ephemerisref1_ZoneEdits.mono_l k
  unfold ephemerisref1_ZoneEdits.f
  repeat' first
      | (with_reducible exact ih0 _ _ _ _ _ _)
      | (with_reducible exact ih1 _ _ _ _ _)
      | (with_reducible exact ih2 _ _ _ _ _ _ _ _ _)
      | (with_reducible exact ephemerisref1_ZoneEdits_1.mono _ _ _ _ _)
      | (with_reducible exact LeO.refl _)
      | (with_reducible exact LeO.none _)
      | (with_reducible refine LeO.ite ?_ ?_)
      | (with_reducible refine LeO.bind ?_ (fun _ => ?_))
      | exact ih0 _ _ _ _ _ _
      | exact ih1 _ _ _ _ _
      | exact ih2 _ _ _ _ _ _ _ _ _
      | exact ephemerisref1_ZoneEdits_1.mono _ _ _ _ _
      | exact LeO.none _
      | refine LeO.ite ?_ ?_
      | refine LeO.bind ?_ (fun _ => ?_)
set_option maxHeartbeats 8000000 in
set_option maxRecDepth 100000 in
theorem ephemerisref1_ZoneEdits.calls (k : Nat) (A0 : Option Addr) (c0 : Nat) (l0 : List (S43)) (A1 : Option Addr) (c1 : Nat) (l1 : List (S43)) (r : List (S56)) (w : World) (hr0 : Kd.C k43 w A0 l0.length l0) (hc0 : l0.length ≤ c0) (hr1 : Kd.C k43 w A1 l1.length l1) (hc1 : l1.length ≤ c1) (h : ephemerisref1_ZoneEdits.f k l0 l1 = some r) :
    Calls Tryd.prog 27 #[.slice A0 l0.length c0, .slice A1 l1.length c1] w fun e w' => ∃ v0_ : Value, e = .returned (v0_) ∧ Kd.R k56 56 w' w.heap.size (fun _ => True) v0_ r ∧ Below w.heap.size w w' := by
  have hu43 := Tryd.underlying43
  have hu56 := Tryd.underlying56
  have HR0 := Aside0.mk hr0
  have HC0 := Aside0.mk hc0
  clear hr0 hc0
  have HR1 := Aside0.mk hr1
  have HC1 := Aside0.mk hc1
  clear hr1 hc1
  have HB := Aside0.mk (Below.refl w.heap.size w)
  have H : (ephemerisref1_ZoneEdits.l0 k l0 l1 ([] : List (S56)) l0 (l0.length : Int) 0) = some r := h
  clear h
  have H' := Aside0.mk H
  clear H
  go_enter Tryd.func27, Tryd.ntmps27
  go_wp2
  repeat (go_quiet (fail); try go_wp2)
  go_loopg [5, 14] k (fun kq v5 v14 w' => ∃ (x5_1 : List (S56)) (x14_1 : Int), v14 = .int .i64 x14_1 ∧ Aside0 (ephemerisref1_ZoneEdits.l0 kq l0 l1 x5_1 l0 (l0.length : Int) x14_1 = some r) ∧ Aside0 (kq ≤ k) ∧ Aside0 (Kd.R k56 56 w' w.heap.size (fun _ => True) v5 x5_1) ∧ Aside0 (Below w.heap.size w w'))
  case atStart => exact ⟨(([] : List (S56))), (0), (by first | rfl | (simp; done) | (simp [*]; done)), H', ⟨Nat.le_refl _⟩, ⟨by first | exact Kd.R_nil _ _ _ _ _ | exact Kd.N_nil _ _ _ _ _ | exact Kd.V_nil _ _ _ _ _ | exact Kd.Q_nil _ _ _ _ _ | exact Kd.S_nil _ _ _ _ _⟩, ⟨by repeat (first | (with_reducible first | exact HB.out | apply below_alloc | apply pw_below_drewN | apply below_drew1) | exact HB.out)⟩⟩
  case round =>
    clear H'
    try clear c1
    try clear c2
    try clear p2
    obtain ⟨x5_1, x14_1, rfl, HA, HK1, HO_5, HB⟩ := hrel
    cases gk with
    | zero => exact absurd HA.out (by simp [ephemerisref1_ZoneEdits.l0])
    | succ k1 =>
      have H := HA.out
      clear HA
      simp only [ephemerisref1_ZoneEdits.l0] at H
      by_cases c3 : x14_1 < (l0.length : Int)
      · rw [if_pos c3] at H
        have c3b0 : decide (x14_1 < (l0.length : Int)) = true := decide_eq_true c3
        clear c3
        by_cases c4 : 0 ≤ x14_1
        · rw [if_pos c4] at H
          have c4b0 : decide (0 ≤ x14_1) = true := decide_eq_true c4
          clear c4
          by_cases c5 : x14_1 < (l0.length : Int)
          · rw [if_pos c5] at H
            have c5b0 : decide (x14_1 < (l0.length : Int)) = true := decide_eq_true c5
            clear c5
            replace H := Option.bind_eq_some_iff.mp H
            obtain ⟨t217, A60, H⟩ := H
            replace H : (if t217 = true then (ephemerisref1_ZoneEdits.l0 k1 l0 l1 x5_1 l0 (l0.length : Int) (wrap64 (x14_1 + 1))) else (if x5_1.length < 3518437208883 then (ephemerisref1_ZoneEdits.l0 k1 l0 l1 (x5_1 ++ [(⟨1, (⟨(rd_T43 l0 x14_1).f0, (rd_T43 l0 x14_1).f1, (rd_T43 l0 x14_1).f2⟩ : S43)⟩ : S56)]) l0 (l0.length : Int) (wrap64 (x14_1 + 1))) else (none))) = some r := H
            have A6 := Aside0.mk A60
            clear A60
            by_cases c7 : t217 = true
            · subst c7
              have H1 : (ephemerisref1_ZoneEdits.l0 k1 l0 l1 x5_1 l0 (l0.length : Int) (wrap64 (x14_1 + 1))) = some r := by rw [if_pos rfl] at H; exact H
              clear H
              have H := H1
              clear H1
              have H' := Aside0.mk H
              clear H
              have p215 : 0 ≤ (x14_1 : Int) := of_decide_eq_true (by first | (with_reducible assumption) | assumption)
              have q215 : x14_1 < (l0.length : Int) := of_decide_eq_true (by first | (with_reducible assumption) | assumption)
              obtain ⟨ad215, e215, hx215_0, hx215_1, hx215_2⟩ := at_T43 HR0.out x14_1 p215 q215
              cases e215
              replace hx215_0 := (HB.out.cell (World.block_lt_of_cell? w _ hx215_0)).trans hx215_0
              replace hx215_1 := (HB.out.cell (World.block_lt_of_cell? w _ hx215_1)).trans hx215_1
              replace hx215_2 := (HB.out.cell (World.block_lt_of_cell? w _ hx215_2)).trans hx215_2
              replace p215 := eq_true p215
              replace q215 := eq_true q215
              go_wp2_with (first | ((with_reducible refine gate_dst (N := 8) rfl ?_); refine box_event ?hg (N := 8) ?hd (cs := #[.int .i64 0, .int .i64 0, .string (⟨#[]⟩ : ByteArray)]) (t := 43) ?hr ?_; (case hd => rfl); (case hg => rfl); (case hr => first | (go_simp; done) | (go_simp; rfl)); intro gb216 hg w8 hbox hb; have n0_ := Aside0.mk (Kd.R_below (by (with_reducible repeat (first | apply Kd.R_alloc | apply Kd.R_drewN | apply Kd.R_drew)); exact HO_5.out) hb); have n1_ := Aside0.mk (below_step (by repeat (first | (with_reducible first | exact HB.out | apply below_alloc | apply pw_below_drewN | apply below_drew1) | exact HB.out)) hb); have n2_ := Aside0.mk (hbox); have n3_ := Aside0.mk ((by rw [hg]; exact (below_size (by repeat (first | (with_reducible first | exact HB.out | apply below_alloc | apply pw_below_drewN | apply below_drew1) | exact HB.out))) : w.heap.size ≤ gb216)); have n4_ := Aside0.mk ((by rw [hg]; exact (below_size (by repeat (first | (with_reducible first | exact HB.out | apply below_alloc | apply pw_below_drewN | apply below_drew1) | exact HB.out))) : w.heap.size ≤ gb216)); clear HO_5; clear HB; have HO_5 := n0_; have HB := n1_; have BK216 := n2_; have GW216 := n3_; have GE216 := n4_; clear n0_ n1_ n2_ n3_ n4_; clear hb hbox hg; have hcz9_0 : w8.cell? ⟨gb216, 0, none⟩ = some (.int .i64 0) := (blk_cell BK216.out 0).trans rfl; have hcz9_1 : w8.cell? ⟨gb216, 1, none⟩ = some (.int .i64 0) := (blk_cell BK216.out 1).trans rfl; have hcz9_2 : w8.cell? ⟨gb216, 2, none⟩ = some (.string (⟨#[]⟩ : ByteArray)) := (blk_cell BK216.out 2).trans rfl; have hfz9_0 := blk_frozen BK216.out 0; have hfz9_1 := blk_frozen BK216.out 1; have hfz9_2 := blk_frozen BK216.out 2) | (go_at_call 53; (with_reducible refine (ephemerisref1_ZoneEdits_1.calls k1 _ _ l1 ((rd_T43 l0 x14_1).f0) ((rd_T43 l0 x14_1).f1) ((rd_T43 l0 x14_1).f2) true _ ?side1 ?side2 A6.out).mono ?_); (case side1 => exact Kd.C_below HR1.out (by repeat (first | (with_reducible first | exact HB.out | apply below_alloc | apply pw_below_drewN | apply below_drew1 | refine below_set ?_ GE216.out) | exact HB.out))); (case side2 => exact HC1.out); rintro e w10 ⟨rfl, hb⟩; have n0_ := Aside0.mk (Kd.R_below (by (with_reducible repeat (first | apply Kd.R_alloc | apply Kd.R_drewN | apply Kd.R_drew)); exact (Kd.R_mono (Kd.R_far (p := ⟨gb216, 2, none⟩) (Kd.R_far (p := ⟨gb216, 1, none⟩) (Kd.R_far (p := ⟨gb216, 0, none⟩) (Kd.R_types HO_5.out BK216.out (by decide)) (fun _ hk => hk.2) (.int .i64 ((rd_T43 l0 x14_1).f0))) (fun _ hk => hk.2) (.int .i64 ((rd_T43 l0 x14_1).f1))) (fun _ hk => hk.2) (.string ((rd_T43 l0 x14_1).f2))) (fun _ h_ => h_.1))) hb); have n1_ := Aside0.mk (blk_below (g := gb216) (o := .cells #[.int .i64 ((rd_T43 l0 x14_1).f0), .int .i64 ((rd_T43 l0 x14_1).f1), .string ((rd_T43 l0 x14_1).f2)] 43 (0, 0)) (by (with_reducible repeat (first | refine blk_drewN ?_ _ | refine blk_drew ?_ | refine blk_alloc ?_ _)); refine blk_put (cs := #[.int .i64 ((rd_T43 l0 x14_1).f0), .int .i64 ((rd_T43 l0 x14_1).f1), .string (⟨#[]⟩ : ByteArray)]) ?_ 2 _ rfl; (with_reducible repeat (first | refine blk_drewN ?_ _ | refine blk_drew ?_ | refine blk_alloc ?_ _)); refine blk_put (cs := #[.int .i64 ((rd_T43 l0 x14_1).f0), .int .i64 0, .string (⟨#[]⟩ : ByteArray)]) ?_ 1 _ rfl; (with_reducible repeat (first | refine blk_drewN ?_ _ | refine blk_drew ?_ | refine blk_alloc ?_ _)); refine blk_put (cs := #[.int .i64 0, .int .i64 0, .string (⟨#[]⟩ : ByteArray)]) ?_ 0 _ rfl; (with_reducible repeat (first | refine blk_drewN ?_ _ | refine blk_drew ?_ | refine blk_alloc ?_ _)); exact BK216.out) hb); have n2_ := Aside0.mk (below_step (by repeat (first | (with_reducible first | exact HB.out | apply below_alloc | apply pw_below_drewN | apply below_drew1 | refine below_set ?_ GE216.out) | exact HB.out)) hb); clear HO_5; clear BK216; clear HB; have HO_5 := n0_; have BK216 := n1_; have HB := n2_; clear n0_ n1_ n2_; (try clear hb); (try clear hb2); (try clear hk); (try clear hi)))
              repeat (go_quiet (first | ((with_reducible refine gate_dst (N := 8) rfl ?_); refine box_event ?hg (N := 8) ?hd (cs := #[.int .i64 0, .int .i64 0, .string (⟨#[]⟩ : ByteArray)]) (t := 43) ?hr ?_; (case hd => rfl); (case hg => rfl); (case hr => first | (go_simp; done) | (go_simp; rfl)); intro gb216 hg w8 hbox hb; have n0_ := Aside0.mk (Kd.R_below (by (with_reducible repeat (first | apply Kd.R_alloc | apply Kd.R_drewN | apply Kd.R_drew)); exact HO_5.out) hb); have n1_ := Aside0.mk (below_step (by repeat (first | (with_reducible first | exact HB.out | apply below_alloc | apply pw_below_drewN | apply below_drew1) | exact HB.out)) hb); have n2_ := Aside0.mk (hbox); have n3_ := Aside0.mk ((by rw [hg]; exact (below_size (by repeat (first | (with_reducible first | exact HB.out | apply below_alloc | apply pw_below_drewN | apply below_drew1) | exact HB.out))) : w.heap.size ≤ gb216)); have n4_ := Aside0.mk ((by rw [hg]; exact (below_size (by repeat (first | (with_reducible first | exact HB.out | apply below_alloc | apply pw_below_drewN | apply below_drew1) | exact HB.out))) : w.heap.size ≤ gb216)); clear HO_5; clear HB; have HO_5 := n0_; have HB := n1_; have BK216 := n2_; have GW216 := n3_; have GE216 := n4_; clear n0_ n1_ n2_ n3_ n4_; clear hb hbox hg; have hcz9_0 : w8.cell? ⟨gb216, 0, none⟩ = some (.int .i64 0) := (blk_cell BK216.out 0).trans rfl; have hcz9_1 : w8.cell? ⟨gb216, 1, none⟩ = some (.int .i64 0) := (blk_cell BK216.out 1).trans rfl; have hcz9_2 : w8.cell? ⟨gb216, 2, none⟩ = some (.string (⟨#[]⟩ : ByteArray)) := (blk_cell BK216.out 2).trans rfl; have hfz9_0 := blk_frozen BK216.out 0; have hfz9_1 := blk_frozen BK216.out 1; have hfz9_2 := blk_frozen BK216.out 2) | (go_at_call 53; (with_reducible refine (ephemerisref1_ZoneEdits_1.calls k1 _ _ l1 ((rd_T43 l0 x14_1).f0) ((rd_T43 l0 x14_1).f1) ((rd_T43 l0 x14_1).f2) true _ ?side1 ?side2 A6.out).mono ?_); (case side1 => exact Kd.C_below HR1.out (by repeat (first | (with_reducible first | exact HB.out | apply below_alloc | apply pw_below_drewN | apply below_drew1 | refine below_set ?_ GE216.out) | exact HB.out))); (case side2 => exact HC1.out); rintro e w10 ⟨rfl, hb⟩; have n0_ := Aside0.mk (Kd.R_below (by (with_reducible repeat (first | apply Kd.R_alloc | apply Kd.R_drewN | apply Kd.R_drew)); exact (Kd.R_mono (Kd.R_far (p := ⟨gb216, 2, none⟩) (Kd.R_far (p := ⟨gb216, 1, none⟩) (Kd.R_far (p := ⟨gb216, 0, none⟩) (Kd.R_types HO_5.out BK216.out (by decide)) (fun _ hk => hk.2) (.int .i64 ((rd_T43 l0 x14_1).f0))) (fun _ hk => hk.2) (.int .i64 ((rd_T43 l0 x14_1).f1))) (fun _ hk => hk.2) (.string ((rd_T43 l0 x14_1).f2))) (fun _ h_ => h_.1))) hb); have n1_ := Aside0.mk (blk_below (g := gb216) (o := .cells #[.int .i64 ((rd_T43 l0 x14_1).f0), .int .i64 ((rd_T43 l0 x14_1).f1), .string ((rd_T43 l0 x14_1).f2)] 43 (0, 0)) (by (with_reducible repeat (first | refine blk_drewN ?_ _ | refine blk_drew ?_ | refine blk_alloc ?_ _)); refine blk_put (cs := #[.int .i64 ((rd_T43 l0 x14_1).f0), .int .i64 ((rd_T43 l0 x14_1).f1), .string (⟨#[]⟩ : ByteArray)]) ?_ 2 _ rfl; (with_reducible repeat (first | refine blk_drewN ?_ _ | refine blk_drew ?_ | refine blk_alloc ?_ _)); refine blk_put (cs := #[.int .i64 ((rd_T43 l0 x14_1).f0), .int .i64 0, .string (⟨#[]⟩ : ByteArray)]) ?_ 1 _ rfl; (with_reducible repeat (first | refine blk_drewN ?_ _ | refine blk_drew ?_ | refine blk_alloc ?_ _)); refine blk_put (cs := #[.int .i64 0, .int .i64 0, .string (⟨#[]⟩ : ByteArray)]) ?_ 0 _ rfl; (with_reducible repeat (first | refine blk_drewN ?_ _ | refine blk_drew ?_ | refine blk_alloc ?_ _)); exact BK216.out) hb); have n2_ := Aside0.mk (below_step (by repeat (first | (with_reducible first | exact HB.out | apply below_alloc | apply pw_below_drewN | apply below_drew1 | refine below_set ?_ GE216.out) | exact HB.out)) hb); clear HO_5; clear BK216; clear HB; have HO_5 := n0_; have BK216 := n1_; have HB := n2_; clear n0_ n1_ n2_; (try clear hb); (try clear hb2); (try clear hk); (try clear hi))); try go_wp2_with (first | ((with_reducible refine gate_dst (N := 8) rfl ?_); refine box_event ?hg (N := 8) ?hd (cs := #[.int .i64 0, .int .i64 0, .string (⟨#[]⟩ : ByteArray)]) (t := 43) ?hr ?_; (case hd => rfl); (case hg => rfl); (case hr => first | (go_simp; done) | (go_simp; rfl)); intro gb216 hg w8 hbox hb; have n0_ := Aside0.mk (Kd.R_below (by (with_reducible repeat (first | apply Kd.R_alloc | apply Kd.R_drewN | apply Kd.R_drew)); exact HO_5.out) hb); have n1_ := Aside0.mk (below_step (by repeat (first | (with_reducible first | exact HB.out | apply below_alloc | apply pw_below_drewN | apply below_drew1) | exact HB.out)) hb); have n2_ := Aside0.mk (hbox); have n3_ := Aside0.mk ((by rw [hg]; exact (below_size (by repeat (first | (with_reducible first | exact HB.out | apply below_alloc | apply pw_below_drewN | apply below_drew1) | exact HB.out))) : w.heap.size ≤ gb216)); have n4_ := Aside0.mk ((by rw [hg]; exact (below_size (by repeat (first | (with_reducible first | exact HB.out | apply below_alloc | apply pw_below_drewN | apply below_drew1) | exact HB.out))) : w.heap.size ≤ gb216)); clear HO_5; clear HB; have HO_5 := n0_; have HB := n1_; have BK216 := n2_; have GW216 := n3_; have GE216 := n4_; clear n0_ n1_ n2_ n3_ n4_; clear hb hbox hg; have hcz9_0 : w8.cell? ⟨gb216, 0, none⟩ = some (.int .i64 0) := (blk_cell BK216.out 0).trans rfl; have hcz9_1 : w8.cell? ⟨gb216, 1, none⟩ = some (.int .i64 0) := (blk_cell BK216.out 1).trans rfl; have hcz9_2 : w8.cell? ⟨gb216, 2, none⟩ = some (.string (⟨#[]⟩ : ByteArray)) := (blk_cell BK216.out 2).trans rfl; have hfz9_0 := blk_frozen BK216.out 0; have hfz9_1 := blk_frozen BK216.out 1; have hfz9_2 := blk_frozen BK216.out 2) | (go_at_call 53; (with_reducible refine (ephemerisref1_ZoneEdits_1.calls k1 _ _ l1 ((rd_T43 l0 x14_1).f0) ((rd_T43 l0 x14_1).f1) ((rd_T43 l0 x14_1).f2) true _ ?side1 ?side2 A6.out).mono ?_); (case side1 => exact Kd.C_below HR1.out (by repeat (first | (with_reducible first | exact HB.out | apply below_alloc | apply pw_below_drewN | apply below_drew1 | refine below_set ?_ GE216.out) | exact HB.out))); (case side2 => exact HC1.out); rintro e w10 ⟨rfl, hb⟩; have n0_ := Aside0.mk (Kd.R_below (by (with_reducible repeat (first | apply Kd.R_alloc | apply Kd.R_drewN | apply Kd.R_drew)); exact (Kd.R_mono (Kd.R_far (p := ⟨gb216, 2, none⟩) (Kd.R_far (p := ⟨gb216, 1, none⟩) (Kd.R_far (p := ⟨gb216, 0, none⟩) (Kd.R_types HO_5.out BK216.out (by decide)) (fun _ hk => hk.2) (.int .i64 ((rd_T43 l0 x14_1).f0))) (fun _ hk => hk.2) (.int .i64 ((rd_T43 l0 x14_1).f1))) (fun _ hk => hk.2) (.string ((rd_T43 l0 x14_1).f2))) (fun _ h_ => h_.1))) hb); have n1_ := Aside0.mk (blk_below (g := gb216) (o := .cells #[.int .i64 ((rd_T43 l0 x14_1).f0), .int .i64 ((rd_T43 l0 x14_1).f1), .string ((rd_T43 l0 x14_1).f2)] 43 (0, 0)) (by (with_reducible repeat (first | refine blk_drewN ?_ _ | refine blk_drew ?_ | refine blk_alloc ?_ _)); refine blk_put (cs := #[.int .i64 ((rd_T43 l0 x14_1).f0), .int .i64 ((rd_T43 l0 x14_1).f1), .string (⟨#[]⟩ : ByteArray)]) ?_ 2 _ rfl; (with_reducible repeat (first | refine blk_drewN ?_ _ | refine blk_drew ?_ | refine blk_alloc ?_ _)); refine blk_put (cs := #[.int .i64 ((rd_T43 l0 x14_1).f0), .int .i64 0, .string (⟨#[]⟩ : ByteArray)]) ?_ 1 _ rfl; (with_reducible repeat (first | refine blk_drewN ?_ _ | refine blk_drew ?_ | refine blk_alloc ?_ _)); refine blk_put (cs := #[.int .i64 0, .int .i64 0, .string (⟨#[]⟩ : ByteArray)]) ?_ 0 _ rfl; (with_reducible repeat (first | refine blk_drewN ?_ _ | refine blk_drew ?_ | refine blk_alloc ?_ _)); exact BK216.out) hb); have n2_ := Aside0.mk (below_step (by repeat (first | (with_reducible first | exact HB.out | apply below_alloc | apply pw_below_drewN | apply below_drew1 | refine below_set ?_ GE216.out) | exact HB.out)) hb); clear HO_5; clear BK216; clear HB; have HO_5 := n0_; have BK216 := n1_; have HB := n2_; clear n0_ n1_ n2_; (try clear hb); (try clear hb2); (try clear hk); (try clear hi))))
              go_roundg k1
              case measure => have := HK1.out; omega
              case rel => exact ⟨(x5_1), (wrap64 (x14_1 + 1)), (by first | rfl | (simp; done) | (simp [*]; done)), H', ⟨by have := HK1.out; omega⟩, ⟨by (with_reducible repeat (first | apply Kd.R_alloc | apply Kd.R_drewN | apply Kd.R_drew)); exact HO_5.out⟩, ⟨by repeat (first | (with_reducible first | exact HB.out | apply below_alloc | apply pw_below_drewN | apply below_drew1 | refine below_set ?_ GE216.out) | exact HB.out)⟩⟩
            · replace c7 := Bool.eq_false_iff.mpr c7
              subst c7
              have H1 : (if x5_1.length < 3518437208883 then (ephemerisref1_ZoneEdits.l0 k1 l0 l1 (x5_1 ++ [(⟨1, (⟨(rd_T43 l0 x14_1).f0, (rd_T43 l0 x14_1).f1, (rd_T43 l0 x14_1).f2⟩ : S43)⟩ : S56)]) l0 (l0.length : Int) (wrap64 (x14_1 + 1))) else (none)) = some r := by rw [if_neg (show ¬ (false = true) by decide)] at H; exact H
              clear H
              have H := H1
              clear H1
              by_cases c11 : x5_1.length < 3518437208883
              · rw [if_pos c11] at H
                have LMc11 := Aside0.mk c11
                clear c11
                obtain ⟨y218, hy218⟩ : ∃ y_ : List (S56), y_ = (x5_1 ++ [(⟨1, (⟨(rd_T43 l0 x14_1).f0, (rd_T43 l0 x14_1).f1, (rd_T43 l0 x14_1).f2⟩ : S43)⟩ : S56)]) := ⟨_, rfl⟩
                replace H : (ephemerisref1_ZoneEdits.l0 k1 l0 l1 y218 l0 (l0.length : Int) (wrap64 (x14_1 + 1))) = some r := by first | (rw [hy218]; with_reducible exact H) | (have H2_ := (Option.bind_some _ _).symm.trans H; rw [hy218]; with_reducible exact H2_) | (have H2_ := (Option.bind_some _ _).symm.trans H; with_reducible exact H2_) | with_reducible exact H | (rw [hy218]; exact H) | exact H
                have Ny218 := Aside0.mk hy218
                clear hy218
                have H' := Aside0.mk H
                clear H
                have p215 : 0 ≤ (x14_1 : Int) := of_decide_eq_true (by first | (with_reducible assumption) | assumption)
                have q215 : x14_1 < (l0.length : Int) := of_decide_eq_true (by first | (with_reducible assumption) | assumption)
                obtain ⟨ad215, e215, hx215_0, hx215_1, hx215_2⟩ := at_T43 HR0.out x14_1 p215 q215
                cases e215
                replace hx215_0 := (HB.out.cell (World.block_lt_of_cell? w _ hx215_0)).trans hx215_0
                replace hx215_1 := (HB.out.cell (World.block_lt_of_cell? w _ hx215_1)).trans hx215_1
                replace hx215_2 := (HB.out.cell (World.block_lt_of_cell? w _ hx215_2)).trans hx215_2
                replace p215 := eq_true p215
                replace q215 := eq_true q215
                go_wp2_with (first | ((with_reducible refine gate_dst (N := 8) rfl ?_); refine box_event ?hg (N := 8) ?hd (cs := #[.int .i64 0, .int .i64 0, .string (⟨#[]⟩ : ByteArray)]) (t := 43) ?hr ?_; (case hd => rfl); (case hg => rfl); (case hr => first | (go_simp; done) | (go_simp; rfl)); intro gb216 hg w12 hbox hb; have n0_ := Aside0.mk (Kd.R_below (by (with_reducible repeat (first | apply Kd.R_alloc | apply Kd.R_drewN | apply Kd.R_drew)); exact HO_5.out) hb); have n1_ := Aside0.mk (below_step (by repeat (first | (with_reducible first | exact HB.out | apply below_alloc | apply pw_below_drewN | apply below_drew1) | exact HB.out)) hb); have n2_ := Aside0.mk (hbox); have n3_ := Aside0.mk ((by rw [hg]; exact (below_size (by repeat (first | (with_reducible first | exact HB.out | apply below_alloc | apply pw_below_drewN | apply below_drew1) | exact HB.out))) : w.heap.size ≤ gb216)); have n4_ := Aside0.mk ((by rw [hg]; exact (below_size (by repeat (first | (with_reducible first | exact HB.out | apply below_alloc | apply pw_below_drewN | apply below_drew1) | exact HB.out))) : w.heap.size ≤ gb216)); clear HO_5; clear HB; have HO_5 := n0_; have HB := n1_; have BK216 := n2_; have GW216 := n3_; have GE216 := n4_; clear n0_ n1_ n2_ n3_ n4_; clear hb hbox hg; have hcz13_0 : w12.cell? ⟨gb216, 0, none⟩ = some (.int .i64 0) := (blk_cell BK216.out 0).trans rfl; have hcz13_1 : w12.cell? ⟨gb216, 1, none⟩ = some (.int .i64 0) := (blk_cell BK216.out 1).trans rfl; have hcz13_2 : w12.cell? ⟨gb216, 2, none⟩ = some (.string (⟨#[]⟩ : ByteArray)) := (blk_cell BK216.out 2).trans rfl; have hfz13_0 := blk_frozen BK216.out 0; have hfz13_1 := blk_frozen BK216.out 1; have hfz13_2 := blk_frozen BK216.out 2) | (go_at_call 53; (with_reducible refine (ephemerisref1_ZoneEdits_1.calls k1 _ _ l1 ((rd_T43 l0 x14_1).f0) ((rd_T43 l0 x14_1).f1) ((rd_T43 l0 x14_1).f2) false _ ?side1 ?side2 A6.out).mono ?_); (case side1 => exact Kd.C_below HR1.out (by repeat (first | (with_reducible first | exact HB.out | apply below_alloc | apply pw_below_drewN | apply below_drew1 | refine below_set ?_ GE216.out) | exact HB.out))); (case side2 => exact HC1.out); rintro e w14 ⟨rfl, hb⟩; have n0_ := Aside0.mk (Kd.R_below (by (with_reducible repeat (first | apply Kd.R_alloc | apply Kd.R_drewN | apply Kd.R_drew)); exact (Kd.R_mono (Kd.R_far (p := ⟨gb216, 2, none⟩) (Kd.R_far (p := ⟨gb216, 1, none⟩) (Kd.R_far (p := ⟨gb216, 0, none⟩) (Kd.R_types HO_5.out BK216.out (by decide)) (fun _ hk => hk.2) (.int .i64 ((rd_T43 l0 x14_1).f0))) (fun _ hk => hk.2) (.int .i64 ((rd_T43 l0 x14_1).f1))) (fun _ hk => hk.2) (.string ((rd_T43 l0 x14_1).f2))) (fun _ h_ => h_.1))) hb); have n1_ := Aside0.mk (blk_below (g := gb216) (o := .cells #[.int .i64 ((rd_T43 l0 x14_1).f0), .int .i64 ((rd_T43 l0 x14_1).f1), .string ((rd_T43 l0 x14_1).f2)] 43 (0, 0)) (by (with_reducible repeat (first | refine blk_drewN ?_ _ | refine blk_drew ?_ | refine blk_alloc ?_ _)); refine blk_put (cs := #[.int .i64 ((rd_T43 l0 x14_1).f0), .int .i64 ((rd_T43 l0 x14_1).f1), .string (⟨#[]⟩ : ByteArray)]) ?_ 2 _ rfl; (with_reducible repeat (first | refine blk_drewN ?_ _ | refine blk_drew ?_ | refine blk_alloc ?_ _)); refine blk_put (cs := #[.int .i64 ((rd_T43 l0 x14_1).f0), .int .i64 0, .string (⟨#[]⟩ : ByteArray)]) ?_ 1 _ rfl; (with_reducible repeat (first | refine blk_drewN ?_ _ | refine blk_drew ?_ | refine blk_alloc ?_ _)); refine blk_put (cs := #[.int .i64 0, .int .i64 0, .string (⟨#[]⟩ : ByteArray)]) ?_ 0 _ rfl; (with_reducible repeat (first | refine blk_drewN ?_ _ | refine blk_drew ?_ | refine blk_alloc ?_ _)); exact BK216.out) hb); have n2_ := Aside0.mk (below_step (by repeat (first | (with_reducible first | exact HB.out | apply below_alloc | apply pw_below_drewN | apply below_drew1 | refine below_set ?_ GE216.out) | exact HB.out)) hb); clear HO_5; clear BK216; clear HB; have HO_5 := n0_; have BK216 := n1_; have HB := n2_; clear n0_ n1_ n2_; (try clear hb); (try clear hb2); (try clear hk); (try clear hi); have hcz15_0 : w14.cell? ⟨gb216, 0, none⟩ = some (.int .i64 ((rd_T43 l0 x14_1).f0)) := (blk_cell BK216.out 0).trans rfl; have hcz15_1 : w14.cell? ⟨gb216, 1, none⟩ = some (.int .i64 ((rd_T43 l0 x14_1).f1)) := (blk_cell BK216.out 1).trans rfl; have hcz15_2 : w14.cell? ⟨gb216, 2, none⟩ = some (.string ((rd_T43 l0 x14_1).f2)) := (blk_cell BK216.out 2).trans rfl; have hfz15_0 := blk_frozen BK216.out 0; have hfz15_1 := blk_frozen BK216.out 1; have hfz15_2 := blk_frozen BK216.out 2) | ((with_reducible refine gate_builtin (b := .append) (xs := #[.tmp 23, .tmp 26]) rfl ?_); at_builtin; refine Kd.R_append k56 (w0 := w) w.heap.size rfl (.tmp 23) (.tmp 26) 52 56 (.agg #[(.int .i64 0), (.int .i64 0), (.int .i64 0), (.string ⟨#[]⟩)]) 40 rfl Tryd.underlying52 info56 rfl (by decide) (by omega) u5 x5_1 (⟨1, (⟨(rd_T43 l0 x14_1).f0, (rd_T43 l0 x14_1).f1, (rd_T43 l0 x14_1).f2⟩ : S43)⟩ : S56) [.int .i64 1, .int .i64 ((rd_T43 l0 x14_1).f0), .int .i64 ((rd_T43 l0 x14_1).f1), .string ((rd_T43 l0 x14_1).f2)] (fun _ => True) (fun _ => False) rfl rfl ?aP (fun _ hk => hk.elim) ?aF ?aO ?aB ?aS ?aL ?_; (case aP => exact k56_mkM _ _ _ (⟨1, (⟨(rd_T43 l0 x14_1).f0, (rd_T43 l0 x14_1).f1, (rd_T43 l0 x14_1).f2⟩ : S43)⟩ : S56)); (case aB => exact (by repeat (first | (with_reducible first | exact HB.out | apply below_alloc | apply pw_below_drewN | apply below_drew1 | refine below_set ?_ GE216.out) | exact HB.out))); (case aF => exact (fun _ _ => trivial)); (case aO => exact (by (with_reducible repeat (first | apply Kd.R_alloc | apply Kd.R_drewN | apply Kd.R_drew)); exact HO_5.out)); (case aS => exact (below_size (by repeat (first | (with_reducible first | exact HB.out | apply below_alloc | apply pw_below_drewN | apply below_drew1 | refine below_set ?_ GE216.out) | exact HB.out)))); (case aL => have := LMc11.out; omega); intro v219 w16 ho hb hg hat; rw [← Ny218.out] at ho; have n0_ := Aside0.mk (blk_grown (g := gb216) (o := .cells #[.int .i64 ((rd_T43 l0 x14_1).f0), .int .i64 ((rd_T43 l0 x14_1).f1), .string ((rd_T43 l0 x14_1).f2)] 43 (0, 0)) (by (with_reducible repeat (first | refine blk_drewN ?_ _ | refine blk_drew ?_ | refine blk_alloc ?_ _)); exact BK216.out) hg (Kd.R_ne HO_5.out BK216.out (by decide))); have n1_ := Aside0.mk (hb); have n2_ := Aside0.mk (ho); clear BK216; clear HB; clear HO_5; have BK216 := n0_; have HB := n1_; have HO220 := n2_; clear n0_ n1_ n2_; clear ho hb hg hat))
                repeat (go_quiet (first | ((with_reducible refine gate_dst (N := 8) rfl ?_); refine box_event ?hg (N := 8) ?hd (cs := #[.int .i64 0, .int .i64 0, .string (⟨#[]⟩ : ByteArray)]) (t := 43) ?hr ?_; (case hd => rfl); (case hg => rfl); (case hr => first | (go_simp; done) | (go_simp; rfl)); intro gb216 hg w12 hbox hb; have n0_ := Aside0.mk (Kd.R_below (by (with_reducible repeat (first | apply Kd.R_alloc | apply Kd.R_drewN | apply Kd.R_drew)); exact HO_5.out) hb); have n1_ := Aside0.mk (below_step (by repeat (first | (with_reducible first | exact HB.out | apply below_alloc | apply pw_below_drewN | apply below_drew1) | exact HB.out)) hb); have n2_ := Aside0.mk (hbox); have n3_ := Aside0.mk ((by rw [hg]; exact (below_size (by repeat (first | (with_reducible first | exact HB.out | apply below_alloc | apply pw_below_drewN | apply below_drew1) | exact HB.out))) : w.heap.size ≤ gb216)); have n4_ := Aside0.mk ((by rw [hg]; exact (below_size (by repeat (first | (with_reducible first | exact HB.out | apply below_alloc | apply pw_below_drewN | apply below_drew1) | exact HB.out))) : w.heap.size ≤ gb216)); clear HO_5; clear HB; have HO_5 := n0_; have HB := n1_; have BK216 := n2_; have GW216 := n3_; have GE216 := n4_; clear n0_ n1_ n2_ n3_ n4_; clear hb hbox hg; have hcz13_0 : w12.cell? ⟨gb216, 0, none⟩ = some (.int .i64 0) := (blk_cell BK216.out 0).trans rfl; have hcz13_1 : w12.cell? ⟨gb216, 1, none⟩ = some (.int .i64 0) := (blk_cell BK216.out 1).trans rfl; have hcz13_2 : w12.cell? ⟨gb216, 2, none⟩ = some (.string (⟨#[]⟩ : ByteArray)) := (blk_cell BK216.out 2).trans rfl; have hfz13_0 := blk_frozen BK216.out 0; have hfz13_1 := blk_frozen BK216.out 1; have hfz13_2 := blk_frozen BK216.out 2) | (go_at_call 53; (with_reducible refine (ephemerisref1_ZoneEdits_1.calls k1 _ _ l1 ((rd_T43 l0 x14_1).f0) ((rd_T43 l0 x14_1).f1) ((rd_T43 l0 x14_1).f2) false _ ?side1 ?side2 A6.out).mono ?_); (case side1 => exact Kd.C_below HR1.out (by repeat (first | (with_reducible first | exact HB.out | apply below_alloc | apply pw_below_drewN | apply below_drew1 | refine below_set ?_ GE216.out) | exact HB.out))); (case side2 => exact HC1.out); rintro e w14 ⟨rfl, hb⟩; have n0_ := Aside0.mk (Kd.R_below (by (with_reducible repeat (first | apply Kd.R_alloc | apply Kd.R_drewN | apply Kd.R_drew)); exact (Kd.R_mono (Kd.R_far (p := ⟨gb216, 2, none⟩) (Kd.R_far (p := ⟨gb216, 1, none⟩) (Kd.R_far (p := ⟨gb216, 0, none⟩) (Kd.R_types HO_5.out BK216.out (by decide)) (fun _ hk => hk.2) (.int .i64 ((rd_T43 l0 x14_1).f0))) (fun _ hk => hk.2) (.int .i64 ((rd_T43 l0 x14_1).f1))) (fun _ hk => hk.2) (.string ((rd_T43 l0 x14_1).f2))) (fun _ h_ => h_.1))) hb); have n1_ := Aside0.mk (blk_below (g := gb216) (o := .cells #[.int .i64 ((rd_T43 l0 x14_1).f0), .int .i64 ((rd_T43 l0 x14_1).f1), .string ((rd_T43 l0 x14_1).f2)] 43 (0, 0)) (by (with_reducible repeat (first | refine blk_drewN ?_ _ | refine blk_drew ?_ | refine blk_alloc ?_ _)); refine blk_put (cs := #[.int .i64 ((rd_T43 l0 x14_1).f0), .int .i64 ((rd_T43 l0 x14_1).f1), .string (⟨#[]⟩ : ByteArray)]) ?_ 2 _ rfl; (with_reducible repeat (first | refine blk_drewN ?_ _ | refine blk_drew ?_ | refine blk_alloc ?_ _)); refine blk_put (cs := #[.int .i64 ((rd_T43 l0 x14_1).f0), .int .i64 0, .string (⟨#[]⟩ : ByteArray)]) ?_ 1 _ rfl; (with_reducible repeat (first | refine blk_drewN ?_ _ | refine blk_drew ?_ | refine blk_alloc ?_ _)); refine blk_put (cs := #[.int .i64 0, .int .i64 0, .string (⟨#[]⟩ : ByteArray)]) ?_ 0 _ rfl; (with_reducible repeat (first | refine blk_drewN ?_ _ | refine blk_drew ?_ | refine blk_alloc ?_ _)); exact BK216.out) hb); have n2_ := Aside0.mk (below_step (by repeat (first | (with_reducible first | exact HB.out | apply below_alloc | apply pw_below_drewN | apply below_drew1 | refine below_set ?_ GE216.out) | exact HB.out)) hb); clear HO_5; clear BK216; clear HB; have HO_5 := n0_; have BK216 := n1_; have HB := n2_; clear n0_ n1_ n2_; (try clear hb); (try clear hb2); (try clear hk); (try clear hi); have hcz15_0 : w14.cell? ⟨gb216, 0, none⟩ = some (.int .i64 ((rd_T43 l0 x14_1).f0)) := (blk_cell BK216.out 0).trans rfl; have hcz15_1 : w14.cell? ⟨gb216, 1, none⟩ = some (.int .i64 ((rd_T43 l0 x14_1).f1)) := (blk_cell BK216.out 1).trans rfl; have hcz15_2 : w14.cell? ⟨gb216, 2, none⟩ = some (.string ((rd_T43 l0 x14_1).f2)) := (blk_cell BK216.out 2).trans rfl; have hfz15_0 := blk_frozen BK216.out 0; have hfz15_1 := blk_frozen BK216.out 1; have hfz15_2 := blk_frozen BK216.out 2) | ((with_reducible refine gate_builtin (b := .append) (xs := #[.tmp 23, .tmp 26]) rfl ?_); at_builtin; refine Kd.R_append k56 (w0 := w) w.heap.size rfl (.tmp 23) (.tmp 26) 52 56 (.agg #[(.int .i64 0), (.int .i64 0), (.int .i64 0), (.string ⟨#[]⟩)]) 40 rfl Tryd.underlying52 info56 rfl (by decide) (by omega) u5 x5_1 (⟨1, (⟨(rd_T43 l0 x14_1).f0, (rd_T43 l0 x14_1).f1, (rd_T43 l0 x14_1).f2⟩ : S43)⟩ : S56) [.int .i64 1, .int .i64 ((rd_T43 l0 x14_1).f0), .int .i64 ((rd_T43 l0 x14_1).f1), .string ((rd_T43 l0 x14_1).f2)] (fun _ => True) (fun _ => False) rfl rfl ?aP (fun _ hk => hk.elim) ?aF ?aO ?aB ?aS ?aL ?_; (case aP => exact k56_mkM _ _ _ (⟨1, (⟨(rd_T43 l0 x14_1).f0, (rd_T43 l0 x14_1).f1, (rd_T43 l0 x14_1).f2⟩ : S43)⟩ : S56)); (case aB => exact (by repeat (first | (with_reducible first | exact HB.out | apply below_alloc | apply pw_below_drewN | apply below_drew1 | refine below_set ?_ GE216.out) | exact HB.out))); (case aF => exact (fun _ _ => trivial)); (case aO => exact (by (with_reducible repeat (first | apply Kd.R_alloc | apply Kd.R_drewN | apply Kd.R_drew)); exact HO_5.out)); (case aS => exact (below_size (by repeat (first | (with_reducible first | exact HB.out | apply below_alloc | apply pw_below_drewN | apply below_drew1 | refine below_set ?_ GE216.out) | exact HB.out)))); (case aL => have := LMc11.out; omega); intro v219 w16 ho hb hg hat; rw [← Ny218.out] at ho; have n0_ := Aside0.mk (blk_grown (g := gb216) (o := .cells #[.int .i64 ((rd_T43 l0 x14_1).f0), .int .i64 ((rd_T43 l0 x14_1).f1), .string ((rd_T43 l0 x14_1).f2)] 43 (0, 0)) (by (with_reducible repeat (first | refine blk_drewN ?_ _ | refine blk_drew ?_ | refine blk_alloc ?_ _)); exact BK216.out) hg (Kd.R_ne HO_5.out BK216.out (by decide))); have n1_ := Aside0.mk (hb); have n2_ := Aside0.mk (ho); clear BK216; clear HB; clear HO_5; have BK216 := n0_; have HB := n1_; have HO220 := n2_; clear n0_ n1_ n2_; clear ho hb hg hat)); try go_wp2_with (first | ((with_reducible refine gate_dst (N := 8) rfl ?_); refine box_event ?hg (N := 8) ?hd (cs := #[.int .i64 0, .int .i64 0, .string (⟨#[]⟩ : ByteArray)]) (t := 43) ?hr ?_; (case hd => rfl); (case hg => rfl); (case hr => first | (go_simp; done) | (go_simp; rfl)); intro gb216 hg w12 hbox hb; have n0_ := Aside0.mk (Kd.R_below (by (with_reducible repeat (first | apply Kd.R_alloc | apply Kd.R_drewN | apply Kd.R_drew)); exact HO_5.out) hb); have n1_ := Aside0.mk (below_step (by repeat (first | (with_reducible first | exact HB.out | apply below_alloc | apply pw_below_drewN | apply below_drew1) | exact HB.out)) hb); have n2_ := Aside0.mk (hbox); have n3_ := Aside0.mk ((by rw [hg]; exact (below_size (by repeat (first | (with_reducible first | exact HB.out | apply below_alloc | apply pw_below_drewN | apply below_drew1) | exact HB.out))) : w.heap.size ≤ gb216)); have n4_ := Aside0.mk ((by rw [hg]; exact (below_size (by repeat (first | (with_reducible first | exact HB.out | apply below_alloc | apply pw_below_drewN | apply below_drew1) | exact HB.out))) : w.heap.size ≤ gb216)); clear HO_5; clear HB; have HO_5 := n0_; have HB := n1_; have BK216 := n2_; have GW216 := n3_; have GE216 := n4_; clear n0_ n1_ n2_ n3_ n4_; clear hb hbox hg; have hcz13_0 : w12.cell? ⟨gb216, 0, none⟩ = some (.int .i64 0) := (blk_cell BK216.out 0).trans rfl; have hcz13_1 : w12.cell? ⟨gb216, 1, none⟩ = some (.int .i64 0) := (blk_cell BK216.out 1).trans rfl; have hcz13_2 : w12.cell? ⟨gb216, 2, none⟩ = some (.string (⟨#[]⟩ : ByteArray)) := (blk_cell BK216.out 2).trans rfl; have hfz13_0 := blk_frozen BK216.out 0; have hfz13_1 := blk_frozen BK216.out 1; have hfz13_2 := blk_frozen BK216.out 2) | (go_at_call 53; (with_reducible refine (ephemerisref1_ZoneEdits_1.calls k1 _ _ l1 ((rd_T43 l0 x14_1).f0) ((rd_T43 l0 x14_1).f1) ((rd_T43 l0 x14_1).f2) false _ ?side1 ?side2 A6.out).mono ?_); (case side1 => exact Kd.C_below HR1.out (by repeat (first | (with_reducible first | exact HB.out | apply below_alloc | apply pw_below_drewN | apply below_drew1 | refine below_set ?_ GE216.out) | exact HB.out))); (case side2 => exact HC1.out); rintro e w14 ⟨rfl, hb⟩; have n0_ := Aside0.mk (Kd.R_below (by (with_reducible repeat (first | apply Kd.R_alloc | apply Kd.R_drewN | apply Kd.R_drew)); exact (Kd.R_mono (Kd.R_far (p := ⟨gb216, 2, none⟩) (Kd.R_far (p := ⟨gb216, 1, none⟩) (Kd.R_far (p := ⟨gb216, 0, none⟩) (Kd.R_types HO_5.out BK216.out (by decide)) (fun _ hk => hk.2) (.int .i64 ((rd_T43 l0 x14_1).f0))) (fun _ hk => hk.2) (.int .i64 ((rd_T43 l0 x14_1).f1))) (fun _ hk => hk.2) (.string ((rd_T43 l0 x14_1).f2))) (fun _ h_ => h_.1))) hb); have n1_ := Aside0.mk (blk_below (g := gb216) (o := .cells #[.int .i64 ((rd_T43 l0 x14_1).f0), .int .i64 ((rd_T43 l0 x14_1).f1), .string ((rd_T43 l0 x14_1).f2)] 43 (0, 0)) (by (with_reducible repeat (first | refine blk_drewN ?_ _ | refine blk_drew ?_ | refine blk_alloc ?_ _)); refine blk_put (cs := #[.int .i64 ((rd_T43 l0 x14_1).f0), .int .i64 ((rd_T43 l0 x14_1).f1), .string (⟨#[]⟩ : ByteArray)]) ?_ 2 _ rfl; (with_reducible repeat (first | refine blk_drewN ?_ _ | refine blk_drew ?_ | refine blk_alloc ?_ _)); refine blk_put (cs := #[.int .i64 ((rd_T43 l0 x14_1).f0), .int .i64 0, .string (⟨#[]⟩ : ByteArray)]) ?_ 1 _ rfl; (with_reducible repeat (first | refine blk_drewN ?_ _ | refine blk_drew ?_ | refine blk_alloc ?_ _)); refine blk_put (cs := #[.int .i64 0, .int .i64 0, .string (⟨#[]⟩ : ByteArray)]) ?_ 0 _ rfl; (with_reducible repeat (first | refine blk_drewN ?_ _ | refine blk_drew ?_ | refine blk_alloc ?_ _)); exact BK216.out) hb); have n2_ := Aside0.mk (below_step (by repeat (first | (with_reducible first | exact HB.out | apply below_alloc | apply pw_below_drewN | apply below_drew1 | refine below_set ?_ GE216.out) | exact HB.out)) hb); clear HO_5; clear BK216; clear HB; have HO_5 := n0_; have BK216 := n1_; have HB := n2_; clear n0_ n1_ n2_; (try clear hb); (try clear hb2); (try clear hk); (try clear hi); have hcz15_0 : w14.cell? ⟨gb216, 0, none⟩ = some (.int .i64 ((rd_T43 l0 x14_1).f0)) := (blk_cell BK216.out 0).trans rfl; have hcz15_1 : w14.cell? ⟨gb216, 1, none⟩ = some (.int .i64 ((rd_T43 l0 x14_1).f1)) := (blk_cell BK216.out 1).trans rfl; have hcz15_2 : w14.cell? ⟨gb216, 2, none⟩ = some (.string ((rd_T43 l0 x14_1).f2)) := (blk_cell BK216.out 2).trans rfl; have hfz15_0 := blk_frozen BK216.out 0; have hfz15_1 := blk_frozen BK216.out 1; have hfz15_2 := blk_frozen BK216.out 2) | ((with_reducible refine gate_builtin (b := .append) (xs := #[.tmp 23, .tmp 26]) rfl ?_); at_builtin; refine Kd.R_append k56 (w0 := w) w.heap.size rfl (.tmp 23) (.tmp 26) 52 56 (.agg #[(.int .i64 0), (.int .i64 0), (.int .i64 0), (.string ⟨#[]⟩)]) 40 rfl Tryd.underlying52 info56 rfl (by decide) (by omega) u5 x5_1 (⟨1, (⟨(rd_T43 l0 x14_1).f0, (rd_T43 l0 x14_1).f1, (rd_T43 l0 x14_1).f2⟩ : S43)⟩ : S56) [.int .i64 1, .int .i64 ((rd_T43 l0 x14_1).f0), .int .i64 ((rd_T43 l0 x14_1).f1), .string ((rd_T43 l0 x14_1).f2)] (fun _ => True) (fun _ => False) rfl rfl ?aP (fun _ hk => hk.elim) ?aF ?aO ?aB ?aS ?aL ?_; (case aP => exact k56_mkM _ _ _ (⟨1, (⟨(rd_T43 l0 x14_1).f0, (rd_T43 l0 x14_1).f1, (rd_T43 l0 x14_1).f2⟩ : S43)⟩ : S56)); (case aB => exact (by repeat (first | (with_reducible first | exact HB.out | apply below_alloc | apply pw_below_drewN | apply below_drew1 | refine below_set ?_ GE216.out) | exact HB.out))); (case aF => exact (fun _ _ => trivial)); (case aO => exact (by (with_reducible repeat (first | apply Kd.R_alloc | apply Kd.R_drewN | apply Kd.R_drew)); exact HO_5.out)); (case aS => exact (below_size (by repeat (first | (with_reducible first | exact HB.out | apply below_alloc | apply pw_below_drewN | apply below_drew1 | refine below_set ?_ GE216.out) | exact HB.out)))); (case aL => have := LMc11.out; omega); intro v219 w16 ho hb hg hat; rw [← Ny218.out] at ho; have n0_ := Aside0.mk (blk_grown (g := gb216) (o := .cells #[.int .i64 ((rd_T43 l0 x14_1).f0), .int .i64 ((rd_T43 l0 x14_1).f1), .string ((rd_T43 l0 x14_1).f2)] 43 (0, 0)) (by (with_reducible repeat (first | refine blk_drewN ?_ _ | refine blk_drew ?_ | refine blk_alloc ?_ _)); exact BK216.out) hg (Kd.R_ne HO_5.out BK216.out (by decide))); have n1_ := Aside0.mk (hb); have n2_ := Aside0.mk (ho); clear BK216; clear HB; clear HO_5; have BK216 := n0_; have HB := n1_; have HO220 := n2_; clear n0_ n1_ n2_; clear ho hb hg hat)))
                go_roundg k1
                case measure => have := HK1.out; omega
                case rel => exact ⟨(y218), (wrap64 (x14_1 + 1)), (by first | rfl | (simp; done) | (simp [*]; done)), H', ⟨by have := HK1.out; omega⟩, ⟨by (with_reducible repeat (first | apply Kd.R_alloc | apply Kd.R_drewN | apply Kd.R_drew)); exact HO220.out⟩, ⟨by repeat (first | (with_reducible first | exact HB.out | apply below_alloc | apply pw_below_drewN | apply below_drew1 | refine below_set ?_ GE216.out) | exact HB.out)⟩⟩
              · rw [if_neg c11] at H
                exact absurd H (by simp)
          · rw [if_neg c5] at H
            exact absurd H (by simp)
        · rw [if_neg c4] at H
          exact absurd H (by simp)
      · rw [if_neg c3] at H
        have c3b0 : decide (x14_1 < (l0.length : Int)) = false := decide_eq_false c3
        clear c3
        have H' := Aside0.mk H
        clear H
        go_wp2
        repeat (go_quiet (fail); try go_wp2)
        go_loopg [5, 31] k1 (fun kq v5 v31 w' => ∃ (x5_2 : List (S56)) (x31_2 : Int), v31 = .int .i64 x31_2 ∧ Aside0 (ephemerisref1_ZoneEdits.l1 kq l0 x5_2 l1 (l1.length : Int) x31_2 = some r) ∧ Aside0 (kq ≤ k1) ∧ Aside0 (Kd.R k56 56 w' w.heap.size (fun _ => True) v5 x5_2) ∧ Aside0 (Below w.heap.size w w'))
        case atStart => exact ⟨(x5_1), (0), (by first | rfl | (simp; done) | (simp [*]; done)), H', ⟨Nat.le_refl _⟩, ⟨by (with_reducible repeat (first | apply Kd.R_alloc | apply Kd.R_drewN | apply Kd.R_drew)); exact HO_5.out⟩, ⟨by repeat (first | (with_reducible first | exact HB.out | apply below_alloc | apply pw_below_drewN | apply below_drew1) | exact HB.out)⟩⟩
        case round =>
          clear H'
          try clear c1
          try clear c2
          try clear p2
          try clear q2
          try clear hx2
          try clear c3
          try clear c3b0
          try clear c4
          try clear c4b0
          try clear c5
          try clear c5b0
          try clear p6
          try clear c7
          try clear c11
          try clear hcz13_0
          try clear hcz13_1
          try clear hcz13_2
          try clear hcz15_0
          try clear hcz15_1
          try clear hcz15_2
          try clear hcz9_0
          try clear hcz9_1
          try clear hcz9_2
          try clear hfz13_0
          try clear hfz13_1
          try clear hfz13_2
          try clear hfz15_0
          try clear hfz15_1
          try clear hfz15_2
          try clear hfz9_0
          try clear hfz9_1
          try clear hfz9_2
          try clear hx215_0
          try clear hx215_1
          try clear hx215_2
          try clear p2
          try clear p215
          try clear q215
          obtain ⟨x5_2, x31_2, rfl, HA, HK2, HO_5, HB⟩ := hrel
          cases gk with
          | zero => exact absurd HA.out (by simp [ephemerisref1_ZoneEdits.l1])
          | succ k2 =>
            have H := HA.out
            clear HA
            simp only [ephemerisref1_ZoneEdits.l1] at H
            by_cases c17 : x31_2 < (l1.length : Int)
            · rw [if_pos c17] at H
              have c17b0 : decide (x31_2 < (l1.length : Int)) = true := decide_eq_true c17
              clear c17
              by_cases c18 : 0 ≤ x31_2
              · rw [if_pos c18] at H
                have c18b0 : decide (0 ≤ x31_2) = true := decide_eq_true c18
                clear c18
                by_cases c19 : x31_2 < (l1.length : Int)
                · rw [if_pos c19] at H
                  have c19b0 : decide (x31_2 < (l1.length : Int)) = true := decide_eq_true c19
                  clear c19
                  replace H := Option.bind_eq_some_iff.mp H
                  obtain ⟨t223, A200, H⟩ := H
                  replace H : (if t223 = true then (ephemerisref1_ZoneEdits.l1 k2 l0 x5_2 l1 (l1.length : Int) (wrap64 (x31_2 + 1))) else (ephemerisref1_ZoneEdits.l2 k2 l0 x5_2 (x5_2.length : Int) l1 (l1.length : Int) x31_2 ((rd_T43 l1 x31_2).f0) ((rd_T43 l1 x31_2).f1) ((rd_T43 l1 x31_2).f2))) = some r := H
                  have A20 := Aside0.mk A200
                  clear A200
                  by_cases c21 : t223 = true
                  · subst c21
                    have H1 : (ephemerisref1_ZoneEdits.l1 k2 l0 x5_2 l1 (l1.length : Int) (wrap64 (x31_2 + 1))) = some r := by rw [if_pos rfl] at H; exact H
                    clear H
                    have H := H1
                    clear H1
                    have H' := Aside0.mk H
                    clear H
                    have p221 : 0 ≤ (x31_2 : Int) := of_decide_eq_true (by first | (with_reducible assumption) | assumption)
                    have q221 : x31_2 < (l1.length : Int) := of_decide_eq_true (by first | (with_reducible assumption) | assumption)
                    obtain ⟨ad221, e221, hx221_0, hx221_1, hx221_2⟩ := at_T43 HR1.out x31_2 p221 q221
                    cases e221
                    replace hx221_0 := (HB.out.cell (World.block_lt_of_cell? w _ hx221_0)).trans hx221_0
                    replace hx221_1 := (HB.out.cell (World.block_lt_of_cell? w _ hx221_1)).trans hx221_1
                    replace hx221_2 := (HB.out.cell (World.block_lt_of_cell? w _ hx221_2)).trans hx221_2
                    replace p221 := eq_true p221
                    replace q221 := eq_true q221
                    go_wp2_with (first | ((with_reducible refine gate_dst (N := 10) rfl ?_); refine box_event ?hg (N := 10) ?hd (cs := #[.int .i64 0, .int .i64 0, .string (⟨#[]⟩ : ByteArray)]) (t := 43) ?hr ?_; (case hd => rfl); (case hg => rfl); (case hr => first | (go_simp; done) | (go_simp; rfl)); intro gb222 hg w22 hbox hb; have n0_ := Aside0.mk (Kd.R_below (by (with_reducible repeat (first | apply Kd.R_alloc | apply Kd.R_drewN | apply Kd.R_drew)); exact HO_5.out) hb); have n1_ := Aside0.mk (below_step (by repeat (first | (with_reducible first | exact HB.out | apply below_alloc | apply pw_below_drewN | apply below_drew1) | exact HB.out)) hb); have n2_ := Aside0.mk (hbox); have n3_ := Aside0.mk ((by rw [hg]; exact (below_size (by repeat (first | (with_reducible first | exact HB.out | apply below_alloc | apply pw_below_drewN | apply below_drew1) | exact HB.out))) : w.heap.size ≤ gb222)); have n4_ := Aside0.mk ((by rw [hg]; exact (below_size (by repeat (first | (with_reducible first | exact HB.out | apply below_alloc | apply pw_below_drewN | apply below_drew1) | exact HB.out))) : w.heap.size ≤ gb222)); clear HO_5; clear HB; have HO_5 := n0_; have HB := n1_; have BK222 := n2_; have GW222 := n3_; have GE222 := n4_; clear n0_ n1_ n2_ n3_ n4_; clear hb hbox hg; have hcz23_0 : w22.cell? ⟨gb222, 0, none⟩ = some (.int .i64 0) := (blk_cell BK222.out 0).trans rfl; have hcz23_1 : w22.cell? ⟨gb222, 1, none⟩ = some (.int .i64 0) := (blk_cell BK222.out 1).trans rfl; have hcz23_2 : w22.cell? ⟨gb222, 2, none⟩ = some (.string (⟨#[]⟩ : ByteArray)) := (blk_cell BK222.out 2).trans rfl; have hfz23_0 := blk_frozen BK222.out 0; have hfz23_1 := blk_frozen BK222.out 1; have hfz23_2 := blk_frozen BK222.out 2) | (go_at_call 53; (with_reducible refine (ephemerisref1_ZoneEdits_1.calls k2 _ _ l0 ((rd_T43 l1 x31_2).f0) ((rd_T43 l1 x31_2).f1) ((rd_T43 l1 x31_2).f2) true _ ?side1 ?side2 A20.out).mono ?_); (case side1 => exact Kd.C_below HR0.out (by repeat (first | (with_reducible first | exact HB.out | apply below_alloc | apply pw_below_drewN | apply below_drew1 | refine below_set ?_ GE222.out) | exact HB.out))); (case side2 => exact HC0.out); rintro e w24 ⟨rfl, hb⟩; have n0_ := Aside0.mk (Kd.R_below (by (with_reducible repeat (first | apply Kd.R_alloc | apply Kd.R_drewN | apply Kd.R_drew)); exact (Kd.R_mono (Kd.R_far (p := ⟨gb222, 2, none⟩) (Kd.R_far (p := ⟨gb222, 1, none⟩) (Kd.R_far (p := ⟨gb222, 0, none⟩) (Kd.R_types HO_5.out BK222.out (by decide)) (fun _ hk => hk.2) (.int .i64 ((rd_T43 l1 x31_2).f0))) (fun _ hk => hk.2) (.int .i64 ((rd_T43 l1 x31_2).f1))) (fun _ hk => hk.2) (.string ((rd_T43 l1 x31_2).f2))) (fun _ h_ => h_.1))) hb); have n1_ := Aside0.mk (blk_below (g := gb222) (o := .cells #[.int .i64 ((rd_T43 l1 x31_2).f0), .int .i64 ((rd_T43 l1 x31_2).f1), .string ((rd_T43 l1 x31_2).f2)] 43 (0, 0)) (by (with_reducible repeat (first | refine blk_drewN ?_ _ | refine blk_drew ?_ | refine blk_alloc ?_ _)); refine blk_put (cs := #[.int .i64 ((rd_T43 l1 x31_2).f0), .int .i64 ((rd_T43 l1 x31_2).f1), .string (⟨#[]⟩ : ByteArray)]) ?_ 2 _ rfl; (with_reducible repeat (first | refine blk_drewN ?_ _ | refine blk_drew ?_ | refine blk_alloc ?_ _)); refine blk_put (cs := #[.int .i64 ((rd_T43 l1 x31_2).f0), .int .i64 0, .string (⟨#[]⟩ : ByteArray)]) ?_ 1 _ rfl; (with_reducible repeat (first | refine blk_drewN ?_ _ | refine blk_drew ?_ | refine blk_alloc ?_ _)); refine blk_put (cs := #[.int .i64 0, .int .i64 0, .string (⟨#[]⟩ : ByteArray)]) ?_ 0 _ rfl; (with_reducible repeat (first | refine blk_drewN ?_ _ | refine blk_drew ?_ | refine blk_alloc ?_ _)); exact BK222.out) hb); have n2_ := Aside0.mk (below_step (by repeat (first | (with_reducible first | exact HB.out | apply below_alloc | apply pw_below_drewN | apply below_drew1 | refine below_set ?_ GE222.out) | exact HB.out)) hb); clear HO_5; clear BK222; clear HB; have HO_5 := n0_; have BK222 := n1_; have HB := n2_; clear n0_ n1_ n2_; (try clear hb); (try clear hb2); (try clear hk); (try clear hi)))
                    repeat (go_quiet (first | ((with_reducible refine gate_dst (N := 10) rfl ?_); refine box_event ?hg (N := 10) ?hd (cs := #[.int .i64 0, .int .i64 0, .string (⟨#[]⟩ : ByteArray)]) (t := 43) ?hr ?_; (case hd => rfl); (case hg => rfl); (case hr => first | (go_simp; done) | (go_simp; rfl)); intro gb222 hg w22 hbox hb; have n0_ := Aside0.mk (Kd.R_below (by (with_reducible repeat (first | apply Kd.R_alloc | apply Kd.R_drewN | apply Kd.R_drew)); exact HO_5.out) hb); have n1_ := Aside0.mk (below_step (by repeat (first | (with_reducible first | exact HB.out | apply below_alloc | apply pw_below_drewN | apply below_drew1) | exact HB.out)) hb); have n2_ := Aside0.mk (hbox); have n3_ := Aside0.mk ((by rw [hg]; exact (below_size (by repeat (first | (with_reducible first | exact HB.out | apply below_alloc | apply pw_below_drewN | apply below_drew1) | exact HB.out))) : w.heap.size ≤ gb222)); have n4_ := Aside0.mk ((by rw [hg]; exact (below_size (by repeat (first | (with_reducible first | exact HB.out | apply below_alloc | apply pw_below_drewN | apply below_drew1) | exact HB.out))) : w.heap.size ≤ gb222)); clear HO_5; clear HB; have HO_5 := n0_; have HB := n1_; have BK222 := n2_; have GW222 := n3_; have GE222 := n4_; clear n0_ n1_ n2_ n3_ n4_; clear hb hbox hg; have hcz23_0 : w22.cell? ⟨gb222, 0, none⟩ = some (.int .i64 0) := (blk_cell BK222.out 0).trans rfl; have hcz23_1 : w22.cell? ⟨gb222, 1, none⟩ = some (.int .i64 0) := (blk_cell BK222.out 1).trans rfl; have hcz23_2 : w22.cell? ⟨gb222, 2, none⟩ = some (.string (⟨#[]⟩ : ByteArray)) := (blk_cell BK222.out 2).trans rfl; have hfz23_0 := blk_frozen BK222.out 0; have hfz23_1 := blk_frozen BK222.out 1; have hfz23_2 := blk_frozen BK222.out 2) | (go_at_call 53; (with_reducible refine (ephemerisref1_ZoneEdits_1.calls k2 _ _ l0 ((rd_T43 l1 x31_2).f0) ((rd_T43 l1 x31_2).f1) ((rd_T43 l1 x31_2).f2) true _ ?side1 ?side2 A20.out).mono ?_); (case side1 => exact Kd.C_below HR0.out (by repeat (first | (with_reducible first | exact HB.out | apply below_alloc | apply pw_below_drewN | apply below_drew1 | refine below_set ?_ GE222.out) | exact HB.out))); (case side2 => exact HC0.out); rintro e w24 ⟨rfl, hb⟩; have n0_ := Aside0.mk (Kd.R_below (by (with_reducible repeat (first | apply Kd.R_alloc | apply Kd.R_drewN | apply Kd.R_drew)); exact (Kd.R_mono (Kd.R_far (p := ⟨gb222, 2, none⟩) (Kd.R_far (p := ⟨gb222, 1, none⟩) (Kd.R_far (p := ⟨gb222, 0, none⟩) (Kd.R_types HO_5.out BK222.out (by decide)) (fun _ hk => hk.2) (.int .i64 ((rd_T43 l1 x31_2).f0))) (fun _ hk => hk.2) (.int .i64 ((rd_T43 l1 x31_2).f1))) (fun _ hk => hk.2) (.string ((rd_T43 l1 x31_2).f2))) (fun _ h_ => h_.1))) hb); have n1_ := Aside0.mk (blk_below (g := gb222) (o := .cells #[.int .i64 ((rd_T43 l1 x31_2).f0), .int .i64 ((rd_T43 l1 x31_2).f1), .string ((rd_T43 l1 x31_2).f2)] 43 (0, 0)) (by (with_reducible repeat (first | refine blk_drewN ?_ _ | refine blk_drew ?_ | refine blk_alloc ?_ _)); refine blk_put (cs := #[.int .i64 ((rd_T43 l1 x31_2).f0), .int .i64 ((rd_T43 l1 x31_2).f1), .string (⟨#[]⟩ : ByteArray)]) ?_ 2 _ rfl; (with_reducible repeat (first | refine blk_drewN ?_ _ | refine blk_drew ?_ | refine blk_alloc ?_ _)); refine blk_put (cs := #[.int .i64 ((rd_T43 l1 x31_2).f0), .int .i64 0, .string (⟨#[]⟩ : ByteArray)]) ?_ 1 _ rfl; (with_reducible repeat (first | refine blk_drewN ?_ _ | refine blk_drew ?_ | refine blk_alloc ?_ _)); refine blk_put (cs := #[.int .i64 0, .int .i64 0, .string (⟨#[]⟩ : ByteArray)]) ?_ 0 _ rfl; (with_reducible repeat (first | refine blk_drewN ?_ _ | refine blk_drew ?_ | refine blk_alloc ?_ _)); exact BK222.out) hb); have n2_ := Aside0.mk (below_step (by repeat (first | (with_reducible first | exact HB.out | apply below_alloc | apply pw_below_drewN | apply below_drew1 | refine below_set ?_ GE222.out) | exact HB.out)) hb); clear HO_5; clear BK222; clear HB; have HO_5 := n0_; have BK222 := n1_; have HB := n2_; clear n0_ n1_ n2_; (try clear hb); (try clear hb2); (try clear hk); (try clear hi))); try go_wp2_with (first | ((with_reducible refine gate_dst (N := 10) rfl ?_); refine box_event ?hg (N := 10) ?hd (cs := #[.int .i64 0, .int .i64 0, .string (⟨#[]⟩ : ByteArray)]) (t := 43) ?hr ?_; (case hd => rfl); (case hg => rfl); (case hr => first | (go_simp; done) | (go_simp; rfl)); intro gb222 hg w22 hbox hb; have n0_ := Aside0.mk (Kd.R_below (by (with_reducible repeat (first | apply Kd.R_alloc | apply Kd.R_drewN | apply Kd.R_drew)); exact HO_5.out) hb); have n1_ := Aside0.mk (below_step (by repeat (first | (with_reducible first | exact HB.out | apply below_alloc | apply pw_below_drewN | apply below_drew1) | exact HB.out)) hb); have n2_ := Aside0.mk (hbox); have n3_ := Aside0.mk ((by rw [hg]; exact (below_size (by repeat (first | (with_reducible first | exact HB.out | apply below_alloc | apply pw_below_drewN | apply below_drew1) | exact HB.out))) : w.heap.size ≤ gb222)); have n4_ := Aside0.mk ((by rw [hg]; exact (below_size (by repeat (first | (with_reducible first | exact HB.out | apply below_alloc | apply pw_below_drewN | apply below_drew1) | exact HB.out))) : w.heap.size ≤ gb222)); clear HO_5; clear HB; have HO_5 := n0_; have HB := n1_; have BK222 := n2_; have GW222 := n3_; have GE222 := n4_; clear n0_ n1_ n2_ n3_ n4_; clear hb hbox hg; have hcz23_0 : w22.cell? ⟨gb222, 0, none⟩ = some (.int .i64 0) := (blk_cell BK222.out 0).trans rfl; have hcz23_1 : w22.cell? ⟨gb222, 1, none⟩ = some (.int .i64 0) := (blk_cell BK222.out 1).trans rfl; have hcz23_2 : w22.cell? ⟨gb222, 2, none⟩ = some (.string (⟨#[]⟩ : ByteArray)) := (blk_cell BK222.out 2).trans rfl; have hfz23_0 := blk_frozen BK222.out 0; have hfz23_1 := blk_frozen BK222.out 1; have hfz23_2 := blk_frozen BK222.out 2) | (go_at_call 53; (with_reducible refine (ephemerisref1_ZoneEdits_1.calls k2 _ _ l0 ((rd_T43 l1 x31_2).f0) ((rd_T43 l1 x31_2).f1) ((rd_T43 l1 x31_2).f2) true _ ?side1 ?side2 A20.out).mono ?_); (case side1 => exact Kd.C_below HR0.out (by repeat (first | (with_reducible first | exact HB.out | apply below_alloc | apply pw_below_drewN | apply below_drew1 | refine below_set ?_ GE222.out) | exact HB.out))); (case side2 => exact HC0.out); rintro e w24 ⟨rfl, hb⟩; have n0_ := Aside0.mk (Kd.R_below (by (with_reducible repeat (first | apply Kd.R_alloc | apply Kd.R_drewN | apply Kd.R_drew)); exact (Kd.R_mono (Kd.R_far (p := ⟨gb222, 2, none⟩) (Kd.R_far (p := ⟨gb222, 1, none⟩) (Kd.R_far (p := ⟨gb222, 0, none⟩) (Kd.R_types HO_5.out BK222.out (by decide)) (fun _ hk => hk.2) (.int .i64 ((rd_T43 l1 x31_2).f0))) (fun _ hk => hk.2) (.int .i64 ((rd_T43 l1 x31_2).f1))) (fun _ hk => hk.2) (.string ((rd_T43 l1 x31_2).f2))) (fun _ h_ => h_.1))) hb); have n1_ := Aside0.mk (blk_below (g := gb222) (o := .cells #[.int .i64 ((rd_T43 l1 x31_2).f0), .int .i64 ((rd_T43 l1 x31_2).f1), .string ((rd_T43 l1 x31_2).f2)] 43 (0, 0)) (by (with_reducible repeat (first | refine blk_drewN ?_ _ | refine blk_drew ?_ | refine blk_alloc ?_ _)); refine blk_put (cs := #[.int .i64 ((rd_T43 l1 x31_2).f0), .int .i64 ((rd_T43 l1 x31_2).f1), .string (⟨#[]⟩ : ByteArray)]) ?_ 2 _ rfl; (with_reducible repeat (first | refine blk_drewN ?_ _ | refine blk_drew ?_ | refine blk_alloc ?_ _)); refine blk_put (cs := #[.int .i64 ((rd_T43 l1 x31_2).f0), .int .i64 0, .string (⟨#[]⟩ : ByteArray)]) ?_ 1 _ rfl; (with_reducible repeat (first | refine blk_drewN ?_ _ | refine blk_drew ?_ | refine blk_alloc ?_ _)); refine blk_put (cs := #[.int .i64 0, .int .i64 0, .string (⟨#[]⟩ : ByteArray)]) ?_ 0 _ rfl; (with_reducible repeat (first | refine blk_drewN ?_ _ | refine blk_drew ?_ | refine blk_alloc ?_ _)); exact BK222.out) hb); have n2_ := Aside0.mk (below_step (by repeat (first | (with_reducible first | exact HB.out | apply below_alloc | apply pw_below_drewN | apply below_drew1 | refine below_set ?_ GE222.out) | exact HB.out)) hb); clear HO_5; clear BK222; clear HB; have HO_5 := n0_; have BK222 := n1_; have HB := n2_; clear n0_ n1_ n2_; (try clear hb); (try clear hb2); (try clear hk); (try clear hi))))
                    go_roundg k2
                    case measure => have := HK1.out; have := HK2.out; omega
                    case rel => exact ⟨(x5_2), (wrap64 (x31_2 + 1)), (by first | rfl | (simp; done) | (simp [*]; done)), H', ⟨by have := HK1.out; have := HK2.out; omega⟩, ⟨by (with_reducible repeat (first | apply Kd.R_alloc | apply Kd.R_drewN | apply Kd.R_drew)); exact HO_5.out⟩, ⟨by repeat (first | (with_reducible first | exact HB.out | apply below_alloc | apply pw_below_drewN | apply below_drew1 | refine below_set ?_ GE222.out) | exact HB.out)⟩⟩
                  · replace c21 := Bool.eq_false_iff.mpr c21
                    subst c21
                    have H1 : (ephemerisref1_ZoneEdits.l2 k2 l0 x5_2 (x5_2.length : Int) l1 (l1.length : Int) x31_2 ((rd_T43 l1 x31_2).f0) ((rd_T43 l1 x31_2).f1) ((rd_T43 l1 x31_2).f2)) = some r := by rw [if_neg (show ¬ (false = true) by decide)] at H; exact H
                    clear H
                    have H := H1
                    clear H1
                    have H' := Aside0.mk H
                    clear H
                    have p221 : 0 ≤ (x31_2 : Int) := of_decide_eq_true (by first | (with_reducible assumption) | assumption)
                    have q221 : x31_2 < (l1.length : Int) := of_decide_eq_true (by first | (with_reducible assumption) | assumption)
                    obtain ⟨ad221, e221, hx221_0, hx221_1, hx221_2⟩ := at_T43 HR1.out x31_2 p221 q221
                    cases e221
                    replace hx221_0 := (HB.out.cell (World.block_lt_of_cell? w _ hx221_0)).trans hx221_0
                    replace hx221_1 := (HB.out.cell (World.block_lt_of_cell? w _ hx221_1)).trans hx221_1
                    replace hx221_2 := (HB.out.cell (World.block_lt_of_cell? w _ hx221_2)).trans hx221_2
                    replace p221 := eq_true p221
                    replace q221 := eq_true q221
                    go_wp2_with (first | ((with_reducible refine gate_dst (N := 10) rfl ?_); refine box_event ?hg (N := 10) ?hd (cs := #[.int .i64 0, .int .i64 0, .string (⟨#[]⟩ : ByteArray)]) (t := 43) ?hr ?_; (case hd => rfl); (case hg => rfl); (case hr => first | (go_simp; done) | (go_simp; rfl)); intro gb222 hg w25 hbox hb; have n0_ := Aside0.mk (Kd.R_below (by (with_reducible repeat (first | apply Kd.R_alloc | apply Kd.R_drewN | apply Kd.R_drew)); exact HO_5.out) hb); have n1_ := Aside0.mk (below_step (by repeat (first | (with_reducible first | exact HB.out | apply below_alloc | apply pw_below_drewN | apply below_drew1) | exact HB.out)) hb); have n2_ := Aside0.mk (hbox); have n3_ := Aside0.mk ((by rw [hg]; exact (below_size (by repeat (first | (with_reducible first | exact HB.out | apply below_alloc | apply pw_below_drewN | apply below_drew1) | exact HB.out))) : w.heap.size ≤ gb222)); have n4_ := Aside0.mk ((by rw [hg]; exact (below_size (by repeat (first | (with_reducible first | exact HB.out | apply below_alloc | apply pw_below_drewN | apply below_drew1) | exact HB.out))) : w.heap.size ≤ gb222)); clear HO_5; clear HB; have HO_5 := n0_; have HB := n1_; have BK222 := n2_; have GW222 := n3_; have GE222 := n4_; clear n0_ n1_ n2_ n3_ n4_; clear hb hbox hg; have hcz26_0 : w25.cell? ⟨gb222, 0, none⟩ = some (.int .i64 0) := (blk_cell BK222.out 0).trans rfl; have hcz26_1 : w25.cell? ⟨gb222, 1, none⟩ = some (.int .i64 0) := (blk_cell BK222.out 1).trans rfl; have hcz26_2 : w25.cell? ⟨gb222, 2, none⟩ = some (.string (⟨#[]⟩ : ByteArray)) := (blk_cell BK222.out 2).trans rfl; have hfz26_0 := blk_frozen BK222.out 0; have hfz26_1 := blk_frozen BK222.out 1; have hfz26_2 := blk_frozen BK222.out 2) | (go_at_call 53; (with_reducible refine (ephemerisref1_ZoneEdits_1.calls k2 _ _ l0 ((rd_T43 l1 x31_2).f0) ((rd_T43 l1 x31_2).f1) ((rd_T43 l1 x31_2).f2) false _ ?side1 ?side2 A20.out).mono ?_); (case side1 => exact Kd.C_below HR0.out (by repeat (first | (with_reducible first | exact HB.out | apply below_alloc | apply pw_below_drewN | apply below_drew1 | refine below_set ?_ GE222.out) | exact HB.out))); (case side2 => exact HC0.out); rintro e w27 ⟨rfl, hb⟩; have n0_ := Aside0.mk (Kd.R_below (by (with_reducible repeat (first | apply Kd.R_alloc | apply Kd.R_drewN | apply Kd.R_drew)); exact (Kd.R_mono (Kd.R_far (p := ⟨gb222, 2, none⟩) (Kd.R_far (p := ⟨gb222, 1, none⟩) (Kd.R_far (p := ⟨gb222, 0, none⟩) (Kd.R_types HO_5.out BK222.out (by decide)) (fun _ hk => hk.2) (.int .i64 ((rd_T43 l1 x31_2).f0))) (fun _ hk => hk.2) (.int .i64 ((rd_T43 l1 x31_2).f1))) (fun _ hk => hk.2) (.string ((rd_T43 l1 x31_2).f2))) (fun _ h_ => h_.1))) hb); have n1_ := Aside0.mk (blk_below (g := gb222) (o := .cells #[.int .i64 ((rd_T43 l1 x31_2).f0), .int .i64 ((rd_T43 l1 x31_2).f1), .string ((rd_T43 l1 x31_2).f2)] 43 (0, 0)) (by (with_reducible repeat (first | refine blk_drewN ?_ _ | refine blk_drew ?_ | refine blk_alloc ?_ _)); refine blk_put (cs := #[.int .i64 ((rd_T43 l1 x31_2).f0), .int .i64 ((rd_T43 l1 x31_2).f1), .string (⟨#[]⟩ : ByteArray)]) ?_ 2 _ rfl; (with_reducible repeat (first | refine blk_drewN ?_ _ | refine blk_drew ?_ | refine blk_alloc ?_ _)); refine blk_put (cs := #[.int .i64 ((rd_T43 l1 x31_2).f0), .int .i64 0, .string (⟨#[]⟩ : ByteArray)]) ?_ 1 _ rfl; (with_reducible repeat (first | refine blk_drewN ?_ _ | refine blk_drew ?_ | refine blk_alloc ?_ _)); refine blk_put (cs := #[.int .i64 0, .int .i64 0, .string (⟨#[]⟩ : ByteArray)]) ?_ 0 _ rfl; (with_reducible repeat (first | refine blk_drewN ?_ _ | refine blk_drew ?_ | refine blk_alloc ?_ _)); exact BK222.out) hb); have n2_ := Aside0.mk (below_step (by repeat (first | (with_reducible first | exact HB.out | apply below_alloc | apply pw_below_drewN | apply below_drew1 | refine below_set ?_ GE222.out) | exact HB.out)) hb); clear HO_5; clear BK222; clear HB; have HO_5 := n0_; have BK222 := n1_; have HB := n2_; clear n0_ n1_ n2_; (try clear hb); (try clear hb2); (try clear hk); (try clear hi); obtain ⟨Ao28, co28, eo28⟩ := Kd.R_slice HO_5.out; subst eo28))
                    repeat (go_quiet (first | ((with_reducible refine gate_dst (N := 10) rfl ?_); refine box_event ?hg (N := 10) ?hd (cs := #[.int .i64 0, .int .i64 0, .string (⟨#[]⟩ : ByteArray)]) (t := 43) ?hr ?_; (case hd => rfl); (case hg => rfl); (case hr => first | (go_simp; done) | (go_simp; rfl)); intro gb222 hg w25 hbox hb; have n0_ := Aside0.mk (Kd.R_below (by (with_reducible repeat (first | apply Kd.R_alloc | apply Kd.R_drewN | apply Kd.R_drew)); exact HO_5.out) hb); have n1_ := Aside0.mk (below_step (by repeat (first | (with_reducible first | exact HB.out | apply below_alloc | apply pw_below_drewN | apply below_drew1) | exact HB.out)) hb); have n2_ := Aside0.mk (hbox); have n3_ := Aside0.mk ((by rw [hg]; exact (below_size (by repeat (first | (with_reducible first | exact HB.out | apply below_alloc | apply pw_below_drewN | apply below_drew1) | exact HB.out))) : w.heap.size ≤ gb222)); have n4_ := Aside0.mk ((by rw [hg]; exact (below_size (by repeat (first | (with_reducible first | exact HB.out | apply below_alloc | apply pw_below_drewN | apply below_drew1) | exact HB.out))) : w.heap.size ≤ gb222)); clear HO_5; clear HB; have HO_5 := n0_; have HB := n1_; have BK222 := n2_; have GW222 := n3_; have GE222 := n4_; clear n0_ n1_ n2_ n3_ n4_; clear hb hbox hg; have hcz26_0 : w25.cell? ⟨gb222, 0, none⟩ = some (.int .i64 0) := (blk_cell BK222.out 0).trans rfl; have hcz26_1 : w25.cell? ⟨gb222, 1, none⟩ = some (.int .i64 0) := (blk_cell BK222.out 1).trans rfl; have hcz26_2 : w25.cell? ⟨gb222, 2, none⟩ = some (.string (⟨#[]⟩ : ByteArray)) := (blk_cell BK222.out 2).trans rfl; have hfz26_0 := blk_frozen BK222.out 0; have hfz26_1 := blk_frozen BK222.out 1; have hfz26_2 := blk_frozen BK222.out 2) | (go_at_call 53; (with_reducible refine (ephemerisref1_ZoneEdits_1.calls k2 _ _ l0 ((rd_T43 l1 x31_2).f0) ((rd_T43 l1 x31_2).f1) ((rd_T43 l1 x31_2).f2) false _ ?side1 ?side2 A20.out).mono ?_); (case side1 => exact Kd.C_below HR0.out (by repeat (first | (with_reducible first | exact HB.out | apply below_alloc | apply pw_below_drewN | apply below_drew1 | refine below_set ?_ GE222.out) | exact HB.out))); (case side2 => exact HC0.out); rintro e w27 ⟨rfl, hb⟩; have n0_ := Aside0.mk (Kd.R_below (by (with_reducible repeat (first | apply Kd.R_alloc | apply Kd.R_drewN | apply Kd.R_drew)); exact (Kd.R_mono (Kd.R_far (p := ⟨gb222, 2, none⟩) (Kd.R_far (p := ⟨gb222, 1, none⟩) (Kd.R_far (p := ⟨gb222, 0, none⟩) (Kd.R_types HO_5.out BK222.out (by decide)) (fun _ hk => hk.2) (.int .i64 ((rd_T43 l1 x31_2).f0))) (fun _ hk => hk.2) (.int .i64 ((rd_T43 l1 x31_2).f1))) (fun _ hk => hk.2) (.string ((rd_T43 l1 x31_2).f2))) (fun _ h_ => h_.1))) hb); have n1_ := Aside0.mk (blk_below (g := gb222) (o := .cells #[.int .i64 ((rd_T43 l1 x31_2).f0), .int .i64 ((rd_T43 l1 x31_2).f1), .string ((rd_T43 l1 x31_2).f2)] 43 (0, 0)) (by (with_reducible repeat (first | refine blk_drewN ?_ _ | refine blk_drew ?_ | refine blk_alloc ?_ _)); refine blk_put (cs := #[.int .i64 ((rd_T43 l1 x31_2).f0), .int .i64 ((rd_T43 l1 x31_2).f1), .string (⟨#[]⟩ : ByteArray)]) ?_ 2 _ rfl; (with_reducible repeat (first | refine blk_drewN ?_ _ | refine blk_drew ?_ | refine blk_alloc ?_ _)); refine blk_put (cs := #[.int .i64 ((rd_T43 l1 x31_2).f0), .int .i64 0, .string (⟨#[]⟩ : ByteArray)]) ?_ 1 _ rfl; (with_reducible repeat (first | refine blk_drewN ?_ _ | refine blk_drew ?_ | refine blk_alloc ?_ _)); refine blk_put (cs := #[.int .i64 0, .int .i64 0, .string (⟨#[]⟩ : ByteArray)]) ?_ 0 _ rfl; (with_reducible repeat (first | refine blk_drewN ?_ _ | refine blk_drew ?_ | refine blk_alloc ?_ _)); exact BK222.out) hb); have n2_ := Aside0.mk (below_step (by repeat (first | (with_reducible first | exact HB.out | apply below_alloc | apply pw_below_drewN | apply below_drew1 | refine below_set ?_ GE222.out) | exact HB.out)) hb); clear HO_5; clear BK222; clear HB; have HO_5 := n0_; have BK222 := n1_; have HB := n2_; clear n0_ n1_ n2_; (try clear hb); (try clear hb2); (try clear hk); (try clear hi); obtain ⟨Ao28, co28, eo28⟩ := Kd.R_slice HO_5.out; subst eo28)); try go_wp2_with (first | ((with_reducible refine gate_dst (N := 10) rfl ?_); refine box_event ?hg (N := 10) ?hd (cs := #[.int .i64 0, .int .i64 0, .string (⟨#[]⟩ : ByteArray)]) (t := 43) ?hr ?_; (case hd => rfl); (case hg => rfl); (case hr => first | (go_simp; done) | (go_simp; rfl)); intro gb222 hg w25 hbox hb; have n0_ := Aside0.mk (Kd.R_below (by (with_reducible repeat (first | apply Kd.R_alloc | apply Kd.R_drewN | apply Kd.R_drew)); exact HO_5.out) hb); have n1_ := Aside0.mk (below_step (by repeat (first | (with_reducible first | exact HB.out | apply below_alloc | apply pw_below_drewN | apply below_drew1) | exact HB.out)) hb); have n2_ := Aside0.mk (hbox); have n3_ := Aside0.mk ((by rw [hg]; exact (below_size (by repeat (first | (with_reducible first | exact HB.out | apply below_alloc | apply pw_below_drewN | apply below_drew1) | exact HB.out))) : w.heap.size ≤ gb222)); have n4_ := Aside0.mk ((by rw [hg]; exact (below_size (by repeat (first | (with_reducible first | exact HB.out | apply below_alloc | apply pw_below_drewN | apply below_drew1) | exact HB.out))) : w.heap.size ≤ gb222)); clear HO_5; clear HB; have HO_5 := n0_; have HB := n1_; have BK222 := n2_; have GW222 := n3_; have GE222 := n4_; clear n0_ n1_ n2_ n3_ n4_; clear hb hbox hg; have hcz26_0 : w25.cell? ⟨gb222, 0, none⟩ = some (.int .i64 0) := (blk_cell BK222.out 0).trans rfl; have hcz26_1 : w25.cell? ⟨gb222, 1, none⟩ = some (.int .i64 0) := (blk_cell BK222.out 1).trans rfl; have hcz26_2 : w25.cell? ⟨gb222, 2, none⟩ = some (.string (⟨#[]⟩ : ByteArray)) := (blk_cell BK222.out 2).trans rfl; have hfz26_0 := blk_frozen BK222.out 0; have hfz26_1 := blk_frozen BK222.out 1; have hfz26_2 := blk_frozen BK222.out 2) | (go_at_call 53; (with_reducible refine (ephemerisref1_ZoneEdits_1.calls k2 _ _ l0 ((rd_T43 l1 x31_2).f0) ((rd_T43 l1 x31_2).f1) ((rd_T43 l1 x31_2).f2) false _ ?side1 ?side2 A20.out).mono ?_); (case side1 => exact Kd.C_below HR0.out (by repeat (first | (with_reducible first | exact HB.out | apply below_alloc | apply pw_below_drewN | apply below_drew1 | refine below_set ?_ GE222.out) | exact HB.out))); (case side2 => exact HC0.out); rintro e w27 ⟨rfl, hb⟩; have n0_ := Aside0.mk (Kd.R_below (by (with_reducible repeat (first | apply Kd.R_alloc | apply Kd.R_drewN | apply Kd.R_drew)); exact (Kd.R_mono (Kd.R_far (p := ⟨gb222, 2, none⟩) (Kd.R_far (p := ⟨gb222, 1, none⟩) (Kd.R_far (p := ⟨gb222, 0, none⟩) (Kd.R_types HO_5.out BK222.out (by decide)) (fun _ hk => hk.2) (.int .i64 ((rd_T43 l1 x31_2).f0))) (fun _ hk => hk.2) (.int .i64 ((rd_T43 l1 x31_2).f1))) (fun _ hk => hk.2) (.string ((rd_T43 l1 x31_2).f2))) (fun _ h_ => h_.1))) hb); have n1_ := Aside0.mk (blk_below (g := gb222) (o := .cells #[.int .i64 ((rd_T43 l1 x31_2).f0), .int .i64 ((rd_T43 l1 x31_2).f1), .string ((rd_T43 l1 x31_2).f2)] 43 (0, 0)) (by (with_reducible repeat (first | refine blk_drewN ?_ _ | refine blk_drew ?_ | refine blk_alloc ?_ _)); refine blk_put (cs := #[.int .i64 ((rd_T43 l1 x31_2).f0), .int .i64 ((rd_T43 l1 x31_2).f1), .string (⟨#[]⟩ : ByteArray)]) ?_ 2 _ rfl; (with_reducible repeat (first | refine blk_drewN ?_ _ | refine blk_drew ?_ | refine blk_alloc ?_ _)); refine blk_put (cs := #[.int .i64 ((rd_T43 l1 x31_2).f0), .int .i64 0, .string (⟨#[]⟩ : ByteArray)]) ?_ 1 _ rfl; (with_reducible repeat (first | refine blk_drewN ?_ _ | refine blk_drew ?_ | refine blk_alloc ?_ _)); refine blk_put (cs := #[.int .i64 0, .int .i64 0, .string (⟨#[]⟩ : ByteArray)]) ?_ 0 _ rfl; (with_reducible repeat (first | refine blk_drewN ?_ _ | refine blk_drew ?_ | refine blk_alloc ?_ _)); exact BK222.out) hb); have n2_ := Aside0.mk (below_step (by repeat (first | (with_reducible first | exact HB.out | apply below_alloc | apply pw_below_drewN | apply below_drew1 | refine below_set ?_ GE222.out) | exact HB.out)) hb); clear HO_5; clear BK222; clear HB; have HO_5 := n0_; have BK222 := n1_; have HB := n2_; clear n0_ n1_ n2_; (try clear hb); (try clear hb2); (try clear hk); (try clear hi); obtain ⟨Ao28, co28, eo28⟩ := Kd.R_slice HO_5.out; subst eo28)))
                    go_loopg [11] k2 (fun kq v11 w' => ∃ (x11_3 : Int), v11 = .int .i64 x11_3 ∧ Aside0 (ephemerisref1_ZoneEdits.l2 kq l0 x5_2 x11_3 l1 (l1.length : Int) x31_2 ((rd_T43 l1 x31_2).f0) ((rd_T43 l1 x31_2).f1) ((rd_T43 l1 x31_2).f2) = some r) ∧ Aside0 (kq ≤ k2) ∧ Aside0 (Kd.R k56 56 w' w.heap.size (fun _ => True) (.slice Ao28 x5_2.length co28) x5_2) ∧ Aside0 (w'.heap[gb222]? = some (.cells #[.int .i64 ((rd_T43 l1 x31_2).f0), .int .i64 ((rd_T43 l1 x31_2).f1), .string ((rd_T43 l1 x31_2).f2)] 43 (0, 0))) ∧ Aside0 (Below w.heap.size w w'))
                    case atStart => exact ⟨((x5_2.length : Int)), (by first | rfl | (simp; done) | (simp [*]; done)), H', ⟨Nat.le_refl _⟩, ⟨by (with_reducible repeat (first | apply Kd.R_alloc | apply Kd.R_drewN | apply Kd.R_drew)); exact HO_5.out⟩, ⟨by (with_reducible repeat (first | refine blk_drewN ?_ _ | refine blk_drew ?_ | refine blk_alloc ?_ _)); exact BK222.out⟩, ⟨by repeat (first | (with_reducible first | exact HB.out | apply below_alloc | apply pw_below_drewN | apply below_drew1 | refine below_set ?_ GE222.out) | exact HB.out)⟩⟩
                    case round =>
                      clear H'
                      try clear c1
                      try clear c2
                      try clear p2
                      try clear q2
                      try clear hx2
                      try clear c3
                      try clear c3b0
                      try clear c4
                      try clear c4b0
                      try clear c5
                      try clear c5b0
                      try clear p6
                      try clear c7
                      try clear c11
                      try clear c17
                      try clear c17b0
                      try clear c18
                      try clear c18b0
                      try clear c19
                      try clear c19b0
                      try clear c21
                      try clear p21
                      try clear q21
                      try clear hx21
                      try clear p22
                      try clear q22
                      try clear hx22
                      try clear c27
                      try clear hcz13_0
                      try clear hcz13_1
                      try clear hcz13_2
                      try clear hcz15_0
                      try clear hcz15_1
                      try clear hcz15_2
                      try clear hcz23_0
                      try clear hcz23_1
                      try clear hcz23_2
                      try clear hcz26_0
                      try clear hcz26_1
                      try clear hcz26_2
                      try clear hcz9_0
                      try clear hcz9_1
                      try clear hcz9_2
                      try clear hfz13_0
                      try clear hfz13_1
                      try clear hfz13_2
                      try clear hfz15_0
                      try clear hfz15_1
                      try clear hfz15_2
                      try clear hfz23_0
                      try clear hfz23_1
                      try clear hfz23_2
                      try clear hfz26_0
                      try clear hfz26_1
                      try clear hfz26_2
                      try clear hfz9_0
                      try clear hfz9_1
                      try clear hfz9_2
                      try clear hx215_0
                      try clear hx215_1
                      try clear hx215_2
                      try clear hx221_0
                      try clear hx221_1
                      try clear hx221_2
                      try clear p2
                      try clear p215
                      try clear p221
                      try clear p6
                      try clear q2
                      try clear q215
                      try clear q221
                      obtain ⟨x11_3, rfl, HA, HK3, HO_5, BK222, HB⟩ := hrel
                      cases gk with
                      | zero => exact absurd HA.out (by simp [ephemerisref1_ZoneEdits.l2])
                      | succ k3 =>
                        have H := HA.out
                        clear HA
                        simp only [ephemerisref1_ZoneEdits.l2] at H
                        by_cases c29 : x11_3 > 0
                        · rw [if_pos c29] at H
                          have c29b0 : decide (0 < x11_3) = true := decide_eq_true c29
                          clear c29
                          obtain ⟨ji30, hji30⟩ : ∃ j_ : Int, (wrap64 (x11_3 - 1)) = j_ := ⟨_, rfl⟩
                          replace H : (if 0 ≤ (ji30) then (if (ji30) < (x5_2.length : Int) then (if ((rd_T56 x5_2 (ji30)).f1.f0) > ((rd_T43 l1 x31_2).f0) then (ephemerisref1_ZoneEdits.l2 k3 l0 x5_2 ji30 l1 (l1.length : Int) x31_2 ((rd_T43 l1 x31_2).f0) ((rd_T43 l1 x31_2).f1) ((rd_T43 l1 x31_2).f2)) else (if x5_2.length < 3518437208883 then ((runtime_boundsError_RuntimeError.f (x5_2 ++ [(⟨0, (⟨0, 0, (⟨#[]⟩ : ByteArray)⟩ : S43)⟩ : S56)]) x11_3).bind fun t228 => (if 0 ≤ x11_3 then (if x11_3 < (t228.length : Int) then (ephemerisref1_ZoneEdits.l1 k3 l0 (t228.set (x11_3 : Int).toNat (⟨2, (⟨((rd_T43 l1 x31_2).f0), ((rd_T43 l1 x31_2).f1), ((rd_T43 l1 x31_2).f2)⟩ : S43)⟩ : S56)) l1 (l1.length : Int) (wrap64 (x31_2 + 1))) else (none)) else (none))) else (none))) else (none)) else (none)) = some r := by first | (rw [hji30] at H; exact H) | (simp only [hji30] at H ⊢; exact H)
                          have hji30w : (IntKind.i64.wrap (x11_3 - 1)) = ji30 := (i64_w _).trans hji30
                          by_cases c31 : 0 ≤ (ji30)
                          · rw [if_pos c31] at H
                            have c31b0 : decide (0 ≤ (ji30)) = true := decide_eq_true c31
                            clear c31
                            by_cases c32 : (ji30) < (x5_2.length : Int)
                            · rw [if_pos c32] at H
                              have c32b0 : decide ((ji30) < (x5_2.length : Int)) = true := decide_eq_true c32
                              clear c32
                              by_cases c33 : ((rd_T56 x5_2 (ji30)).f1.f0) > ((rd_T43 l1 x31_2).f0)
                              · rw [if_pos c33] at H
                                have c33b0 : decide (((rd_T43 l1 x31_2).f0) < ((rd_T56 x5_2 (ji30)).f1.f0)) = true := decide_eq_true c33
                                clear c33
                                have H' := Aside0.mk H
                                clear H
                                have p224 : 0 ≤ ((ji30) : Int) := of_decide_eq_true (by first | (with_reducible assumption) | assumption)
                                have q224 : (ji30) < (x5_2.length : Int) := of_decide_eq_true (by first | (with_reducible assumption) | assumption)
                                obtain ⟨ad224, e224, hx224_0, hx224_1, hx224_2, hx224_3⟩ := at_T56 (Kd.R_reads' HO_5.out).2.2 (ji30) p224 q224
                                cases e224
                                replace p224 := eq_true p224
                                replace q224 := eq_true q224
                                have hcz34_0 : wr.cell? ⟨gb222, 0, none⟩ = some (.int .i64 ((rd_T43 l1 x31_2).f0)) := (blk_cell BK222.out 0).trans rfl
                                have hcz34_1 : wr.cell? ⟨gb222, 1, none⟩ = some (.int .i64 ((rd_T43 l1 x31_2).f1)) := (blk_cell BK222.out 1).trans rfl
                                have hcz34_2 : wr.cell? ⟨gb222, 2, none⟩ = some (.string ((rd_T43 l1 x31_2).f2)) := (blk_cell BK222.out 2).trans rfl
                                have hfz34_0 := blk_frozen BK222.out 0
                                have hfz34_1 := blk_frozen BK222.out 1
                                have hfz34_2 := blk_frozen BK222.out 2
                                go_wp2
                                repeat (go_quiet (fail); try go_wp2)
                                go_roundg k3
                                case measure => have := HK1.out; have := HK2.out; have := HK3.out; omega
                                case rel => exact ⟨(ji30), (by first | rfl | (simp; done) | (simp only [← hji30] <;> (first | rfl | simp)) | (simp [*]; done)), H', ⟨by have := HK1.out; have := HK2.out; have := HK3.out; omega⟩, ⟨by (with_reducible repeat (first | apply Kd.R_alloc | apply Kd.R_drewN | apply Kd.R_drew)); exact HO_5.out⟩, ⟨by (with_reducible repeat (first | refine blk_drewN ?_ _ | refine blk_drew ?_ | refine blk_alloc ?_ _)); exact BK222.out⟩, ⟨by repeat (first | (with_reducible first | exact HB.out | apply below_alloc | apply pw_below_drewN | apply below_drew1 | refine below_set ?_ GE222.out) | exact HB.out)⟩⟩
                              · rw [if_neg c33] at H
                                have c33b0 : decide (((rd_T43 l1 x31_2).f0) < ((rd_T56 x5_2 (ji30)).f1.f0)) = false := decide_eq_false c33
                                clear c33
                                by_cases c35 : x5_2.length < 3518437208883
                                · rw [if_pos c35] at H
                                  have LMc35 := Aside0.mk c35
                                  clear c35
                                  obtain ⟨y225, hy225⟩ : ∃ y_ : List (S56), y_ = (x5_2 ++ [(⟨0, (⟨0, 0, (⟨#[]⟩ : ByteArray)⟩ : S43)⟩ : S56)]) := ⟨_, rfl⟩
                                  replace H : ((runtime_boundsError_RuntimeError.f y225 x11_3).bind fun t228 => (if 0 ≤ x11_3 then (if x11_3 < (t228.length : Int) then (ephemerisref1_ZoneEdits.l1 k3 l0 (t228.set (x11_3 : Int).toNat (⟨2, (⟨((rd_T43 l1 x31_2).f0), ((rd_T43 l1 x31_2).f1), ((rd_T43 l1 x31_2).f2)⟩ : S43)⟩ : S56)) l1 (l1.length : Int) (wrap64 (x31_2 + 1))) else (none)) else (none))) = some r := by first | (rw [hy225]; with_reducible exact H) | (have H2_ := (Option.bind_some _ _).symm.trans H; rw [hy225]; with_reducible exact H2_) | (have H2_ := (Option.bind_some _ _).symm.trans H; with_reducible exact H2_) | with_reducible exact H | (rw [hy225]; exact H) | exact H
                                  have Ny225 := Aside0.mk hy225
                                  clear hy225
                                  replace H := Option.bind_eq_some_iff.mp H
                                  obtain ⟨t228, A360, H⟩ := H
                                  replace H : (if 0 ≤ x11_3 then (if x11_3 < (t228.length : Int) then (ephemerisref1_ZoneEdits.l1 k3 l0 (t228.set (x11_3 : Int).toNat (⟨2, (⟨((rd_T43 l1 x31_2).f0), ((rd_T43 l1 x31_2).f1), ((rd_T43 l1 x31_2).f2)⟩ : S43)⟩ : S56)) l1 (l1.length : Int) (wrap64 (x31_2 + 1))) else (none)) else (none)) = some r := H
                                  have A36 := Aside0.mk A360
                                  clear A360
                                  by_cases c37 : 0 ≤ x11_3
                                  · rw [if_pos c37] at H
                                    have c37b0 : decide (0 ≤ x11_3) = true := decide_eq_true c37
                                    clear c37
                                    by_cases c38 : x11_3 < (t228.length : Int)
                                    · rw [if_pos c38] at H
                                      have c38b0 : decide (x11_3 < (t228.length : Int)) = true := decide_eq_true c38
                                      clear c38
                                      obtain ⟨y231, hy231⟩ : ∃ y_ : List (S56), y_ = (t228.set (x11_3 : Int).toNat (⟨2, (⟨((rd_T43 l1 x31_2).f0), ((rd_T43 l1 x31_2).f1), ((rd_T43 l1 x31_2).f2)⟩ : S43)⟩ : S56)) := ⟨_, rfl⟩
                                      replace H : (ephemerisref1_ZoneEdits.l1 k3 l0 y231 l1 (l1.length : Int) (wrap64 (x31_2 + 1))) = some r := by first | (rw [hy231]; with_reducible exact H) | (have H2_ := (Option.bind_some _ _).symm.trans H; rw [hy231]; with_reducible exact H2_) | (have H2_ := (Option.bind_some _ _).symm.trans H; with_reducible exact H2_) | with_reducible exact H | (rw [hy231]; exact H) | exact H
                                      have Ny231 := Aside0.mk hy231
                                      clear hy231
                                      have H' := Aside0.mk H
                                      clear H
                                      have p224 : 0 ≤ ((ji30) : Int) := of_decide_eq_true (by first | (with_reducible assumption) | assumption)
                                      have q224 : (ji30) < (x5_2.length : Int) := of_decide_eq_true (by first | (with_reducible assumption) | assumption)
                                      obtain ⟨ad224, e224, hx224_0, hx224_1, hx224_2, hx224_3⟩ := at_T56 (Kd.R_reads' HO_5.out).2.2 (ji30) p224 q224
                                      cases e224
                                      replace p224 := eq_true p224
                                      replace q224 := eq_true q224
                                      have hcz40_0 : wr.cell? ⟨gb222, 0, none⟩ = some (.int .i64 ((rd_T43 l1 x31_2).f0)) := (blk_cell BK222.out 0).trans rfl
                                      have hcz40_1 : wr.cell? ⟨gb222, 1, none⟩ = some (.int .i64 ((rd_T43 l1 x31_2).f1)) := (blk_cell BK222.out 1).trans rfl
                                      have hcz40_2 : wr.cell? ⟨gb222, 2, none⟩ = some (.string ((rd_T43 l1 x31_2).f2)) := (blk_cell BK222.out 2).trans rfl
                                      have hfz40_0 := blk_frozen BK222.out 0
                                      have hfz40_1 := blk_frozen BK222.out 1
                                      have hfz40_2 := blk_frozen BK222.out 2
                                      go_upto_region 14 with (fail)
                                      go_quiet (fail)
                                      go_upto_region 17 with ((with_reducible refine gate_builtin (b := .append) (xs := #[.tmp 57, .tmp 59]) rfl ?_); at_builtin; refine Kd.R_append k56 (w0 := w) w.heap.size rfl (.tmp 57) (.tmp 59) 52 56 (.agg #[(.int .i64 0), (.int .i64 0), (.int .i64 0), (.string ⟨#[]⟩)]) 40 rfl Tryd.underlying52 info56 rfl (by decide) (by omega) (.slice (some ad224) x5_2.length co28) x5_2 (⟨0, (⟨0, 0, (⟨#[]⟩ : ByteArray)⟩ : S43)⟩ : S56) [.int .i64 0, .int .i64 0, .int .i64 0, .string (⟨#[]⟩ : ByteArray)] (fun _ => True) (fun _ => False) rfl rfl ?aP (fun _ hk => hk.elim) ?aF ?aO ?aB ?aS ?aL ?_; (case aP => exact k56_mkM _ _ _ (⟨0, (⟨0, 0, (⟨#[]⟩ : ByteArray)⟩ : S43)⟩ : S56)); (case aB => exact (by repeat (first | (with_reducible first | exact HB.out | apply below_alloc | apply pw_below_drewN | apply below_drew1 | refine below_set ?_ GE222.out) | exact HB.out))); (case aF => exact (fun _ _ => trivial)); (case aO => exact (by (with_reducible repeat (first | apply Kd.R_alloc | apply Kd.R_drewN | apply Kd.R_drew)); exact HO_5.out)); (case aS => exact (below_size (by repeat (first | (with_reducible first | exact HB.out | apply below_alloc | apply pw_below_drewN | apply below_drew1 | refine below_set ?_ GE222.out) | exact HB.out)))); (case aL => have := LMc35.out; omega); intro v226 w41 ho hb hg hat; rw [← Ny225.out] at ho; have n0_ := Aside0.mk (blk_grown (g := gb222) (o := .cells #[.int .i64 ((rd_T43 l1 x31_2).f0), .int .i64 ((rd_T43 l1 x31_2).f1), .string ((rd_T43 l1 x31_2).f2)] 43 (0, 0)) (by (with_reducible repeat (first | refine blk_drewN ?_ _ | refine blk_drew ?_ | refine blk_alloc ?_ _)); exact BK222.out) hg (Kd.R_ne HO_5.out BK222.out (by decide))); have n1_ := Aside0.mk (hb); have n2_ := Aside0.mk (ho); clear BK222; clear HB; clear HO_5; have BK222 := n0_; have HB := n1_; have HO227 := n2_; clear n0_ n1_ n2_; clear ho hb hg hat; obtain ⟨Ao42, co42, eo42⟩ := Kd.R_slice HO227.out; subst eo42)
                                      have sh36 : (0 ≤ x11_3 ∧ x11_3 < (y225.length : Int)) ∧ y225.take (x11_3.toNat + 1) ++ (y225.drop x11_3.toNat).take (y225.length - (x11_3.toNat + 1)) = t228 := by
                                        have hA := A36.out
                                        unfold runtime_boundsError_RuntimeError.f at hA
                                        split at hA
                                        · exact ⟨by assumption, Option.some.inj hA⟩
                                        · cases hA
                                      obtain ⟨⟨sh0, sh1⟩, sh2⟩ := sh36
                                      obtain ⟨i36, hi36⟩ : ∃ i : Nat, x11_3 = (i : Int) := ⟨x11_3.toNat, by omega⟩
                                      have hti36 : x11_3.toNat = i36 := by omega
                                      rw [hti36] at sh2
                                      have hlen36 : y225.length < 3518437208885 := by have := LMc35.out; rw [Ny225.out, List.length_append]; simp only [List.length_cons, List.length_nil]; omega
                                      have hwr36 : IntKind.i64.wrap (x11_3 + 1) = x11_3 + 1 := by unfold IntKind.wrap; simp [IntKind.bits, IntKind.signed]; omega
                                      have hz36 := eq_true (show (0 : Int) ≤ x11_3 + 1 by omega)
                                      have hb36 := eq_true (show (x11_3 + 1 ≤ (y225.length : Int)) by omega)
                                      have hc36 := eq_true (show (x11_3 ≤ (y225.length : Int)) by omega)
                                      have ht36 : (x11_3 + 1).toNat = i36 + 1 := by omega
                                      have hcap36 : y225.length ≤ co42 := (Kd.R_reads' HO227.out).2.1
                                      have hne36 := eq_false (show ¬ (co42 = i36) by omega)
                                      obtain ⟨go39, co39, eo39, gb39, gl39, cl39, HG39⟩ := Kd.R_form HO227.out (by omega)
                                      (first | cases eo39 | (injection eo39 with ea_ en_ ec_; (first | subst ea_ | (injection ea_ with ea_; subst ea_)); subst ec_; clear en_))
                                      have GB39 := Aside0.mk gb39
                                      obtain ⟨dp36, hdpe36⟩ : ∃ dp : Option Addr, (if co42 = i36 + 1 then (some ⟨go39, 0, none⟩ : Option Addr) else some ⟨go39, (i36 + 1) * 4, none⟩) = dp := ⟨_, rfl⟩
                                      have hdp36 : i36 + 1 < y225.length → dp36 = some ⟨go39, (i36 + 1) * 4, none⟩ := fun h_ => hdpe36.symm.trans (if_neg (by omega))
                                      have HOd_ : Kd.R k56 56 w41.drew w.heap.size (fun _ => True) (.slice (some ⟨go39, 0, none⟩) y225.length co42) y225 := by
                                        (with_reducible repeat (first | apply Kd.R_alloc | apply Kd.R_drewN | apply Kd.R_drew)); exact HO227.out
                                      have HBd_ : Below w.heap.size w w41.drew := by repeat (first | (with_reducible first | exact HB.out | apply below_alloc | apply pw_below_drewN | apply below_drew1) | exact HB.out)
                                      obtain ⟨w43, hcopy36, hrow40, hg40, hbel40⟩ := Kd.R_shiftN_run (P := Tryd.prog) k56 (fun x => [.int .i64 x.f0, .int .i64 x.f1.f0, .int .i64 x.f1.f1, .string x.f1.f2]) (fun h => k56_openM h) (fun w_ b_ ok_ x => k56_mkM w_ b_ ok_ x) (fun _ => rfl) (fun x u hu => by simp only [List.mem_cons, List.not_mem_nil, or_false] at hu; rcases hu with rfl | rfl | rfl | rfl <;> rfl) w.heap.size 52 3 56 Tryd.underlying52 (by kernel_rfl) go39 co42 y225 i36 (by omega) _ dp36 hdp36 HOd_
                                      simp only [show (k56).sz = 4 from rfl] at hcopy36
                                      have hi36b := Aside0.mk hi36
                                      clear hi36
                                      have sh0b := eq_true sh0
                                      go_region_law (fail)
                                      clear sh0b
                                      clear hti36 ht36
                                      have hi36 := hi36b.out
                                      clear hi36b
                                      rw [sh2] at hrow40
                                      have hl40 : t228.length = y225.length := by rw [← sh2, List.length_append, List.length_take, List.length_take, List.length_drop]; omega
                                      have n1_ := Aside0.mk (blk_grown (g := gb222) (o := .cells #[.int .i64 ((rd_T43 l1 x31_2).f0), .int .i64 ((rd_T43 l1 x31_2).f1), .string ((rd_T43 l1 x31_2).f2)] 43 (0, 0)) (by (with_reducible repeat (first | refine blk_drewN ?_ _ | refine blk_drew ?_ | refine blk_alloc ?_ _)); exact BK222.out) hg40 (Kd.R_ne HO227.out BK222.out (by decide)))
                                      have n2_ := Aside0.mk (hbel40 _ HBd_ (below_size HBd_))
                                      have HO230 : Aside0 (Kd.R k56 56 w43 w.heap.size (fun _ => True) (.slice (some ⟨go39, 0, none⟩) y225.length co42) t228) := ⟨hrow40⟩
                                      clear BK222 HB HO227
                                      have BK222 := n1_
                                      have HB := n2_
                                      clear n1_ n2_ HOd_ HBd_ hcopy36 hdpe36 hdp36 hg40 hbel40 hrow40 hwr36 hz36 hb36 hc36 hne36
                                      have pX36 : 0 ≤ x11_3 := by omega
                                      have qX36 : x11_3 < ((t228.length : Int) : Int) := by omega
                                      have qY36 : x11_3 < ((y225.length : Int) : Int) := by omega
                                      clear hi36
                                      have hcz44_0 : w43.cell? ⟨gb222, 0, none⟩ = some (.int .i64 ((rd_T43 l1 x31_2).f0)) := (blk_cell BK222.out 0).trans rfl
                                      have hcz44_1 : w43.cell? ⟨gb222, 1, none⟩ = some (.int .i64 ((rd_T43 l1 x31_2).f1)) := (blk_cell BK222.out 1).trans rfl
                                      have hcz44_2 : w43.cell? ⟨gb222, 2, none⟩ = some (.string ((rd_T43 l1 x31_2).f2)) := (blk_cell BK222.out 2).trans rfl
                                      have hfz44_0 := blk_frozen BK222.out 0
                                      have hfz44_1 := blk_frozen BK222.out 1
                                      have hfz44_2 := blk_frozen BK222.out 2
                                      have p39 : 0 ≤ (x11_3 : Int) := pX36
                                      have q39 : (x11_3 : Int) < ((t228.length : Int) : Int) := qX36
                                      obtain ⟨ce39, hcl39, hM39, hcc39, hfr39⟩ := Kd.R_elem HO230.out z56 (x11_3 : Int) pX36 qY36
                                      obtain rfl := k56_openM hM39
                                      have hx39_0 : w43.cell? ⟨go39, (x11_3 : Int).toNat * 4, none⟩ = some (.int .i64 ((rd_T56 t228 x11_3).f0)) := hcc39 0 _ rfl
                                      have hx39_1 : w43.cell? ⟨go39, (x11_3 : Int).toNat * 4 + 1, none⟩ = some (.int .i64 ((rd_T56 t228 x11_3).f1.f0)) := hcc39 1 _ rfl
                                      have hx39_2 : w43.cell? ⟨go39, (x11_3 : Int).toNat * 4 + 2, none⟩ = some (.int .i64 ((rd_T56 t228 x11_3).f1.f1)) := hcc39 2 _ rfl
                                      have hx39_3 : w43.cell? ⟨go39, (x11_3 : Int).toNat * 4 + 3, none⟩ = some (.string ((rd_T56 t228 x11_3).f1.f2)) := hcc39 3 _ rfl
                                      have hf39_0 : w43.frozen? ⟨go39, (x11_3 : Int).toNat * 4, none⟩ = false := hfr39 0
                                      have hf39_1 : w43.frozen? ⟨go39, (x11_3 : Int).toNat * 4 + 1, none⟩ = false := hfr39 1
                                      have hf39_2 : w43.frozen? ⟨go39, (x11_3 : Int).toNat * 4 + 2, none⟩ = false := hfr39 2
                                      have hf39_3 : w43.frozen? ⟨go39, (x11_3 : Int).toNat * 4 + 3, none⟩ = false := hfr39 3
                                      clear hcl39 hcc39 hfr39 hM39
                                      replace p39 := eq_true p39
                                      replace q39 := eq_true q39
                                      have HX45 := Aside0.mk (show Kd.R k56 56 w43 w.heap.size (fun _ => True) (.slice (some ⟨go39, 0, none⟩) y225.length co42) t228 from (by (with_reducible repeat (first | apply Kd.R_alloc | apply Kd.R_drewN | apply Kd.R_drew)); exact HO230.out))
                                      obtain ⟨ce45, hcl45, hM45, hcc45, hfr45⟩ := Kd.R_elem HX45.out z56 (x11_3 : Int) pX36 qY36
                                      obtain rfl := k56_openM hM45
                                      have HP45 := Kd.R_seg HX45.out (x11_3 : Int) pX36 qY36 (seg := [.int .i64 2, .int .i64 ((rd_T43 l1 x31_2).f0), .int .i64 ((rd_T43 l1 x31_2).f1), .string ((rd_T43 l1 x31_2).f2)]) (j := 0) hcl45 hcc45 (show 4 ≤ 4 from by decide) (x' := (⟨2, (⟨((rd_T43 l1 x31_2).f0), ((rd_T43 l1 x31_2).f1), ((rd_T43 l1 x31_2).f2)⟩ : S43)⟩ : S56)) (k56_mkM _ _ _ (⟨2, (⟨((rd_T43 l1 x31_2).f0), ((rd_T43 l1 x31_2).f1), ((rd_T43 l1 x31_2).f2)⟩ : S43)⟩ : S56) ) (fun _ hk => hk)
                                      have hx45_0 := hcc45 0 _ rfl
                                      (try simp only [show (k56).sz = 4 from rfl, Nat.mul_one, Nat.add_zero] at hx45_0)
                                      have hf45_0 := hfr45 0
                                      (try simp only [show (k56).sz = 4 from rfl, Nat.mul_one, Nat.add_zero] at hf45_0)
                                      have hx45_1 := hcc45 1 _ rfl
                                      (try simp only [show (k56).sz = 4 from rfl, Nat.mul_one, Nat.add_zero] at hx45_1)
                                      have hf45_1 := hfr45 1
                                      (try simp only [show (k56).sz = 4 from rfl, Nat.mul_one, Nat.add_zero] at hf45_1)
                                      have hx45_2 := hcc45 2 _ rfl
                                      (try simp only [show (k56).sz = 4 from rfl, Nat.mul_one, Nat.add_zero] at hx45_2)
                                      have hf45_2 := hfr45 2
                                      (try simp only [show (k56).sz = 4 from rfl, Nat.mul_one, Nat.add_zero] at hf45_2)
                                      have hx45_3 := hcc45 3 _ rfl
                                      (try simp only [show (k56).sz = 4 from rfl, Nat.mul_one, Nat.add_zero] at hx45_3)
                                      have hf45_3 := hfr45 3
                                      (try simp only [show (k56).sz = 4 from rfl, Nat.mul_one, Nat.add_zero] at hf45_3)
                                      clear hcl45 hcc45 hfr45 hM45
                                      have qYt36 := eq_true qY36
                                      go_wp2_with (first | ((with_reducible refine gate_store (t := 56) (p := 73) rfl ?_); (try (rw [drewN_self w43]; generalize hq_ : World.drewN w43 _ = w43; have n1_ := Aside0.mk (Kd.R_at hq_ HO230.out); have n2_ := Aside0.mk (blk_at hq_ BK222.out); have n3_ := Aside0.mk (below_at hq_ HB.out); clear hq_ HO230 BK222 HB; have HO230 := n1_; have BK222 := n2_; have HB := n3_; clear n1_ n2_ n3_; (try (have n_ := Aside0.mk (Kd.R_mono (ok' := (fun _ => True)) HO230.out (fun k_ hk => hk.2)); clear HO230; have HO230 := n_; clear n_)); (try (have HX45 := Aside0.mk (show Kd.R k56 56 w43 w.heap.size (fun _ => True) (.slice (some ⟨go39, 0, none⟩) y225.length co42) t228 from (by (with_reducible repeat (first | apply Kd.R_alloc | apply Kd.R_drewN | apply Kd.R_drew)); exact HO230.out)))); (try (obtain ⟨ce45, hcl45, hM45, hcc45, hfr45⟩ := Kd.R_elem HX45.out z56 (x11_3 : Int) pX36 qY36)); (try (obtain rfl := k56_openM hM45)); (try (have HP45 := Kd.R_seg HX45.out (x11_3 : Int) pX36 qY36 (seg := [.int .i64 2, .int .i64 ((rd_T43 l1 x31_2).f0), .int .i64 ((rd_T43 l1 x31_2).f1), .string ((rd_T43 l1 x31_2).f2)]) (j := 0) hcl45 hcc45 (show 4 ≤ 4 from by decide) (x' := (⟨2, (⟨((rd_T43 l1 x31_2).f0), ((rd_T43 l1 x31_2).f1), ((rd_T43 l1 x31_2).f2)⟩ : S43)⟩ : S56)) (k56_mkM _ _ _ (⟨2, (⟨((rd_T43 l1 x31_2).f0), ((rd_T43 l1 x31_2).f1), ((rd_T43 l1 x31_2).f2)⟩ : S43)⟩ : S56) ) (fun _ hk => hk))); (try (have hx45_0 := hcc45 0 _ rfl)); (try (try simp only [show (k56).sz = 4 from rfl, Nat.mul_one, Nat.add_zero] at hx45_0)); (try (have hf45_0 := hfr45 0)); (try (try simp only [show (k56).sz = 4 from rfl, Nat.mul_one, Nat.add_zero] at hf45_0)); (try (have hx45_1 := hcc45 1 _ rfl)); (try (try simp only [show (k56).sz = 4 from rfl, Nat.mul_one, Nat.add_zero] at hx45_1)); (try (have hf45_1 := hfr45 1)); (try (try simp only [show (k56).sz = 4 from rfl, Nat.mul_one, Nat.add_zero] at hf45_1)); (try (have hx45_2 := hcc45 2 _ rfl)); (try (try simp only [show (k56).sz = 4 from rfl, Nat.mul_one, Nat.add_zero] at hx45_2)); (try (have hf45_2 := hfr45 2)); (try (try simp only [show (k56).sz = 4 from rfl, Nat.mul_one, Nat.add_zero] at hf45_2)); (try (have hx45_3 := hcc45 3 _ rfl)); (try (try simp only [show (k56).sz = 4 from rfl, Nat.mul_one, Nat.add_zero] at hx45_3)); (try (have hf45_3 := hfr45 3)); (try (try simp only [show (k56).sz = 4 from rfl, Nat.mul_one, Nat.add_zero] at hf45_3)); (try (clear hcl45 hcc45 hfr45 hM45)))); refine store_event (t := 56) (p := 73) (v := ?vo_w46) (w1 := ((((w43.setCell ⟨go39, (x11_3 : Int).toNat * 4, none⟩ (.int .i64 2)).setCell ⟨go39, (x11_3 : Int).toNat * 4 + 1, none⟩ (.int .i64 ((rd_T43 l1 x31_2).f0))).setCell ⟨go39, (x11_3 : Int).toNat * 4 + 2, none⟩ (.int .i64 ((rd_T43 l1 x31_2).f1))).setCell ⟨go39, (x11_3 : Int).toNat * 4 + 3, none⟩ (.string ((rd_T43 l1 x31_2).f2)))) ?hg ?ho ?hn ?hr ?_; (case ho => rfl); (case hg => rfl); (case hn => rfl); (case hr => first | (go_simp; done) | (go_simp; rfl)); intro w46 hw; have hg : w43.grownBy w46 (some go39) := (by rw [hw]; exact HP45.2); have hp_ : Kd.R k56 56 w46 w.heap.size (fun _ => True) (.slice (some ⟨go39, 0, none⟩) y225.length co42) y231 := (by rw [hw, Ny231.out]; exact HP45.1); clear HP45; have n0_ := Aside0.mk (blk_grown (g := gb222) (o := .cells #[.int .i64 ((rd_T43 l1 x31_2).f0), .int .i64 ((rd_T43 l1 x31_2).f1), .string ((rd_T43 l1 x31_2).f2)] 43 (0, 0)) (by (with_reducible repeat (first | refine blk_drewN ?_ _ | refine blk_drew ?_ | refine blk_alloc ?_ _)); exact BK222.out) hg (Kd.R_ne HO230.out BK222.out (by decide))); have n2_ := Aside0.mk (hp_); have n3_ := Aside0.mk ((by rw [hw]; exact below_set (below_set (below_set (below_set (HB.out) GB39.out) GB39.out) GB39.out) GB39.out : Below w.heap.size w w46)); clear BK222; clear HO230; clear HB; have BK222 := n0_; have HO230 := n2_; have HB := n3_; clear n0_ n2_ n3_; clear hg hw hp_))
                                      repeat (go_quiet (fail))
                                      go_roundg k3
                                      case measure => have := HK1.out; have := HK2.out; have := HK3.out; omega
                                      case rel => exact ⟨(y231), (wrap64 (x31_2 + 1)), (by first | rfl | (simp; done) | (simp [*]; done)), H', ⟨by have := HK1.out; have := HK2.out; have := HK3.out; omega⟩, ⟨by (with_reducible repeat (first | apply Kd.R_alloc | apply Kd.R_drewN | apply Kd.R_drew)); exact Kd.R_mono HO230.out (fun _ hk => trivial)⟩, ⟨by repeat (first | (with_reducible first | exact HB.out | apply below_alloc | apply pw_below_drewN | apply below_drew1 | refine below_set ?_ GE222.out) | exact HB.out)⟩⟩
                                    · rw [if_neg c38] at H
                                      exact absurd H (by simp)
                                  · rw [if_neg c37] at H
                                    exact absurd H (by simp)
                                · rw [if_neg c35] at H
                                  exact absurd H (by simp)
                            · rw [if_neg c32] at H
                              exact absurd H (by simp)
                          · rw [if_neg c31] at H
                            exact absurd H (by simp)
                        · rw [if_neg c29] at H
                          have c29b0 : decide (0 < x11_3) = false := decide_eq_false c29
                          clear c29
                          by_cases c47 : x5_2.length < 3518437208883
                          · rw [if_pos c47] at H
                            have LMc47 := Aside0.mk c47
                            clear c47
                            obtain ⟨y232, hy232⟩ : ∃ y_ : List (S56), y_ = (x5_2 ++ [(⟨0, (⟨0, 0, (⟨#[]⟩ : ByteArray)⟩ : S43)⟩ : S56)]) := ⟨_, rfl⟩
                            replace H : ((runtime_boundsError_RuntimeError.f y232 x11_3).bind fun t235 => (if 0 ≤ x11_3 then (if x11_3 < (t235.length : Int) then (ephemerisref1_ZoneEdits.l1 k3 l0 (t235.set (x11_3 : Int).toNat (⟨2, (⟨((rd_T43 l1 x31_2).f0), ((rd_T43 l1 x31_2).f1), ((rd_T43 l1 x31_2).f2)⟩ : S43)⟩ : S56)) l1 (l1.length : Int) (wrap64 (x31_2 + 1))) else (none)) else (none))) = some r := by first | (rw [hy232]; with_reducible exact H) | (have H2_ := (Option.bind_some _ _).symm.trans H; rw [hy232]; with_reducible exact H2_) | (have H2_ := (Option.bind_some _ _).symm.trans H; with_reducible exact H2_) | with_reducible exact H | (rw [hy232]; exact H) | exact H
                            have Ny232 := Aside0.mk hy232
                            clear hy232
                            replace H := Option.bind_eq_some_iff.mp H
                            obtain ⟨t235, A480, H⟩ := H
                            replace H : (if 0 ≤ x11_3 then (if x11_3 < (t235.length : Int) then (ephemerisref1_ZoneEdits.l1 k3 l0 (t235.set (x11_3 : Int).toNat (⟨2, (⟨((rd_T43 l1 x31_2).f0), ((rd_T43 l1 x31_2).f1), ((rd_T43 l1 x31_2).f2)⟩ : S43)⟩ : S56)) l1 (l1.length : Int) (wrap64 (x31_2 + 1))) else (none)) else (none)) = some r := H
                            have A48 := Aside0.mk A480
                            clear A480
                            by_cases c49 : 0 ≤ x11_3
                            · rw [if_pos c49] at H
                              have c49b0 : decide (0 ≤ x11_3) = true := decide_eq_true c49
                              clear c49
                              by_cases c50 : x11_3 < (t235.length : Int)
                              · rw [if_pos c50] at H
                                have c50b0 : decide (x11_3 < (t235.length : Int)) = true := decide_eq_true c50
                                clear c50
                                obtain ⟨y238, hy238⟩ : ∃ y_ : List (S56), y_ = (t235.set (x11_3 : Int).toNat (⟨2, (⟨((rd_T43 l1 x31_2).f0), ((rd_T43 l1 x31_2).f1), ((rd_T43 l1 x31_2).f2)⟩ : S43)⟩ : S56)) := ⟨_, rfl⟩
                                replace H : (ephemerisref1_ZoneEdits.l1 k3 l0 y238 l1 (l1.length : Int) (wrap64 (x31_2 + 1))) = some r := by first | (rw [hy238]; with_reducible exact H) | (have H2_ := (Option.bind_some _ _).symm.trans H; rw [hy238]; with_reducible exact H2_) | (have H2_ := (Option.bind_some _ _).symm.trans H; with_reducible exact H2_) | with_reducible exact H | (rw [hy238]; exact H) | exact H
                                have Ny238 := Aside0.mk hy238
                                clear hy238
                                have H' := Aside0.mk H
                                clear H
                                go_upto_region 14 with (fail)
                                go_quiet (fail)
                                go_upto_region 17 with ((with_reducible refine gate_builtin (b := .append) (xs := #[.tmp 57, .tmp 59]) rfl ?_); at_builtin; refine Kd.R_append k56 (w0 := w) w.heap.size rfl (.tmp 57) (.tmp 59) 52 56 (.agg #[(.int .i64 0), (.int .i64 0), (.int .i64 0), (.string ⟨#[]⟩)]) 40 rfl Tryd.underlying52 info56 rfl (by decide) (by omega) (.slice Ao28 x5_2.length co28) x5_2 (⟨0, (⟨0, 0, (⟨#[]⟩ : ByteArray)⟩ : S43)⟩ : S56) [.int .i64 0, .int .i64 0, .int .i64 0, .string (⟨#[]⟩ : ByteArray)] (fun _ => True) (fun _ => False) rfl rfl ?aP (fun _ hk => hk.elim) ?aF ?aO ?aB ?aS ?aL ?_; (case aP => exact k56_mkM _ _ _ (⟨0, (⟨0, 0, (⟨#[]⟩ : ByteArray)⟩ : S43)⟩ : S56)); (case aB => exact (by repeat (first | (with_reducible first | exact HB.out | apply below_alloc | apply pw_below_drewN | apply below_drew1 | refine below_set ?_ GE222.out) | exact HB.out))); (case aF => exact (fun _ _ => trivial)); (case aO => exact (by (with_reducible repeat (first | apply Kd.R_alloc | apply Kd.R_drewN | apply Kd.R_drew)); exact HO_5.out)); (case aS => exact (below_size (by repeat (first | (with_reducible first | exact HB.out | apply below_alloc | apply pw_below_drewN | apply below_drew1 | refine below_set ?_ GE222.out) | exact HB.out)))); (case aL => have := LMc47.out; omega); intro v233 w52 ho hb hg hat; rw [← Ny232.out] at ho; have n0_ := Aside0.mk (blk_grown (g := gb222) (o := .cells #[.int .i64 ((rd_T43 l1 x31_2).f0), .int .i64 ((rd_T43 l1 x31_2).f1), .string ((rd_T43 l1 x31_2).f2)] 43 (0, 0)) (by (with_reducible repeat (first | refine blk_drewN ?_ _ | refine blk_drew ?_ | refine blk_alloc ?_ _)); exact BK222.out) hg (Kd.R_ne HO_5.out BK222.out (by decide))); have n1_ := Aside0.mk (hb); have n2_ := Aside0.mk (ho); clear BK222; clear HB; clear HO_5; have BK222 := n0_; have HB := n1_; have HO234 := n2_; clear n0_ n1_ n2_; clear ho hb hg hat; obtain ⟨Ao53, co53, eo53⟩ := Kd.R_slice HO234.out; subst eo53)
                                have sh36 : (0 ≤ x11_3 ∧ x11_3 < (y232.length : Int)) ∧ y232.take (x11_3.toNat + 1) ++ (y232.drop x11_3.toNat).take (y232.length - (x11_3.toNat + 1)) = t235 := by
                                  have hA := A48.out
                                  unfold runtime_boundsError_RuntimeError.f at hA
                                  split at hA
                                  · exact ⟨by assumption, Option.some.inj hA⟩
                                  · cases hA
                                obtain ⟨⟨sh0, sh1⟩, sh2⟩ := sh36
                                obtain ⟨i36, hi36⟩ : ∃ i : Nat, x11_3 = (i : Int) := ⟨x11_3.toNat, by omega⟩
                                have hti36 : x11_3.toNat = i36 := by omega
                                rw [hti36] at sh2
                                have hlen36 : y232.length < 3518437208885 := by have := LMc47.out; rw [Ny232.out, List.length_append]; simp only [List.length_cons, List.length_nil]; omega
                                have hwr36 : IntKind.i64.wrap (x11_3 + 1) = x11_3 + 1 := by unfold IntKind.wrap; simp [IntKind.bits, IntKind.signed]; omega
                                have hz36 := eq_true (show (0 : Int) ≤ x11_3 + 1 by omega)
                                have hb36 := eq_true (show (x11_3 + 1 ≤ (y232.length : Int)) by omega)
                                have hc36 := eq_true (show (x11_3 ≤ (y232.length : Int)) by omega)
                                have ht36 : (x11_3 + 1).toNat = i36 + 1 := by omega
                                have hcap36 : y232.length ≤ co53 := (Kd.R_reads' HO234.out).2.1
                                have hne36 := eq_false (show ¬ (co53 = i36) by omega)
                                obtain ⟨go51, co51, eo51, gb51, gl51, cl51, HG51⟩ := Kd.R_form HO234.out (by omega)
                                (first | cases eo51 | (injection eo51 with ea_ en_ ec_; (first | subst ea_ | (injection ea_ with ea_; subst ea_)); subst ec_; clear en_))
                                have GB51 := Aside0.mk gb51
                                obtain ⟨dp36, hdpe36⟩ : ∃ dp : Option Addr, (if co53 = i36 + 1 then (some ⟨go51, 0, none⟩ : Option Addr) else some ⟨go51, (i36 + 1) * 4, none⟩) = dp := ⟨_, rfl⟩
                                have hdp36 : i36 + 1 < y232.length → dp36 = some ⟨go51, (i36 + 1) * 4, none⟩ := fun h_ => hdpe36.symm.trans (if_neg (by omega))
                                have HOd_ : Kd.R k56 56 w52.drew w.heap.size (fun _ => True) (.slice (some ⟨go51, 0, none⟩) y232.length co53) y232 := by
                                  (with_reducible repeat (first | apply Kd.R_alloc | apply Kd.R_drewN | apply Kd.R_drew)); exact HO234.out
                                have HBd_ : Below w.heap.size w w52.drew := by repeat (first | (with_reducible first | exact HB.out | apply below_alloc | apply pw_below_drewN | apply below_drew1) | exact HB.out)
                                obtain ⟨w54, hcopy36, hrow40, hg40, hbel40⟩ := Kd.R_shiftN_run (P := Tryd.prog) k56 (fun x => [.int .i64 x.f0, .int .i64 x.f1.f0, .int .i64 x.f1.f1, .string x.f1.f2]) (fun h => k56_openM h) (fun w_ b_ ok_ x => k56_mkM w_ b_ ok_ x) (fun _ => rfl) (fun x u hu => by simp only [List.mem_cons, List.not_mem_nil, or_false] at hu; rcases hu with rfl | rfl | rfl | rfl <;> rfl) w.heap.size 52 3 56 Tryd.underlying52 (by kernel_rfl) go51 co53 y232 i36 (by omega) _ dp36 hdp36 HOd_
                                simp only [show (k56).sz = 4 from rfl] at hcopy36
                                have hi36b := Aside0.mk hi36
                                clear hi36
                                have sh0b := eq_true sh0
                                go_region_law (fail)
                                clear sh0b
                                clear hti36 ht36
                                have hi36 := hi36b.out
                                clear hi36b
                                rw [sh2] at hrow40
                                have hl40 : t235.length = y232.length := by rw [← sh2, List.length_append, List.length_take, List.length_take, List.length_drop]; omega
                                have n1_ := Aside0.mk (blk_grown (g := gb222) (o := .cells #[.int .i64 ((rd_T43 l1 x31_2).f0), .int .i64 ((rd_T43 l1 x31_2).f1), .string ((rd_T43 l1 x31_2).f2)] 43 (0, 0)) (by (with_reducible repeat (first | refine blk_drewN ?_ _ | refine blk_drew ?_ | refine blk_alloc ?_ _)); exact BK222.out) hg40 (Kd.R_ne HO234.out BK222.out (by decide)))
                                have n2_ := Aside0.mk (hbel40 _ HBd_ (below_size HBd_))
                                have HO237 : Aside0 (Kd.R k56 56 w54 w.heap.size (fun _ => True) (.slice (some ⟨go51, 0, none⟩) y232.length co53) t235) := ⟨hrow40⟩
                                clear BK222 HB HO234
                                have BK222 := n1_
                                have HB := n2_
                                clear n1_ n2_ HOd_ HBd_ hcopy36 hdpe36 hdp36 hg40 hbel40 hrow40 hwr36 hz36 hb36 hc36 hne36
                                have pX36 : 0 ≤ x11_3 := by omega
                                have qX36 : x11_3 < ((t235.length : Int) : Int) := by omega
                                have qY36 : x11_3 < ((y232.length : Int) : Int) := by omega
                                clear hi36
                                have hcz55_0 : w54.cell? ⟨gb222, 0, none⟩ = some (.int .i64 ((rd_T43 l1 x31_2).f0)) := (blk_cell BK222.out 0).trans rfl
                                have hcz55_1 : w54.cell? ⟨gb222, 1, none⟩ = some (.int .i64 ((rd_T43 l1 x31_2).f1)) := (blk_cell BK222.out 1).trans rfl
                                have hcz55_2 : w54.cell? ⟨gb222, 2, none⟩ = some (.string ((rd_T43 l1 x31_2).f2)) := (blk_cell BK222.out 2).trans rfl
                                have hfz55_0 := blk_frozen BK222.out 0
                                have hfz55_1 := blk_frozen BK222.out 1
                                have hfz55_2 := blk_frozen BK222.out 2
                                have p51 : 0 ≤ (x11_3 : Int) := pX36
                                have q51 : (x11_3 : Int) < ((t235.length : Int) : Int) := qX36
                                obtain ⟨ce51, hcl51, hM51, hcc51, hfr51⟩ := Kd.R_elem HO237.out z56 (x11_3 : Int) pX36 qY36
                                obtain rfl := k56_openM hM51
                                have hx51_0 : w54.cell? ⟨go51, (x11_3 : Int).toNat * 4, none⟩ = some (.int .i64 ((rd_T56 t235 x11_3).f0)) := hcc51 0 _ rfl
                                have hx51_1 : w54.cell? ⟨go51, (x11_3 : Int).toNat * 4 + 1, none⟩ = some (.int .i64 ((rd_T56 t235 x11_3).f1.f0)) := hcc51 1 _ rfl
                                have hx51_2 : w54.cell? ⟨go51, (x11_3 : Int).toNat * 4 + 2, none⟩ = some (.int .i64 ((rd_T56 t235 x11_3).f1.f1)) := hcc51 2 _ rfl
                                have hx51_3 : w54.cell? ⟨go51, (x11_3 : Int).toNat * 4 + 3, none⟩ = some (.string ((rd_T56 t235 x11_3).f1.f2)) := hcc51 3 _ rfl
                                have hf51_0 : w54.frozen? ⟨go51, (x11_3 : Int).toNat * 4, none⟩ = false := hfr51 0
                                have hf51_1 : w54.frozen? ⟨go51, (x11_3 : Int).toNat * 4 + 1, none⟩ = false := hfr51 1
                                have hf51_2 : w54.frozen? ⟨go51, (x11_3 : Int).toNat * 4 + 2, none⟩ = false := hfr51 2
                                have hf51_3 : w54.frozen? ⟨go51, (x11_3 : Int).toNat * 4 + 3, none⟩ = false := hfr51 3
                                clear hcl51 hcc51 hfr51 hM51
                                replace p51 := eq_true p51
                                replace q51 := eq_true q51
                                have HX56 := Aside0.mk (show Kd.R k56 56 w54 w.heap.size (fun _ => True) (.slice (some ⟨go51, 0, none⟩) y232.length co53) t235 from (by (with_reducible repeat (first | apply Kd.R_alloc | apply Kd.R_drewN | apply Kd.R_drew)); exact HO237.out))
                                obtain ⟨ce56, hcl56, hM56, hcc56, hfr56⟩ := Kd.R_elem HX56.out z56 (x11_3 : Int) pX36 qY36
                                obtain rfl := k56_openM hM56
                                have HP56 := Kd.R_seg HX56.out (x11_3 : Int) pX36 qY36 (seg := [.int .i64 2, .int .i64 ((rd_T43 l1 x31_2).f0), .int .i64 ((rd_T43 l1 x31_2).f1), .string ((rd_T43 l1 x31_2).f2)]) (j := 0) hcl56 hcc56 (show 4 ≤ 4 from by decide) (x' := (⟨2, (⟨((rd_T43 l1 x31_2).f0), ((rd_T43 l1 x31_2).f1), ((rd_T43 l1 x31_2).f2)⟩ : S43)⟩ : S56)) (k56_mkM _ _ _ (⟨2, (⟨((rd_T43 l1 x31_2).f0), ((rd_T43 l1 x31_2).f1), ((rd_T43 l1 x31_2).f2)⟩ : S43)⟩ : S56) ) (fun _ hk => hk)
                                have hx56_0 := hcc56 0 _ rfl
                                (try simp only [show (k56).sz = 4 from rfl, Nat.mul_one, Nat.add_zero] at hx56_0)
                                have hf56_0 := hfr56 0
                                (try simp only [show (k56).sz = 4 from rfl, Nat.mul_one, Nat.add_zero] at hf56_0)
                                have hx56_1 := hcc56 1 _ rfl
                                (try simp only [show (k56).sz = 4 from rfl, Nat.mul_one, Nat.add_zero] at hx56_1)
                                have hf56_1 := hfr56 1
                                (try simp only [show (k56).sz = 4 from rfl, Nat.mul_one, Nat.add_zero] at hf56_1)
                                have hx56_2 := hcc56 2 _ rfl
                                (try simp only [show (k56).sz = 4 from rfl, Nat.mul_one, Nat.add_zero] at hx56_2)
                                have hf56_2 := hfr56 2
                                (try simp only [show (k56).sz = 4 from rfl, Nat.mul_one, Nat.add_zero] at hf56_2)
                                have hx56_3 := hcc56 3 _ rfl
                                (try simp only [show (k56).sz = 4 from rfl, Nat.mul_one, Nat.add_zero] at hx56_3)
                                have hf56_3 := hfr56 3
                                (try simp only [show (k56).sz = 4 from rfl, Nat.mul_one, Nat.add_zero] at hf56_3)
                                clear hcl56 hcc56 hfr56 hM56
                                have qYt36 := eq_true qY36
                                go_wp2_with (first | ((with_reducible refine gate_store (t := 56) (p := 73) rfl ?_); (try (rw [drewN_self w54]; generalize hq_ : World.drewN w54 _ = w54; have n1_ := Aside0.mk (Kd.R_at hq_ HO237.out); have n2_ := Aside0.mk (blk_at hq_ BK222.out); have n3_ := Aside0.mk (below_at hq_ HB.out); clear hq_ HO237 BK222 HB; have HO237 := n1_; have BK222 := n2_; have HB := n3_; clear n1_ n2_ n3_; (try (have n_ := Aside0.mk (Kd.R_mono (ok' := (fun _ => True)) HO237.out (fun k_ hk => hk.2)); clear HO237; have HO237 := n_; clear n_)); (try (have HX56 := Aside0.mk (show Kd.R k56 56 w54 w.heap.size (fun _ => True) (.slice (some ⟨go51, 0, none⟩) y232.length co53) t235 from (by (with_reducible repeat (first | apply Kd.R_alloc | apply Kd.R_drewN | apply Kd.R_drew)); exact HO237.out)))); (try (obtain ⟨ce56, hcl56, hM56, hcc56, hfr56⟩ := Kd.R_elem HX56.out z56 (x11_3 : Int) pX36 qY36)); (try (obtain rfl := k56_openM hM56)); (try (have HP56 := Kd.R_seg HX56.out (x11_3 : Int) pX36 qY36 (seg := [.int .i64 2, .int .i64 ((rd_T43 l1 x31_2).f0), .int .i64 ((rd_T43 l1 x31_2).f1), .string ((rd_T43 l1 x31_2).f2)]) (j := 0) hcl56 hcc56 (show 4 ≤ 4 from by decide) (x' := (⟨2, (⟨((rd_T43 l1 x31_2).f0), ((rd_T43 l1 x31_2).f1), ((rd_T43 l1 x31_2).f2)⟩ : S43)⟩ : S56)) (k56_mkM _ _ _ (⟨2, (⟨((rd_T43 l1 x31_2).f0), ((rd_T43 l1 x31_2).f1), ((rd_T43 l1 x31_2).f2)⟩ : S43)⟩ : S56) ) (fun _ hk => hk))); (try (have hx56_0 := hcc56 0 _ rfl)); (try (try simp only [show (k56).sz = 4 from rfl, Nat.mul_one, Nat.add_zero] at hx56_0)); (try (have hf56_0 := hfr56 0)); (try (try simp only [show (k56).sz = 4 from rfl, Nat.mul_one, Nat.add_zero] at hf56_0)); (try (have hx56_1 := hcc56 1 _ rfl)); (try (try simp only [show (k56).sz = 4 from rfl, Nat.mul_one, Nat.add_zero] at hx56_1)); (try (have hf56_1 := hfr56 1)); (try (try simp only [show (k56).sz = 4 from rfl, Nat.mul_one, Nat.add_zero] at hf56_1)); (try (have hx56_2 := hcc56 2 _ rfl)); (try (try simp only [show (k56).sz = 4 from rfl, Nat.mul_one, Nat.add_zero] at hx56_2)); (try (have hf56_2 := hfr56 2)); (try (try simp only [show (k56).sz = 4 from rfl, Nat.mul_one, Nat.add_zero] at hf56_2)); (try (have hx56_3 := hcc56 3 _ rfl)); (try (try simp only [show (k56).sz = 4 from rfl, Nat.mul_one, Nat.add_zero] at hx56_3)); (try (have hf56_3 := hfr56 3)); (try (try simp only [show (k56).sz = 4 from rfl, Nat.mul_one, Nat.add_zero] at hf56_3)); (try (clear hcl56 hcc56 hfr56 hM56)))); refine store_event (t := 56) (p := 73) (v := ?vo_w57) (w1 := ((((w54.setCell ⟨go51, (x11_3 : Int).toNat * 4, none⟩ (.int .i64 2)).setCell ⟨go51, (x11_3 : Int).toNat * 4 + 1, none⟩ (.int .i64 ((rd_T43 l1 x31_2).f0))).setCell ⟨go51, (x11_3 : Int).toNat * 4 + 2, none⟩ (.int .i64 ((rd_T43 l1 x31_2).f1))).setCell ⟨go51, (x11_3 : Int).toNat * 4 + 3, none⟩ (.string ((rd_T43 l1 x31_2).f2)))) ?hg ?ho ?hn ?hr ?_; (case ho => rfl); (case hg => rfl); (case hn => rfl); (case hr => first | (go_simp; done) | (go_simp; rfl)); intro w57 hw; have hg : w54.grownBy w57 (some go51) := (by rw [hw]; exact HP56.2); have hp_ : Kd.R k56 56 w57 w.heap.size (fun _ => True) (.slice (some ⟨go51, 0, none⟩) y232.length co53) y238 := (by rw [hw, Ny238.out]; exact HP56.1); clear HP56; have n0_ := Aside0.mk (blk_grown (g := gb222) (o := .cells #[.int .i64 ((rd_T43 l1 x31_2).f0), .int .i64 ((rd_T43 l1 x31_2).f1), .string ((rd_T43 l1 x31_2).f2)] 43 (0, 0)) (by (with_reducible repeat (first | refine blk_drewN ?_ _ | refine blk_drew ?_ | refine blk_alloc ?_ _)); exact BK222.out) hg (Kd.R_ne HO237.out BK222.out (by decide))); have n2_ := Aside0.mk (hp_); have n3_ := Aside0.mk ((by rw [hw]; exact below_set (below_set (below_set (below_set (HB.out) GB51.out) GB51.out) GB51.out) GB51.out : Below w.heap.size w w57)); clear BK222; clear HO237; clear HB; have BK222 := n0_; have HO237 := n2_; have HB := n3_; clear n0_ n2_ n3_; clear hg hw hp_))
                                repeat (go_quiet (fail))
                                go_roundg k3
                                case measure => have := HK1.out; have := HK2.out; have := HK3.out; omega
                                case rel => exact ⟨(y238), (wrap64 (x31_2 + 1)), (by first | rfl | (simp; done) | (simp [*]; done)), H', ⟨by have := HK1.out; have := HK2.out; have := HK3.out; omega⟩, ⟨by (with_reducible repeat (first | apply Kd.R_alloc | apply Kd.R_drewN | apply Kd.R_drew)); exact Kd.R_mono HO237.out (fun _ hk => trivial)⟩, ⟨by repeat (first | (with_reducible first | exact HB.out | apply below_alloc | apply pw_below_drewN | apply below_drew1 | refine below_set ?_ GE222.out) | exact HB.out)⟩⟩
                              · rw [if_neg c50] at H
                                exact absurd H (by simp)
                            · rw [if_neg c49] at H
                              exact absurd H (by simp)
                          · rw [if_neg c47] at H
                            exact absurd H (by simp)
                · rw [if_neg c19] at H
                  exact absurd H (by simp)
              · rw [if_neg c18] at H
                exact absurd H (by simp)
            · rw [if_neg c17] at H
              have c17b0 : decide (x31_2 < (l1.length : Int)) = false := decide_eq_false c17
              clear c17
              obtain rfl := Option.some.inj H
              go_wp2
              repeat (go_quiet (fail); try go_wp2)
              go_ret
              exact ⟨_, by first | rfl | (simp [errW_none, errW_some] <;> rfl) | (simp [*, errW_none, errW_some] <;> rfl), by (with_reducible repeat (first | apply Kd.R_alloc | apply Kd.R_drewN | apply Kd.R_drew)); exact HO_5.out, by repeat (first | (with_reducible first | exact HB.out | apply below_alloc | apply pw_below_drewN | apply below_drew1) | exact HB.out)⟩

end Go.Proofs.YtolhlaadhfilnaaDoor.PZonetextDiffs

