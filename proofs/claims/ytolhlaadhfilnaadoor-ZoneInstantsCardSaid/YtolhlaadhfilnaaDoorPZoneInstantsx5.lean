-- The walks of the law's functions, told by a program.
import Derived.Test.YtolhlaadhfilnaaDoorShift
import Derived.Test.YtolhlaadhfilnaaDoorPZoneInstantsx0
import Derived.Test.YtolhlaadhfilnaaDoorPZoneInstantsx3
import Derived.Test.YtolhlaadhfilnaaDoorPZoneInstantsx4
namespace Go.Proofs.YtolhlaadhfilnaaDoor.PZoneInstants
open Go.RowKit Go.Proofs.YtolhlaadhfilnaaDoorW.PrintWords Go.Proofs.YtolhlaadhfilnaaDoorW.PrintLast Go.Proofs.YtolhlaadhfilnaaDoorW.PrintMore
attribute [local go_sem] max2_int min2_int max_two min_two max_three min_three max_four min_four   -- for this text's walks alone
set_option linter.unusedVariables false
set_option linter.unusedSimpArgs false

/-! ### ephemerisref1_LocalInstants: function 16 -/
mutual
def ephemerisref1_LocalInstants.l0 : Nat → Int → List Int → List (S43) → Int → Int → ByteArray → Int → List (S43) → Option (List Int)
  | 0, _, _, _, _, _, _, _, _ => none
  | k + 1, x7, x9, x26, x27, x28, x181000, x181001, x181002 => if x28 < x27 then (if 0 ≤ x28 then (if x28 < (x26.length : Int) then (if x9.length < 17592186044416 then (ephemerisref1_LocalInstants.l0 k x7 (x9 ++ [(rd_T43 x26 x28).f1]) x26 x27 (wrap64 (x28 + 1)) x181000 x181001 x181002) else (none)) else (none)) else (none)) else (ephemerisref1_LocalInstants.l1 k x7 ([] : List Int) x9 (x9.length : Int) 0 x181000 x181001 x181002)
def ephemerisref1_LocalInstants.l1 : Nat → Int → List Int → List Int → Int → Int → ByteArray → Int → List (S43) → Option (List Int)
  | 0, _, _, _, _, _, _, _, _ => none
  | k + 1, x7, x8, x38, x39, x40, x181000, x181001, x181002 => if x40 < x39 then (if 0 ≤ x40 then (if x40 < (x38.length : Int) then ((ephemerisref1_Instant.f k (wrap64 (x7 - (rd x38 x40)))).bind fun t190 => (if t190 = true then ((ephemerisref1_OffsetAt.f k x181000 x181001 x181002 (wrap64 (x7 - (rd x38 x40)))).bind fun bt191 => (if bt191.1 = (rd x38 x40) then (ephemerisref1_LocalInstants.l2 k x7 x8 (wrap64 (x7 - (rd x38 x40))) 0 x38 x39 x40 x181000 x181001 x181002) else (ephemerisref1_LocalInstants.l1 k x7 x8 x38 x39 (wrap64 (x40 + 1)) x181000 x181001 x181002))) else (ephemerisref1_LocalInstants.l1 k x7 x8 x38 x39 (wrap64 (x40 + 1)) x181000 x181001 x181002))) else (none)) else (none)) else (some x8)
def ephemerisref1_LocalInstants.l2 : Nat → Int → List Int → Int → Int → List Int → Int → Int → ByteArray → Int → List (S43) → Option (List Int)
  | 0, _, _, _, _, _, _, _, _, _, _ => none
  | k + 1, x7, x8, x14, x17, x38, x39, x40, x181000, x181001, x181002 => if x17 < (x8.length : Int) then (if 0 ≤ x17 then (if (rd x8 x17) < x14 then (ephemerisref1_LocalInstants.l2 k x7 x8 x14 (wrap64 (x17 + 1)) x38 x39 x40 x181000 x181001 x181002) else (if (rd x8 x17) = x14 then (ephemerisref1_LocalInstants.l1 k x7 x8 x38 x39 (wrap64 (x40 + 1)) x181000 x181001 x181002) else (if x8.length < 17592186044416 then ((runtime_errorString_RuntimeError.f (x8 ++ [0]) x17).bind fun t198 => (if x17 < (t198.length : Int) then (ephemerisref1_LocalInstants.l1 k x7 (t198.set (x17 : Int).toNat x14) x38 x39 (wrap64 (x40 + 1)) x181000 x181001 x181002) else (none))) else (none)))) else (none)) else (if x8.length < 17592186044416 then ((runtime_errorString_RuntimeError.f (x8 ++ [0]) x17).bind fun t205 => (if 0 ≤ x17 then (if x17 < (t205.length : Int) then (ephemerisref1_LocalInstants.l1 k x7 (t205.set (x17 : Int).toNat x14) x38 x39 (wrap64 (x40 + 1)) x181000 x181001 x181002) else (none)) else (none))) else (none))
end
def ephemerisref1_LocalInstants.f (k : Nat) (a0_0 : ByteArray) (a0_1 : Int) (l0_2 : List (S43)) (a1 : Int) (a2 : Int) : Option (List Int) := ephemerisref1_LocalInstants.l0 k (wrap64 ((wrap64 (a1 * 86400000)) + a2)) (([a0_1] : List Int)) l0_2 (l0_2.length : Int) 0 a0_0 a0_1 l0_2
theorem ephemerisref1_LocalInstants.mono_l : ∀ k, (∀ y0 y1 y2 y3 y4 y5 y6 y7, LeO (ephemerisref1_LocalInstants.l0 k y0 y1 y2 y3 y4 y5 y6 y7) (ephemerisref1_LocalInstants.l0 (k + 1) y0 y1 y2 y3 y4 y5 y6 y7)) ∧ (∀ y0 y1 y2 y3 y4 y5 y6 y7, LeO (ephemerisref1_LocalInstants.l1 k y0 y1 y2 y3 y4 y5 y6 y7) (ephemerisref1_LocalInstants.l1 (k + 1) y0 y1 y2 y3 y4 y5 y6 y7)) ∧ (∀ y0 y1 y2 y3 y4 y5 y6 y7 y8 y9, LeO (ephemerisref1_LocalInstants.l2 k y0 y1 y2 y3 y4 y5 y6 y7 y8 y9) (ephemerisref1_LocalInstants.l2 (k + 1) y0 y1 y2 y3 y4 y5 y6 y7 y8 y9))
  | 0 => ⟨fun _ _ _ _ _ _ _ _ r h => by simp [ephemerisref1_LocalInstants.l0] at h, fun _ _ _ _ _ _ _ _ r h => by simp [ephemerisref1_LocalInstants.l1] at h, fun _ _ _ _ _ _ _ _ _ _ r h => by simp [ephemerisref1_LocalInstants.l2] at h⟩
  | k + 1 => by
    obtain ⟨ih0, ih1, ih2⟩ := ephemerisref1_LocalInstants.mono_l k
    refine ⟨?_, ?_, ?_⟩
    · intro y0 y1 y2 y3 y4 y5 y6 y7
      unfold ephemerisref1_LocalInstants.l0
      repeat' first
      | (with_reducible exact ih0 _ _ _ _ _ _ _ _)
      | (with_reducible exact ih1 _ _ _ _ _ _ _ _)
      | (with_reducible exact ih2 _ _ _ _ _ _ _ _ _ _)
      | (with_reducible exact ephemerisref1_Instant.mono _ _)
      | (with_reducible exact ephemerisref1_OffsetAt.mono _ _ _ _ _)
      | (with_reducible exact LeO.refl _)
      | (with_reducible exact LeO.none _)
      | (with_reducible refine LeO.ite ?_ ?_)
      | (with_reducible refine LeO.bind ?_ (fun _ => ?_))
      | exact ih0 _ _ _ _ _ _ _ _
      | exact ih1 _ _ _ _ _ _ _ _
      | exact ih2 _ _ _ _ _ _ _ _ _ _
      | exact ephemerisref1_Instant.mono _ _
      | exact ephemerisref1_OffsetAt.mono _ _ _ _ _
      | exact LeO.none _
      | refine LeO.ite ?_ ?_
      | refine LeO.bind ?_ (fun _ => ?_)
    · intro y0 y1 y2 y3 y4 y5 y6 y7
      unfold ephemerisref1_LocalInstants.l1
      repeat' first
      | (with_reducible exact ih0 _ _ _ _ _ _ _ _)
      | (with_reducible exact ih1 _ _ _ _ _ _ _ _)
      | (with_reducible exact ih2 _ _ _ _ _ _ _ _ _ _)
      | (with_reducible exact ephemerisref1_Instant.mono _ _)
      | (with_reducible exact ephemerisref1_OffsetAt.mono _ _ _ _ _)
      | (with_reducible exact LeO.refl _)
      | (with_reducible exact LeO.none _)
      | (with_reducible refine LeO.ite ?_ ?_)
      | (with_reducible refine LeO.bind ?_ (fun _ => ?_))
      | exact ih0 _ _ _ _ _ _ _ _
      | exact ih1 _ _ _ _ _ _ _ _
      | exact ih2 _ _ _ _ _ _ _ _ _ _
      | exact ephemerisref1_Instant.mono _ _
      | exact ephemerisref1_OffsetAt.mono _ _ _ _ _
      | exact LeO.none _
      | refine LeO.ite ?_ ?_
      | refine LeO.bind ?_ (fun _ => ?_)
    · intro y0 y1 y2 y3 y4 y5 y6 y7 y8 y9
      unfold ephemerisref1_LocalInstants.l2
      repeat' first
      | (with_reducible exact ih0 _ _ _ _ _ _ _ _)
      | (with_reducible exact ih1 _ _ _ _ _ _ _ _)
      | (with_reducible exact ih2 _ _ _ _ _ _ _ _ _ _)
      | (with_reducible exact ephemerisref1_Instant.mono _ _)
      | (with_reducible exact ephemerisref1_OffsetAt.mono _ _ _ _ _)
      | (with_reducible exact LeO.refl _)
      | (with_reducible exact LeO.none _)
      | (with_reducible refine LeO.ite ?_ ?_)
      | (with_reducible refine LeO.bind ?_ (fun _ => ?_))
      | exact ih0 _ _ _ _ _ _ _ _
      | exact ih1 _ _ _ _ _ _ _ _
      | exact ih2 _ _ _ _ _ _ _ _ _ _
      | exact ephemerisref1_Instant.mono _ _
      | exact ephemerisref1_OffsetAt.mono _ _ _ _ _
      | exact LeO.none _
      | refine LeO.ite ?_ ?_
      | refine LeO.bind ?_ (fun _ => ?_)
theorem ephemerisref1_LocalInstants.mono : ∀ a0 a1 a2 a3 a4 k, LeO (ephemerisref1_LocalInstants.f k a0 a1 a2 a3 a4) (ephemerisref1_LocalInstants.f (k + 1) a0 a1 a2 a3 a4) := by
  intro a0 a1 a2 a3 a4 k
  obtain ⟨ih0, ih1, ih2⟩ := ephemerisref1_LocalInstants.mono_l k
  unfold ephemerisref1_LocalInstants.f
  repeat' first
      | (with_reducible exact ih0 _ _ _ _ _ _ _ _)
      | (with_reducible exact ih1 _ _ _ _ _ _ _ _)
      | (with_reducible exact ih2 _ _ _ _ _ _ _ _ _ _)
      | (with_reducible exact ephemerisref1_Instant.mono _ _)
      | (with_reducible exact ephemerisref1_OffsetAt.mono _ _ _ _ _)
      | (with_reducible exact LeO.refl _)
      | (with_reducible exact LeO.none _)
      | (with_reducible refine LeO.ite ?_ ?_)
      | (with_reducible refine LeO.bind ?_ (fun _ => ?_))
      | exact ih0 _ _ _ _ _ _ _ _
      | exact ih1 _ _ _ _ _ _ _ _
      | exact ih2 _ _ _ _ _ _ _ _ _ _
      | exact ephemerisref1_Instant.mono _ _
      | exact ephemerisref1_OffsetAt.mono _ _ _ _ _
      | exact LeO.none _
      | refine LeO.ite ?_ ?_
      | refine LeO.bind ?_ (fun _ => ?_)
set_option maxHeartbeats 8000000 in
set_option maxRecDepth 100000 in
theorem ephemerisref1_LocalInstants.calls (k : Nat) (a0_0 : ByteArray) (a0_1 : Int) (A0_2 : Option Addr) (c0_2 : Nat) (l0_2 : List (S43)) (a1 : Int) (a2 : Int) (r : List Int) (w : World) (hr0_2 : Kd.C k43 w A0_2 l0_2.length l0_2) (hc0_2 : l0_2.length ≤ c0_2) (h : ephemerisref1_LocalInstants.f k a0_0 a0_1 l0_2 a1 a2 = some r) :
    Calls Tryd.prog 16 #[.agg #[.string a0_0, .int .i64 a0_1, .slice A0_2 l0_2.length c0_2], .int .i64 a1, .int .i64 a2] w fun e w' => ∃ v0_ : Value, e = .returned (v0_) ∧ Kd.R (Kd.int .i64) 3 w' w.heap.size (fun _ => True) v0_ r ∧ Below w.heap.size w w' := by
  have hu24 := Tryd.underlying24
  have hu43 := Tryd.underlying43
  have HR0_2 := Aside0.mk hr0_2
  have HC0_2 := Aside0.mk hc0_2
  clear hr0_2 hc0_2
  have HB := Aside0.mk (Below.refl w.heap.size w)
  have H : (ephemerisref1_LocalInstants.l0 k (wrap64 ((wrap64 (a1 * 86400000)) + a2)) (([a0_1] : List Int)) l0_2 (l0_2.length : Int) 0 a0_0 a0_1 l0_2) = some r := h
  clear h
  obtain ⟨y181, hy181⟩ : ∃ y_ : List Int, y_ = (([a0_1] : List Int)) := ⟨_, rfl⟩
  replace H : (ephemerisref1_LocalInstants.l0 k (wrap64 ((wrap64 (a1 * 86400000)) + a2)) y181 l0_2 (l0_2.length : Int) 0 a0_0 a0_1 l0_2) = some r := by first | (rw [hy181]; with_reducible exact H) | (have H2_ := (Option.bind_some _ _).symm.trans H; rw [hy181]; with_reducible exact H2_) | (have H2_ := (Option.bind_some _ _).symm.trans H; with_reducible exact H2_) | with_reducible exact H | (rw [hy181]; exact H) | exact H
  have Ny181 := Aside0.mk hy181
  clear hy181
  have H' := Aside0.mk H
  clear H
  go_enter Tryd.func16, Tryd.ntmps16
  go_wp2_with (first | ((with_reducible refine gate_dst (N := 3) rfl ?_); refine box_event ?hg (N := 3) ?hd (cs := #[.string a0_0, .int .i64 a0_1, .slice A0_2 l0_2.length c0_2]) (t := 24) ?hr ?_; (case hd => rfl); (case hg => rfl); (case hr => first | (go_simp; done) | (go_simp; rfl)); intro gb180 hg w4 hbox hb; have n0_ := Aside0.mk (below_step (by repeat (first | (with_reducible first | exact HB.out | apply below_alloc | apply pw_below_drewN | apply below_drew1) | exact HB.out)) hb); have n1_ := Aside0.mk (hbox); have n2_ := Aside0.mk ((by rw [hg]; exact (below_size (by repeat (first | (with_reducible first | exact HB.out | apply below_alloc | apply pw_below_drewN | apply below_drew1) | exact HB.out))) : w.heap.size ≤ gb180)); have n3_ := Aside0.mk ((by rw [hg]; exact (below_size (by repeat (first | (with_reducible first | exact HB.out | apply below_alloc | apply pw_below_drewN | apply below_drew1) | exact HB.out))) : w.heap.size ≤ gb180)); clear HB; have HB := n0_; have BK180 := n1_; have GW180 := n2_; have GE180 := n3_; clear n0_ n1_ n2_ n3_; clear hb hbox hg; have hcz5_0 : w4.cell? ⟨gb180, 0, none⟩ = some (.string a0_0) := (blk_cell BK180.out 0).trans rfl; have hcz5_1 : w4.cell? ⟨gb180, 1, none⟩ = some (.int .i64 a0_1) := (blk_cell BK180.out 1).trans rfl; have hcz5_2 : w4.cell? ⟨gb180, 2, none⟩ = some (.slice A0_2 l0_2.length c0_2) := (blk_cell BK180.out 2).trans rfl; have hfz5_0 := blk_frozen BK180.out 0; have hfz5_1 := blk_frozen BK180.out 1; have hfz5_2 := blk_frozen BK180.out 2) | ((with_reducible refine gate_dst (N := 24) rfl ?_); refine Kd.R_lit (Kd.int .i64) _ 3 ?hg (N := 24) ?hd (xs := ([a0_1] : List Int)) (inner := [.int .i64 a0_1]) (ok := fun _ => True) (okp := fun _ => True) ?hr ?hp (fun _ hk => hk) trivial (Below.refl _ _) (Nat.le_refl _) (by simp) ?_; (case hd => rfl); (case hg => rfl); (case hr => first | (go_simp; done) | (go_simp; rfl)); (case hp => exact (Reps.one (show Kd.M (Kd.int .i64) _ _ _ a0_1 [.int .i64 a0_1] from rfl) (Reps.none _ _))); intro v182 w6 ho7 hb hg_ hnew_; clear hg_ hnew_; (first | rw [← Ny181.out] at ho7 | (simp only [Int.reduceToNat] at ho7; rw [← Ny181.out] at ho7)); have n0_ := Aside0.mk (Kd.R_lower ho7 (below_size (by repeat (first | (with_reducible first | exact HB.out | apply below_alloc | apply pw_below_drewN | apply below_drew1 | refine below_set ?_ GE180.out) | exact HB.out)))); have n1_ := Aside0.mk (blk_below (g := gb180) (o := .cells #[.string a0_0, .int .i64 a0_1, .slice A0_2 l0_2.length c0_2] 24 (0, 0)) (by (with_reducible repeat (first | refine blk_drewN ?_ _ | refine blk_drew ?_ | refine blk_alloc ?_ _)); exact BK180.out) hb); have n2_ := Aside0.mk (below_step (by repeat (first | (with_reducible first | exact HB.out | apply below_alloc | apply pw_below_drewN | apply below_drew1 | refine below_set ?_ GE180.out) | exact HB.out)) hb); clear BK180; clear HB; have HO183 := n0_; have BK180 := n1_; have HB := n2_; clear n0_ n1_ n2_; clear hb ho7; have hcz8_0 : w6.cell? ⟨gb180, 0, none⟩ = some (.string a0_0) := (blk_cell BK180.out 0).trans rfl; have hcz8_1 : w6.cell? ⟨gb180, 1, none⟩ = some (.int .i64 a0_1) := (blk_cell BK180.out 1).trans rfl; have hcz8_2 : w6.cell? ⟨gb180, 2, none⟩ = some (.slice A0_2 l0_2.length c0_2) := (blk_cell BK180.out 2).trans rfl; have hfz8_0 := blk_frozen BK180.out 0; have hfz8_1 := blk_frozen BK180.out 1; have hfz8_2 := blk_frozen BK180.out 2))
  go_loopg [9, 28] k (fun kq v9 v28 w' => ∃ (x9_1 : List Int) (x28_1 : Int), v28 = .int .i64 x28_1 ∧ Aside0 (ephemerisref1_LocalInstants.l0 kq (wrap64 ((wrap64 (a1 * 86400000)) + a2)) x9_1 l0_2 (l0_2.length : Int) x28_1 a0_0 a0_1 l0_2 = some r) ∧ Aside0 (kq ≤ k) ∧ Aside0 (Kd.R (Kd.int .i64) 3 w' w.heap.size (fun _ => True) v9 x9_1) ∧ Aside0 (w'.heap[gb180]? = some (.cells #[.string a0_0, .int .i64 a0_1, (.slice A0_2 l0_2.length c0_2)] 24 (0, 0))) ∧ Aside0 (Below w.heap.size w w'))
  case atStart => exact ⟨(y181), (0), (by first | rfl | (simp; done) | (simp [*]; done)), H', ⟨Nat.le_refl _⟩, ⟨by (with_reducible repeat (first | apply Kd.R_alloc | apply Kd.R_drewN | apply Kd.R_drew)); exact HO183.out⟩, ⟨by (with_reducible repeat (first | refine blk_drewN ?_ _ | refine blk_drew ?_ | refine blk_alloc ?_ _)); exact BK180.out⟩, ⟨by repeat (first | (with_reducible first | exact HB.out | apply below_alloc | apply pw_below_drewN | apply below_drew1 | refine below_set ?_ GE180.out) | exact HB.out)⟩⟩
  case round =>
    clear H'
    try clear c1
    try clear p2
    try clear p6
    try clear hcz5_0
    try clear hcz5_1
    try clear hcz5_2
    try clear hcz8_0
    try clear hcz8_1
    try clear hcz8_2
    try clear hfz5_0
    try clear hfz5_1
    try clear hfz5_2
    try clear hfz8_0
    try clear hfz8_1
    try clear hfz8_2
    obtain ⟨x9_1, x28_1, rfl, HA, HK1, HO_9, BK180, HB⟩ := hrel
    cases gk with
    | zero => exact absurd HA.out (by simp [ephemerisref1_LocalInstants.l0])
    | succ k1 =>
      have H := HA.out
      clear HA
      simp only [ephemerisref1_LocalInstants.l0] at H
      by_cases c9 : x28_1 < (l0_2.length : Int)
      · rw [if_pos c9] at H
        have c9b0 : decide (x28_1 < (l0_2.length : Int)) = true := decide_eq_true c9
        clear c9
        by_cases c10 : 0 ≤ x28_1
        · rw [if_pos c10] at H
          have c10b0 : decide (0 ≤ x28_1) = true := decide_eq_true c10
          clear c10
          by_cases c11 : x28_1 < (l0_2.length : Int)
          · rw [if_pos c11] at H
            have c11b0 : decide (x28_1 < (l0_2.length : Int)) = true := decide_eq_true c11
            clear c11
            by_cases c12 : x9_1.length < 17592186044416
            · rw [if_pos c12] at H
              have LMc12 := Aside0.mk c12
              clear c12
              obtain ⟨y186, hy186⟩ : ∃ y_ : List Int, y_ = (x9_1 ++ [(rd_T43 l0_2 x28_1).f1]) := ⟨_, rfl⟩
              replace H : (ephemerisref1_LocalInstants.l0 k1 (wrap64 ((wrap64 (a1 * 86400000)) + a2)) y186 l0_2 (l0_2.length : Int) (wrap64 (x28_1 + 1)) a0_0 a0_1 l0_2) = some r := by first | (rw [hy186]; with_reducible exact H) | (have H2_ := (Option.bind_some _ _).symm.trans H; rw [hy186]; with_reducible exact H2_) | (have H2_ := (Option.bind_some _ _).symm.trans H; with_reducible exact H2_) | with_reducible exact H | (rw [hy186]; exact H) | exact H
              have Ny186 := Aside0.mk hy186
              clear hy186
              have H' := Aside0.mk H
              clear H
              have p184 : 0 ≤ (x28_1 : Int) := of_decide_eq_true (by first | (with_reducible assumption) | assumption)
              have q184 : x28_1 < (l0_2.length : Int) := of_decide_eq_true (by first | (with_reducible assumption) | assumption)
              obtain ⟨ad184, e184, hx184_0, hx184_1, hx184_2⟩ := at_T43 HR0_2.out x28_1 p184 q184
              cases e184
              replace hx184_0 := (HB.out.cell (World.block_lt_of_cell? w _ hx184_0)).trans hx184_0
              replace hx184_1 := (HB.out.cell (World.block_lt_of_cell? w _ hx184_1)).trans hx184_1
              replace hx184_2 := (HB.out.cell (World.block_lt_of_cell? w _ hx184_2)).trans hx184_2
              replace p184 := eq_true p184
              replace q184 := eq_true q184
              go_wp2_with (first | ((with_reducible refine gate_dst (N := 11) rfl ?_); refine box_event ?hg (N := 11) ?hd (cs := #[.int .i64 0, .int .i64 0, .string (⟨#[]⟩ : ByteArray)]) (t := 43) ?hr ?_; (case hd => rfl); (case hg => rfl); (case hr => first | (go_simp; done) | (go_simp; rfl)); intro gb185 hg w13 hbox hb; have n0_ := Aside0.mk (Kd.R_below (by (with_reducible repeat (first | apply Kd.R_alloc | apply Kd.R_drewN | apply Kd.R_drew)); exact HO_9.out) hb); have n1_ := Aside0.mk (blk_below (g := gb180) (o := .cells #[.string a0_0, .int .i64 a0_1, .slice (some ad184) l0_2.length c0_2] 24 (0, 0)) (by (with_reducible repeat (first | refine blk_drewN ?_ _ | refine blk_drew ?_ | refine blk_alloc ?_ _)); exact BK180.out) hb); have n2_ := Aside0.mk (below_step (by repeat (first | (with_reducible first | exact HB.out | apply below_alloc | apply pw_below_drewN | apply below_drew1 | refine below_set ?_ GE180.out) | exact HB.out)) hb); have n3_ := Aside0.mk (hbox); have n4_ := Aside0.mk ((by rw [hg]; exact (below_size (by repeat (first | (with_reducible first | exact HB.out | apply below_alloc | apply pw_below_drewN | apply below_drew1 | refine below_set ?_ GE180.out) | exact HB.out))) : w.heap.size ≤ gb185)); have n5_ := Aside0.mk ((by rw [hg]; exact (below_size (by repeat (first | (with_reducible first | exact HB.out | apply below_alloc | apply pw_below_drewN | apply below_drew1 | refine below_set ?_ GE180.out) | exact HB.out))) : w.heap.size ≤ gb185)); have n6_ := Aside0.mk ((by rw [hg]; exact Nat.ne_of_lt (blk_lt (g := gb180) (o := .cells #[.string a0_0, .int .i64 a0_1, .slice (some ad184) l0_2.length c0_2] 24 (0, 0)) (by (with_reducible repeat (first | refine blk_drewN ?_ _ | refine blk_drew ?_ | refine blk_alloc ?_ _)); exact BK180.out)) : gb180 ≠ gb185)); have n7_ := Aside0.mk ((by rw [hg]; exact Nat.ne_of_gt (blk_lt (g := gb180) (o := .cells #[.string a0_0, .int .i64 a0_1, .slice (some ad184) l0_2.length c0_2] 24 (0, 0)) (by (with_reducible repeat (first | refine blk_drewN ?_ _ | refine blk_drew ?_ | refine blk_alloc ?_ _)); exact BK180.out)) : gb185 ≠ gb180)); clear HO_9; clear BK180; clear HB; have HO_9 := n0_; have BK180 := n1_; have HB := n2_; have BK185 := n3_; have GW185 := n4_; have GE185 := n5_; have NB180_185 := n6_; have NB185_180 := n7_; clear n0_ n1_ n2_ n3_ n4_ n5_ n6_ n7_; clear hb hbox hg; have hnb14 := NB185_180.out; have hnc14 := NB180_185.out; have hcz15_0 : w13.cell? ⟨gb185, 0, none⟩ = some (.int .i64 0) := (blk_cell BK185.out 0).trans rfl; have hcz15_1 : w13.cell? ⟨gb185, 1, none⟩ = some (.int .i64 0) := (blk_cell BK185.out 1).trans rfl; have hcz15_2 : w13.cell? ⟨gb185, 2, none⟩ = some (.string (⟨#[]⟩ : ByteArray)) := (blk_cell BK185.out 2).trans rfl; have hfz15_0 := blk_frozen BK185.out 0; have hfz15_1 := blk_frozen BK185.out 1; have hfz15_2 := blk_frozen BK185.out 2) | ((with_reducible refine gate_builtin (b := .append) (xs := #[.tmp 32, .tmp 35]) rfl ?_); at_builtin; refine Kd.R_append (Kd.int .i64) (w0 := w) w.heap.size rfl (.tmp 32) (.tmp 35) 29 3 (.int .i64 0) 8 rfl Tryd.underlying29 info3 rfl (by decide) (by omega) u9 x9_1 ((rd_T43 l0_2 x28_1).f1) [.int .i64 ((rd_T43 l0_2 x28_1).f1)] (fun _ => True) (fun _ => False) rfl (by first | (go_simp; done) | (go_simp; rfl)) ?aP (fun _ hk => hk.elim) ?aF ?aO ?aB ?aS ?aL ?_; (case aP => exact rfl); (case aB => exact (by repeat (first | (with_reducible first | exact HB.out | apply below_alloc | apply pw_below_drewN | apply below_drew1 | refine below_set ?_ GE180.out | refine below_set ?_ GE185.out) | exact HB.out))); (case aF => exact (fun _ _ => trivial)); (case aO => exact (by (with_reducible repeat (first | apply Kd.R_alloc | apply Kd.R_drewN | apply Kd.R_drew)); exact Kd.R_mono (Kd.R_far (p := ⟨gb185, 2, none⟩) (Kd.R_far (p := ⟨gb185, 1, none⟩) (Kd.R_far (p := ⟨gb185, 0, none⟩) (Kd.R_types HO_9.out BK185.out (by decide)) (fun _ hk => hk.2) (.int .i64 ((rd_T43 l0_2 x28_1).f0))) (fun _ hk => hk.2) (.int .i64 ((rd_T43 l0_2 x28_1).f1))) (fun _ hk => hk.2) (.string ((rd_T43 l0_2 x28_1).f2))) (fun _ hk => trivial))); (case aS => exact (below_size (by repeat (first | (with_reducible first | exact HB.out | apply below_alloc | apply pw_below_drewN | apply below_drew1 | refine below_set ?_ GE180.out | refine below_set ?_ GE185.out) | exact HB.out)))); (case aL => have := LMc12.out; omega); intro v187 w16 ho hb hg hat; rw [← Ny186.out] at ho; have n0_ := Aside0.mk (blk_grown (g := gb180) (o := .cells #[.string a0_0, .int .i64 a0_1, .slice (some ad184) l0_2.length c0_2] 24 (0, 0)) (by (with_reducible repeat (first | refine blk_drewN ?_ _ | refine blk_drew ?_ | refine blk_alloc ?_ _)); refine blk_far ?_ NB180_185.out _; (with_reducible repeat (first | refine blk_drewN ?_ _ | refine blk_drew ?_ | refine blk_alloc ?_ _)); refine blk_far ?_ NB180_185.out _; (with_reducible repeat (first | refine blk_drewN ?_ _ | refine blk_drew ?_ | refine blk_alloc ?_ _)); refine blk_far ?_ NB180_185.out _; (with_reducible repeat (first | refine blk_drewN ?_ _ | refine blk_drew ?_ | refine blk_alloc ?_ _)); exact BK180.out) hg (Kd.R_ne HO_9.out BK180.out (by decide))); have n1_ := Aside0.mk (blk_grown (g := gb185) (o := .cells #[.int .i64 ((rd_T43 l0_2 x28_1).f0), .int .i64 ((rd_T43 l0_2 x28_1).f1), .string ((rd_T43 l0_2 x28_1).f2)] 43 (0, 0)) (by (with_reducible repeat (first | refine blk_drewN ?_ _ | refine blk_drew ?_ | refine blk_alloc ?_ _)); refine blk_put (cs := #[.int .i64 ((rd_T43 l0_2 x28_1).f0), .int .i64 ((rd_T43 l0_2 x28_1).f1), .string (⟨#[]⟩ : ByteArray)]) ?_ 2 _ rfl; (with_reducible repeat (first | refine blk_drewN ?_ _ | refine blk_drew ?_ | refine blk_alloc ?_ _)); refine blk_put (cs := #[.int .i64 ((rd_T43 l0_2 x28_1).f0), .int .i64 0, .string (⟨#[]⟩ : ByteArray)]) ?_ 1 _ rfl; (with_reducible repeat (first | refine blk_drewN ?_ _ | refine blk_drew ?_ | refine blk_alloc ?_ _)); refine blk_put (cs := #[.int .i64 0, .int .i64 0, .string (⟨#[]⟩ : ByteArray)]) ?_ 0 _ rfl; (with_reducible repeat (first | refine blk_drewN ?_ _ | refine blk_drew ?_ | refine blk_alloc ?_ _)); exact BK185.out) hg (Kd.R_ne HO_9.out BK185.out (by decide))); have n2_ := Aside0.mk (hb); have n3_ := Aside0.mk (ho); clear BK180; clear BK185; clear HB; clear HO_9; have BK180 := n0_; have BK185 := n1_; have HB := n2_; have HO188 := n3_; clear n0_ n1_ n2_ n3_; clear ho hb hg hat))
              go_roundg k1
              case measure => have := HK1.out; omega
              case rel => exact ⟨(y186), (wrap64 (x28_1 + 1)), (by first | rfl | (simp; done) | (simp [*]; done)), H', ⟨by have := HK1.out; omega⟩, ⟨by (with_reducible repeat (first | apply Kd.R_alloc | apply Kd.R_drewN | apply Kd.R_drew)); exact HO188.out⟩, ⟨by (with_reducible repeat (first | refine blk_drewN ?_ _ | refine blk_drew ?_ | refine blk_alloc ?_ _)); exact BK180.out⟩, ⟨by repeat (first | (with_reducible first | exact HB.out | apply below_alloc | apply pw_below_drewN | apply below_drew1 | refine below_set ?_ GE180.out | refine below_set ?_ GE185.out) | exact HB.out)⟩⟩
            · rw [if_neg c12] at H
              exact absurd H (by simp)
          · rw [if_neg c11] at H
            exact absurd H (by simp)
        · rw [if_neg c10] at H
          exact absurd H (by simp)
      · rw [if_neg c9] at H
        have c9b0 : decide (x28_1 < (l0_2.length : Int)) = false := decide_eq_false c9
        clear c9
        have H' := Aside0.mk H
        clear H
        obtain ⟨Ao17, co17, eo17⟩ := Kd.R_slice HO_9.out
        subst eo17
        go_wp2
        go_loopg [8, 40] k1 (fun kq v8 v40 w' => ∃ (x8_2 : List Int) (x38_2 : List Int) (x40_2 : Int), v40 = .int .i64 x40_2 ∧ Aside0 (ephemerisref1_LocalInstants.l1 kq (wrap64 ((wrap64 (a1 * 86400000)) + a2)) x8_2 x38_2 (x9_1.length : Int) x40_2 a0_0 a0_1 l0_2 = some r) ∧ Aside0 (kq ≤ k1) ∧ Aside0 (Kd.R (Kd.int .i64) 3 w' w.heap.size (fun k_ => some k_ ≠ ((.slice Ao17 x9_1.length co17) : Value).ownBlock) v8 x8_2) ∧ Aside0 (Kd.R (Kd.int .i64) 3 w' w.heap.size (fun k_ => some k_ ≠ (v8 : Value).ownBlock) (.slice Ao17 x9_1.length co17) x38_2) ∧ Aside0 (w'.heap[gb180]? = some (.cells #[.string a0_0, .int .i64 a0_1, (.slice A0_2 l0_2.length c0_2)] 24 (0, 0))) ∧ Aside0 (Below w.heap.size w w'))
        case atStart => exact ⟨(([] : List Int)), (x9_1), (0), (by first | rfl | (simp; done) | (simp [*]; done)), H', ⟨Nat.le_refl _⟩, ⟨by first | exact Kd.R_nil _ _ _ _ _ | exact Kd.N_nil _ _ _ _ _ | exact Kd.V_nil _ _ _ _ _ | exact Kd.Q_nil _ _ _ _ _ | exact Kd.S_nil _ _ _ _ _⟩, ⟨by (with_reducible repeat (first | apply Kd.R_alloc | apply Kd.R_drewN | apply Kd.R_drew)); exact Kd.R_mono HO_9.out (fun _ hk => (by simp [Value.ownBlock]))⟩, ⟨by (with_reducible repeat (first | refine blk_drewN ?_ _ | refine blk_drew ?_ | refine blk_alloc ?_ _)); exact BK180.out⟩, ⟨by repeat (first | (with_reducible first | exact HB.out | apply below_alloc | apply pw_below_drewN | apply below_drew1 | refine below_set ?_ GE180.out) | exact HB.out)⟩⟩
        case round =>
          clear H'
          try clear c1
          try clear p1
          try clear q1
          try clear hx1
          try clear p2
          try clear p6
          try clear c9
          try clear c9b0
          try clear c10
          try clear c10b0
          try clear c11
          try clear c11b0
          try clear c12
          try clear c14
          try clear c16
          try clear hcz15_0
          try clear hcz15_1
          try clear hcz15_2
          try clear hcz5_0
          try clear hcz5_1
          try clear hcz5_2
          try clear hcz8_0
          try clear hcz8_1
          try clear hcz8_2
          try clear hfz15_0
          try clear hfz15_1
          try clear hfz15_2
          try clear hfz5_0
          try clear hfz5_1
          try clear hfz5_2
          try clear hfz8_0
          try clear hfz8_1
          try clear hfz8_2
          try clear hx184_0
          try clear hx184_1
          try clear hx184_2
          try clear p184
          try clear p2
          try clear p6
          try clear q184
          obtain ⟨x8_2, x38_2, x40_2, rfl, HA, HK2, HO_8, HO_38, BK180, HB⟩ := hrel
          have hl38_2 := (Kd.R_reads' HO_38.out).1
          rw [hl38_2] at HO_38
          (try simp only [hl38_2])
          (try simp only [hl38_2] at BK180)
          (try simp only [hl38_2] at HO_8)
          cases gk with
          | zero => exact absurd HA.out (by simp [ephemerisref1_LocalInstants.l1])
          | succ k2 =>
            have H := HA.out
            clear HA
            simp only [ephemerisref1_LocalInstants.l1] at H
            by_cases c18 : x40_2 < (x9_1.length : Int)
            · rw [if_pos c18] at H
              have c18b0 : decide (x40_2 < (x9_1.length : Int)) = true := decide_eq_true c18
              clear c18
              by_cases c19 : 0 ≤ x40_2
              · rw [if_pos c19] at H
                have c19b0 : decide (0 ≤ x40_2) = true := decide_eq_true c19
                clear c19
                by_cases c20 : x40_2 < (x38_2.length : Int)
                · rw [if_pos c20] at H
                  have c20b0 : decide (x40_2 < (x38_2.length : Int)) = true := decide_eq_true c20
                  clear c20
                  replace H := Option.bind_eq_some_iff.mp H
                  obtain ⟨t190, A210, H⟩ := H
                  replace H : (if t190 = true then ((ephemerisref1_OffsetAt.f k2 a0_0 a0_1 l0_2 (wrap64 ((wrap64 ((wrap64 (a1 * 86400000)) + a2)) - (rd x38_2 x40_2)))).bind fun bt191 => (if bt191.1 = (rd x38_2 x40_2) then (ephemerisref1_LocalInstants.l2 k2 (wrap64 ((wrap64 (a1 * 86400000)) + a2)) x8_2 (wrap64 ((wrap64 ((wrap64 (a1 * 86400000)) + a2)) - (rd x38_2 x40_2))) 0 x38_2 (x9_1.length : Int) x40_2 a0_0 a0_1 l0_2) else (ephemerisref1_LocalInstants.l1 k2 (wrap64 ((wrap64 (a1 * 86400000)) + a2)) x8_2 x38_2 (x9_1.length : Int) (wrap64 (x40_2 + 1)) a0_0 a0_1 l0_2))) else (ephemerisref1_LocalInstants.l1 k2 (wrap64 ((wrap64 (a1 * 86400000)) + a2)) x8_2 x38_2 (x9_1.length : Int) (wrap64 (x40_2 + 1)) a0_0 a0_1 l0_2)) = some r := H
                  have A21 := Aside0.mk A210
                  clear A210
                  by_cases c22 : t190 = true
                  · subst c22
                    have H1 : ((ephemerisref1_OffsetAt.f k2 a0_0 a0_1 l0_2 (wrap64 ((wrap64 ((wrap64 (a1 * 86400000)) + a2)) - (rd x38_2 x40_2)))).bind fun bt191 => (if bt191.1 = (rd x38_2 x40_2) then (ephemerisref1_LocalInstants.l2 k2 (wrap64 ((wrap64 (a1 * 86400000)) + a2)) x8_2 (wrap64 ((wrap64 ((wrap64 (a1 * 86400000)) + a2)) - (rd x38_2 x40_2))) 0 x38_2 (x9_1.length : Int) x40_2 a0_0 a0_1 l0_2) else (ephemerisref1_LocalInstants.l1 k2 (wrap64 ((wrap64 (a1 * 86400000)) + a2)) x8_2 x38_2 (x9_1.length : Int) (wrap64 (x40_2 + 1)) a0_0 a0_1 l0_2))) = some r := by rw [if_pos rfl] at H; exact H
                    clear H
                    have H := H1
                    clear H1
                    replace H := Option.bind_eq_some_iff.mp H
                    obtain ⟨⟨t191, t192⟩, A230, H⟩ := H
                    replace H : (if t191 = (rd x38_2 x40_2) then (ephemerisref1_LocalInstants.l2 k2 (wrap64 ((wrap64 (a1 * 86400000)) + a2)) x8_2 (wrap64 ((wrap64 ((wrap64 (a1 * 86400000)) + a2)) - (rd x38_2 x40_2))) 0 x38_2 (x9_1.length : Int) x40_2 a0_0 a0_1 l0_2) else (ephemerisref1_LocalInstants.l1 k2 (wrap64 ((wrap64 (a1 * 86400000)) + a2)) x8_2 x38_2 (x9_1.length : Int) (wrap64 (x40_2 + 1)) a0_0 a0_1 l0_2)) = some r := H
                    have A23 := Aside0.mk A230
                    clear A230
                    by_cases c24 : t191 = (rd x38_2 x40_2)
                    · rw [if_pos c24] at H
                      have c24b0 : (t191 == (rd x38_2 x40_2)) = true := beq_iff_eq.mpr c24
                      have c24b1 : (t191 != (rd x38_2 x40_2)) = false := bne_eq_false_iff_eq.mpr c24
                      clear c24
                      have H' := Aside0.mk H
                      clear H
                      have p189 : 0 ≤ (x40_2 : Int) := of_decide_eq_true (by first | (with_reducible assumption) | assumption)
                      have q189 : x40_2 < (x38_2.length : Int) := of_decide_eq_true (by first | (with_reducible assumption) | assumption)
                      obtain ⟨ad189, e189, hx189_0⟩ := Kd.at_int (Kd.R_reads' HO_38.out).2.2 x40_2 p189 q189
                      cases e189
                      replace p189 := eq_true p189
                      replace q189 := eq_true q189
                      go_wp2_with (first | ((with_reducible refine gate_callee (f := 24) rfl ?_); refine goesL_ (some 48) rfl rfl Tryd.func24 (by kernel_rfl) rfl #[.int .i64 (wrap64 ((wrap64 ((wrap64 (a1 * 86400000)) + a2)) - (rd x38_2 x40_2)))] rfl (by (try simp only [List.map_toArray, List.map_cons, List.map_nil]); first | done | rfl | (simp only [List.length_drop, List.length_take]; rfl)) ?_; (with_reducible refine (ephemerisref1_Instant.calls k2 (wrap64 ((wrap64 ((wrap64 (a1 * 86400000)) + a2)) - (rd x38_2 x40_2))) true _ A21.out).mono ?_); rintro e w' ⟨rfl, ⟨nd, rfl⟩⟩; refine ⟨_, rfl, ?_⟩; have hcz25_0 : wr.cell? ⟨gb180, 0, none⟩ = some (.string a0_0) := (blk_cell BK180.out 0).trans rfl; have hcz25_1 : wr.cell? ⟨gb180, 1, none⟩ = some (.int .i64 a0_1) := (blk_cell BK180.out 1).trans rfl; have hcz25_2 : wr.cell? ⟨gb180, 2, none⟩ = some (.slice A0_2 l0_2.length c0_2) := (blk_cell BK180.out 2).trans rfl; have hfz25_0 := blk_frozen BK180.out 0; have hfz25_1 := blk_frozen BK180.out 1; have hfz25_2 := blk_frozen BK180.out 2) | ((with_reducible refine gate_callee (f := 46) rfl ?_); refine goesL_ (some 53) rfl rfl Tryd.func46 (by kernel_rfl) rfl #[.agg #[.string a0_0, .int .i64 a0_1, .slice A0_2 l0_2.length c0_2], .int .i64 (wrap64 ((wrap64 ((wrap64 (a1 * 86400000)) + a2)) - (rd x38_2 x40_2)))] rfl (by (try simp only [List.map_toArray, List.map_cons, List.map_nil]); first | done | rfl | (simp only [List.length_drop, List.length_take]; rfl)) ?_; (with_reducible refine (ephemerisref1_OffsetAt.calls k2 a0_0 a0_1 _ _ l0_2 (wrap64 ((wrap64 ((wrap64 (a1 * 86400000)) + a2)) - (rd x38_2 x40_2))) t191 t192 _ ?side1 ?side2 A23.out).mono ?_); (case side1 => repeat (first | exact (Kd.C_below HR0_2.out (by repeat (first | (with_reducible first | exact HB.out | apply below_alloc | apply pw_below_drewN | apply below_drew1 | refine below_set ?_ GE180.out) | exact HB.out))) | (with_reducible refine Kd.C_alloc ?_ _) | (with_reducible refine Kd.C_drewN ?_ _) | (with_reducible refine Kd.C_drew ?_))); (case side2 => exact HC0_2.out); rintro e w26 ⟨rfl, hb⟩; refine ⟨_, rfl, ?_⟩; have n0_ := Aside0.mk (Kd.R_below (by (with_reducible repeat (first | apply Kd.R_alloc | apply Kd.R_drewN | apply Kd.R_drew)); exact HO_8.out) hb); have n1_ := Aside0.mk (Kd.R_below (by (with_reducible repeat (first | apply Kd.R_alloc | apply Kd.R_drewN | apply Kd.R_drew)); exact HO_38.out) hb); have n2_ := Aside0.mk (blk_below (g := gb180) (o := .cells #[.string a0_0, .int .i64 a0_1, .slice A0_2 l0_2.length c0_2] 24 (0, 0)) (by (with_reducible repeat (first | refine blk_drewN ?_ _ | refine blk_drew ?_ | refine blk_alloc ?_ _)); exact BK180.out) hb); have n3_ := Aside0.mk (below_step (by repeat (first | (with_reducible first | exact HB.out | apply below_alloc | apply pw_below_drewN | apply below_drew1 | refine below_set ?_ GE180.out) | exact HB.out)) hb); clear HO_8; clear HO_38; clear BK180; clear HB; have HO_8 := n0_; have HO_38 := n1_; have BK180 := n2_; have HB := n3_; clear n0_ n1_ n2_ n3_; (try clear hb); (try clear hb2); (try clear hk); (try clear hi)))
                      go_loopg [17] k2 (fun kq v17 w' => ∃ (x17_3 : Int), v17 = .int .i64 x17_3 ∧ Aside0 (ephemerisref1_LocalInstants.l2 kq (wrap64 ((wrap64 (a1 * 86400000)) + a2)) x8_2 (wrap64 ((wrap64 ((wrap64 (a1 * 86400000)) + a2)) - (rd x38_2 x40_2))) x17_3 x38_2 (x9_1.length : Int) x40_2 a0_0 a0_1 l0_2 = some r) ∧ Aside0 (kq ≤ k2) ∧ Aside0 (Kd.R (Kd.int .i64) 3 w' w.heap.size (fun k_ => some k_ ≠ ((.slice (some ad189) x38_2.length co17) : Value).ownBlock) u8 x8_2) ∧ Aside0 (Kd.R (Kd.int .i64) 3 w' w.heap.size (fun k_ => some k_ ≠ (u8 : Value).ownBlock) (.slice (some ad189) x38_2.length co17) x38_2) ∧ Aside0 (w'.heap[gb180]? = some (.cells #[.string a0_0, .int .i64 a0_1, (.slice A0_2 l0_2.length c0_2)] 24 (0, 0))) ∧ Aside0 (Below w.heap.size w w'))
                      case atStart => exact ⟨(0), (by first | rfl | (simp; done) | (simp [*]; done)), H', ⟨Nat.le_refl _⟩, ⟨by (try simp only [hl38_2]); (with_reducible repeat (first | apply Kd.R_alloc | apply Kd.R_drewN | apply Kd.R_drew)); exact HO_8.out⟩, ⟨by (try simp only [hl38_2]); (with_reducible repeat (first | apply Kd.R_alloc | apply Kd.R_drewN | apply Kd.R_drew)); exact HO_38.out⟩, ⟨by (try simp only [hl38_2]); (with_reducible repeat (first | refine blk_drewN ?_ _ | refine blk_drew ?_ | refine blk_alloc ?_ _)); exact BK180.out⟩, ⟨by repeat (first | (with_reducible first | exact HB.out | apply below_alloc | apply pw_below_drewN | apply below_drew1 | refine below_set ?_ GE180.out) | exact HB.out)⟩⟩
                      case round =>
                        clear H'
                        try clear c1
                        try clear p1
                        try clear q1
                        try clear hx1
                        try clear c2
                        try clear p2
                        try clear c4
                        try clear p6
                        try clear c9
                        try clear c9b0
                        try clear c10
                        try clear c10b0
                        try clear c11
                        try clear c11b0
                        try clear c12
                        try clear c14
                        try clear c16
                        try clear c18
                        try clear c18b0
                        try clear p18
                        try clear q18
                        try clear hx18
                        try clear c19
                        try clear c19b0
                        try clear c20
                        try clear c20b0
                        try clear c22
                        try clear c24
                        try clear c24b0
                        try clear c24b1
                        try clear hcz15_0
                        try clear hcz15_1
                        try clear hcz15_2
                        try clear hcz25_0
                        try clear hcz25_1
                        try clear hcz25_2
                        try clear hcz5_0
                        try clear hcz5_1
                        try clear hcz5_2
                        try clear hcz8_0
                        try clear hcz8_1
                        try clear hcz8_2
                        try clear hfz15_0
                        try clear hfz15_1
                        try clear hfz15_2
                        try clear hfz25_0
                        try clear hfz25_1
                        try clear hfz25_2
                        try clear hfz5_0
                        try clear hfz5_1
                        try clear hfz5_2
                        try clear hfz8_0
                        try clear hfz8_1
                        try clear hfz8_2
                        try clear hx184_0
                        try clear hx184_1
                        try clear hx184_2
                        try clear hx189_0
                        try clear p1
                        try clear p184
                        try clear p189
                        try clear p2
                        try clear p6
                        try clear q1
                        try clear q184
                        try clear q189
                        obtain ⟨x17_3, rfl, HA, HK3, HO_8, HO_38, BK180, HB⟩ := hrel
                        cases gk with
                        | zero => exact absurd HA.out (by simp [ephemerisref1_LocalInstants.l2])
                        | succ k3 =>
                          have H := HA.out
                          clear HA
                          simp only [ephemerisref1_LocalInstants.l2] at H
                          by_cases c27 : x17_3 < (x8_2.length : Int)
                          · rw [if_pos c27] at H
                            have c27b0 : decide (x17_3 < (x8_2.length : Int)) = true := decide_eq_true c27
                            clear c27
                            by_cases c28 : 0 ≤ x17_3
                            · rw [if_pos c28] at H
                              have c28b0 : decide (0 ≤ x17_3) = true := decide_eq_true c28
                              clear c28
                              by_cases c29 : (rd x8_2 x17_3) < (wrap64 ((wrap64 ((wrap64 (a1 * 86400000)) + a2)) - (rd x38_2 x40_2)))
                              · rw [if_pos c29] at H
                                have c29b0 : decide ((rd x8_2 x17_3) < (wrap64 ((wrap64 ((wrap64 (a1 * 86400000)) + a2)) - (rd x38_2 x40_2)))) = true := decide_eq_true c29
                                clear c29
                                have H' := Aside0.mk H
                                clear H
                                obtain ⟨Ao30, co30, eo30⟩ := Kd.R_slice HO_8.out
                                subst eo30
                                have p193 : 0 ≤ (x17_3 : Int) := of_decide_eq_true (by first | (with_reducible assumption) | assumption)
                                have q193 : x17_3 < (x8_2.length : Int) := of_decide_eq_true (by first | (with_reducible assumption) | assumption)
                                obtain ⟨ad193, e193, hx193_0⟩ := Kd.at_int (Kd.R_reads' HO_8.out).2.2 x17_3 p193 q193
                                cases e193
                                replace p193 := eq_true p193
                                replace q193 := eq_true q193
                                go_wp2
                                go_roundg k3
                                case measure => have := HK1.out; have := HK2.out; have := HK3.out; omega
                                case rel => exact ⟨(wrap64 (x17_3 + 1)), (by first | rfl | (simp; done) | (simp [*]; done)), H', ⟨by have := HK1.out; have := HK2.out; have := HK3.out; omega⟩, ⟨by (try simp only [hl38_2]); (with_reducible repeat (first | apply Kd.R_alloc | apply Kd.R_drewN | apply Kd.R_drew)); exact HO_8.out⟩, ⟨by (try simp only [hl38_2]); (with_reducible repeat (first | apply Kd.R_alloc | apply Kd.R_drewN | apply Kd.R_drew)); exact HO_38.out⟩, ⟨by (try simp only [hl38_2]); (with_reducible repeat (first | refine blk_drewN ?_ _ | refine blk_drew ?_ | refine blk_alloc ?_ _)); exact BK180.out⟩, ⟨by repeat (first | (with_reducible first | exact HB.out | apply below_alloc | apply pw_below_drewN | apply below_drew1 | refine below_set ?_ GE180.out) | exact HB.out)⟩⟩
                              · rw [if_neg c29] at H
                                have c29b0 : decide ((rd x8_2 x17_3) < (wrap64 ((wrap64 ((wrap64 (a1 * 86400000)) + a2)) - (rd x38_2 x40_2)))) = false := decide_eq_false c29
                                clear c29
                                by_cases c31 : (rd x8_2 x17_3) = (wrap64 ((wrap64 ((wrap64 (a1 * 86400000)) + a2)) - (rd x38_2 x40_2)))
                                · rw [if_pos c31] at H
                                  have c31b0 : ((rd x8_2 x17_3) == (wrap64 ((wrap64 ((wrap64 (a1 * 86400000)) + a2)) - (rd x38_2 x40_2)))) = true := beq_iff_eq.mpr c31
                                  have c31b1 : ((rd x8_2 x17_3) != (wrap64 ((wrap64 ((wrap64 (a1 * 86400000)) + a2)) - (rd x38_2 x40_2)))) = false := bne_eq_false_iff_eq.mpr c31
                                  clear c31
                                  have H' := Aside0.mk H
                                  clear H
                                  obtain ⟨Ao32, co32, eo32⟩ := Kd.R_slice HO_8.out
                                  subst eo32
                                  have p193 : 0 ≤ (x17_3 : Int) := of_decide_eq_true (by first | (with_reducible assumption) | assumption)
                                  have q193 : x17_3 < (x8_2.length : Int) := of_decide_eq_true (by first | (with_reducible assumption) | assumption)
                                  obtain ⟨ad193, e193, hx193_0⟩ := Kd.at_int (Kd.R_reads' HO_8.out).2.2 x17_3 p193 q193
                                  cases e193
                                  replace p193 := eq_true p193
                                  replace q193 := eq_true q193
                                  have p194 : 0 ≤ (x17_3 : Int) := of_decide_eq_true (by first | (with_reducible assumption) | assumption)
                                  have q194 : x17_3 < (x8_2.length : Int) := of_decide_eq_true (by first | (with_reducible assumption) | assumption)
                                  obtain ⟨ad194, e194, hx194_0⟩ := Kd.at_int (Kd.R_reads' HO_8.out).2.2 x17_3 p194 q194
                                  obtain rfl : ad193 = ad194 := (by injection e194)
                                  replace p194 := eq_true p194
                                  replace q194 := eq_true q194
                                  go_wp2
                                  (try simp only [← hl38_2])
                                  go_roundg k3
                                  case measure => have := HK1.out; have := HK2.out; have := HK3.out; omega
                                  case rel => exact ⟨(x8_2), (x38_2), (wrap64 (x40_2 + 1)), (by first | rfl | (simp; done) | (simp [*]; done)), H', ⟨by have := HK1.out; have := HK2.out; have := HK3.out; omega⟩, ⟨by (try simp only [hl38_2]); (with_reducible repeat (first | apply Kd.R_alloc | apply Kd.R_drewN | apply Kd.R_drew)); exact HO_8.out⟩, ⟨by (try simp only [hl38_2]); (with_reducible repeat (first | apply Kd.R_alloc | apply Kd.R_drewN | apply Kd.R_drew)); exact HO_38.out⟩, ⟨by (try simp only [hl38_2]); (with_reducible repeat (first | refine blk_drewN ?_ _ | refine blk_drew ?_ | refine blk_alloc ?_ _)); exact BK180.out⟩, ⟨by repeat (first | (with_reducible first | exact HB.out | apply below_alloc | apply pw_below_drewN | apply below_drew1 | refine below_set ?_ GE180.out) | exact HB.out)⟩⟩
                                · rw [if_neg c31] at H
                                  have c31b0 : ((rd x8_2 x17_3) == (wrap64 ((wrap64 ((wrap64 (a1 * 86400000)) + a2)) - (rd x38_2 x40_2)))) = false := beq_eq_false_iff_ne.mpr c31
                                  have c31b1 : ((rd x8_2 x17_3) != (wrap64 ((wrap64 ((wrap64 (a1 * 86400000)) + a2)) - (rd x38_2 x40_2)))) = true := bne_iff_ne.mpr c31
                                  by_cases c33 : x8_2.length < 17592186044416
                                  · rw [if_pos c33] at H
                                    have LMc33 := Aside0.mk c33
                                    clear c33
                                    obtain ⟨y195, hy195⟩ : ∃ y_ : List Int, y_ = (x8_2 ++ [0]) := ⟨_, rfl⟩
                                    replace H : ((runtime_errorString_RuntimeError.f y195 x17_3).bind fun t198 => (if x17_3 < (t198.length : Int) then (ephemerisref1_LocalInstants.l1 k3 (wrap64 ((wrap64 (a1 * 86400000)) + a2)) (t198.set (x17_3 : Int).toNat (wrap64 ((wrap64 ((wrap64 (a1 * 86400000)) + a2)) - (rd x38_2 x40_2)))) x38_2 (x9_1.length : Int) (wrap64 (x40_2 + 1)) a0_0 a0_1 l0_2) else (none))) = some r := by first | (rw [hy195]; with_reducible exact H) | (have H2_ := (Option.bind_some _ _).symm.trans H; rw [hy195]; with_reducible exact H2_) | (have H2_ := (Option.bind_some _ _).symm.trans H; with_reducible exact H2_) | with_reducible exact H | (rw [hy195]; exact H) | exact H
                                    have Ny195 := Aside0.mk hy195
                                    clear hy195
                                    replace H := Option.bind_eq_some_iff.mp H
                                    obtain ⟨t198, A340, H⟩ := H
                                    replace H : (if x17_3 < (t198.length : Int) then (ephemerisref1_LocalInstants.l1 k3 (wrap64 ((wrap64 (a1 * 86400000)) + a2)) (t198.set (x17_3 : Int).toNat (wrap64 ((wrap64 ((wrap64 (a1 * 86400000)) + a2)) - (rd x38_2 x40_2)))) x38_2 (x9_1.length : Int) (wrap64 (x40_2 + 1)) a0_0 a0_1 l0_2) else (none)) = some r := H
                                    have A34 := Aside0.mk A340
                                    clear A340
                                    by_cases c35 : x17_3 < (t198.length : Int)
                                    · rw [if_pos c35] at H
                                      have c35b0 : decide (x17_3 < (t198.length : Int)) = true := decide_eq_true c35
                                      clear c35
                                      obtain ⟨y201, hy201⟩ : ∃ y_ : List Int, y_ = (t198.set (x17_3 : Int).toNat (wrap64 ((wrap64 ((wrap64 (a1 * 86400000)) + a2)) - (rd x38_2 x40_2)))) := ⟨_, rfl⟩
                                      replace H : (ephemerisref1_LocalInstants.l1 k3 (wrap64 ((wrap64 (a1 * 86400000)) + a2)) y201 x38_2 (x9_1.length : Int) (wrap64 (x40_2 + 1)) a0_0 a0_1 l0_2) = some r := by first | (rw [hy201]; with_reducible exact H) | (have H2_ := (Option.bind_some _ _).symm.trans H; rw [hy201]; with_reducible exact H2_) | (have H2_ := (Option.bind_some _ _).symm.trans H; with_reducible exact H2_) | with_reducible exact H | (rw [hy201]; exact H) | exact H
                                      have Ny201 := Aside0.mk hy201
                                      clear hy201
                                      have H' := Aside0.mk H
                                      clear H
                                      obtain ⟨Ao37, co37, eo37⟩ := Kd.R_slice HO_8.out
                                      subst eo37
                                      have p193 : 0 ≤ (x17_3 : Int) := of_decide_eq_true (by first | (with_reducible assumption) | assumption)
                                      have q193 : x17_3 < (x8_2.length : Int) := of_decide_eq_true (by first | (with_reducible assumption) | assumption)
                                      obtain ⟨ad193, e193, hx193_0⟩ := Kd.at_int (Kd.R_reads' HO_8.out).2.2 x17_3 p193 q193
                                      cases e193
                                      replace p193 := eq_true p193
                                      replace q193 := eq_true q193
                                      have p194 : 0 ≤ (x17_3 : Int) := of_decide_eq_true (by first | (with_reducible assumption) | assumption)
                                      have q194 : x17_3 < (x8_2.length : Int) := of_decide_eq_true (by first | (with_reducible assumption) | assumption)
                                      obtain ⟨ad194, e194, hx194_0⟩ := Kd.at_int (Kd.R_reads' HO_8.out).2.2 x17_3 p194 q194
                                      obtain rfl : ad193 = ad194 := (by injection e194)
                                      replace p194 := eq_true p194
                                      replace q194 := eq_true q194
                                      go_upto_region 21 with (((with_reducible refine gate_builtin (b := .append) (xs := #[.tmp 85, .tmp 86]) rfl ?_); at_builtin; refine Kd.R_append (Kd.int .i64) (w0 := w) w.heap.size rfl (.tmp 85) (.tmp 86) 29 3 (.int .i64 0) 8 rfl Tryd.underlying29 info3 rfl (by decide) (by omega) (.slice (some ad193) x8_2.length co37) x8_2 0 [.int .i64 0] (fun k_ => some k_ ≠ (.slice (some ad189) x38_2.length co17 : Value).ownBlock) (fun _ => False) rfl rfl ?aP (fun _ hk => hk.elim) ?aF ?aO ?aB ?aS ?aL ?_; (case aP => exact rfl); (case aB => exact (by repeat (first | (with_reducible first | exact HB.out | apply below_alloc | apply pw_below_drewN | apply below_drew1 | refine below_set ?_ GE180.out) | exact HB.out))); (case aF => exact (fun k_ hk => Kd.fresh' (Kd.R_lt (by (with_reducible repeat (first | apply Kd.R_alloc | apply Kd.R_drewN | apply Kd.R_drew)); exact HO_38.out)) k_ hk)); (case aO => exact (by (with_reducible repeat (first | apply Kd.R_alloc | apply Kd.R_drewN | apply Kd.R_drew)); exact HO_8.out)); (case aS => exact (below_size (by repeat (first | (with_reducible first | exact HB.out | apply below_alloc | apply pw_below_drewN | apply below_drew1 | refine below_set ?_ GE180.out) | exact HB.out)))); (case aL => have := LMc33.out; omega); intro v196 w38 ho hb hg hat; rw [← Ny195.out] at ho; have n0_ := Aside0.mk (Kd.R_after (ok := (fun _ => True)) (by (with_reducible repeat (first | apply Kd.R_alloc | apply Kd.R_drewN | apply Kd.R_drew)); exact Kd.R_mono HO_38.out (fun _ hk => ⟨trivial, hk⟩)) hg hat); have n1_ := Aside0.mk (blk_grown (g := gb180) (o := .cells #[.string a0_0, .int .i64 a0_1, .slice A0_2 l0_2.length c0_2] 24 (0, 0)) (by (with_reducible repeat (first | refine blk_drewN ?_ _ | refine blk_drew ?_ | refine blk_alloc ?_ _)); exact BK180.out) hg (Kd.R_ne HO_8.out BK180.out (by decide))); have n2_ := Aside0.mk (hb); have n3_ := Aside0.mk (ho); clear HO_38; clear BK180; clear HB; clear HO_8; have HO_38 := n0_; have BK180 := n1_; have HB := n2_; have HO197 := n3_; clear n0_ n1_ n2_ n3_; clear ho hb hg hat; obtain ⟨Ao39, co39, eo39⟩ := Kd.R_slice HO197.out; subst eo39))
                                      have sh36 : (0 ≤ x17_3 ∧ x17_3 < (y195.length : Int)) ∧ y195.take (x17_3.toNat + 1) ++ (y195.drop x17_3.toNat).take (y195.length - (x17_3.toNat + 1)) = t198 := by
                                        have hA := A34.out
                                        unfold runtime_errorString_RuntimeError.f at hA
                                        split at hA
                                        · exact ⟨by assumption, Option.some.inj hA⟩
                                        · cases hA
                                      obtain ⟨⟨sh0, sh1⟩, sh2⟩ := sh36
                                      obtain ⟨i36, hi36⟩ : ∃ i : Nat, x17_3 = (i : Int) := ⟨x17_3.toNat, by omega⟩
                                      have hti36 : x17_3.toNat = i36 := by omega
                                      rw [hti36] at sh2
                                      have hlen36 : y195.length < 17592186044417 := by have := LMc33.out; rw [Ny195.out, List.length_append]; simp only [List.length_cons, List.length_nil]; omega
                                      have hwr36 : IntKind.i64.wrap (x17_3 + 1) = x17_3 + 1 := by unfold IntKind.wrap; simp [IntKind.bits, IntKind.signed]; omega
                                      have hz36 := eq_true (show (0 : Int) ≤ x17_3 + 1 by omega)
                                      have hb36 := eq_true (show (x17_3 + 1 ≤ (y195.length : Int)) by omega)
                                      have hc36 := eq_true (show (x17_3 ≤ (y195.length : Int)) by omega)
                                      have ht36 : (x17_3 + 1).toNat = i36 + 1 := by omega
                                      have hcap36 : y195.length ≤ co39 := (Kd.R_reads' HO197.out).2.1
                                      have hne36 := eq_false (show ¬ (co39 = i36) by omega)
                                      obtain ⟨go36, co36, eo36, gb36, gl36, cl36, HG36⟩ := Kd.R_form HO197.out (by omega)
                                      (first | cases eo36 | (injection eo36 with ea_ en_ ec_; (first | subst ea_ | (injection ea_ with ea_; subst ea_)); subst ec_; clear en_))
                                      have GB36 := Aside0.mk gb36
                                      obtain ⟨dp36, hdpe36⟩ : ∃ dp : Option Addr, (if co39 = i36 + 1 then (some ⟨go36, 0, none⟩ : Option Addr) else some ⟨go36, i36 + 1, none⟩) = dp := ⟨_, rfl⟩
                                      have hdp36 : i36 + 1 < y195.length → dp36 = some ⟨go36, i36 + 1, none⟩ := fun h_ => hdpe36.symm.trans (if_neg (by omega))
                                      have HOd_ : Kd.R (Kd.int .i64) 3 w38.drew w.heap.size (fun k_ => some k_ ≠ (.slice (some ad189) x38_2.length co17 : Value).ownBlock) (.slice (some ⟨go36, 0, none⟩) y195.length co39) y195 := by
                                        (with_reducible repeat (first | apply Kd.R_alloc | apply Kd.R_drewN | apply Kd.R_drew)); exact HO197.out
                                      have HBd_ : Below w.heap.size w w38.drew := by repeat (first | (with_reducible first | exact HB.out | apply below_alloc | apply pw_below_drewN | apply below_drew1) | exact HB.out)
                                      obtain ⟨w40, hcopy36, hrow40, hg40, hbel40⟩ := Kd.R_shift_run (P := Tryd.prog) (enc := fun x : Int => .int .i64 x) (h1 := fun _ => rfl) (0 : Int) w.heap.size 29 3 3 Tryd.underlying29 (by kernel_rfl) go36 co39 y195 i36 (by omega) _ dp36 hdp36 HOd_
                                      have hi36b := Aside0.mk hi36
                                      clear hi36
                                      have sh0b := eq_true sh0
                                      go_region_law (fail)
                                      clear sh0b
                                      clear hti36 ht36
                                      have hi36 := hi36b.out
                                      clear hi36b
                                      rw [sh2] at hrow40
                                      have hl40 : t198.length = y195.length := by rw [← sh2, List.length_append, List.length_take, List.length_take, List.length_drop]; omega
                                      have n0_ := Aside0.mk (Kd.R_after (v := (.slice (some ⟨go36, 0, none⟩) y195.length co39)) (v1 := (.slice (some ⟨go36, 0, none⟩) y195.length co39)) (ok := (fun _ => True)) (by (with_reducible repeat (first | apply Kd.R_alloc | apply Kd.R_drewN | apply Kd.R_drew)); exact HO_38.out) hg40 (.inl rfl))
                                      have n1_ := Aside0.mk (blk_grown (g := gb180) (o := .cells #[.string a0_0, .int .i64 a0_1, .slice A0_2 l0_2.length c0_2] 24 (0, 0)) (by (with_reducible repeat (first | refine blk_drewN ?_ _ | refine blk_drew ?_ | refine blk_alloc ?_ _)); exact BK180.out) hg40 (Kd.R_ne HO197.out BK180.out (by decide)))
                                      have n2_ := Aside0.mk (hbel40 _ HBd_ (below_size HBd_))
                                      have HO200 : Aside0 (Kd.R (Kd.int .i64) 3 w40 w.heap.size (fun k_ => some k_ ≠ (.slice (some ad189) x38_2.length co17 : Value).ownBlock) (.slice (some ⟨go36, 0, none⟩) y195.length co39) t198) := ⟨hrow40⟩
                                      clear HO_38 BK180 HB HO197
                                      have HO_38 := n0_
                                      have BK180 := n1_
                                      have HB := n2_
                                      clear n0_ n1_ n2_ HOd_ HBd_ hcopy36 hdpe36 hdp36 hg40 hbel40 hrow40 hwr36 hz36 hb36 hc36 hne36
                                      have p36_ : 0 ≤ x17_3 := by omega
                                      have q36_ : x17_3 < (t198.length : Int) := by omega
                                      have q36y_ : x17_3 < (y195.length : Int) := by omega
                                      obtain ⟨hx36_0, hf36_0⟩ := Kd.R_celln 0 HO200.out x17_3 p36_ q36y_
                                      obtain ⟨hy41_, hz41_⟩ := Kd.R_celln 0 HO200.out x17_3 p36_ q36y_
                                      have HP41 := Kd.R_putg HO200.out x17_3 (wrap64 ((wrap64 ((wrap64 (a1 * 86400000)) + a2)) - (rd x38_2 x40_2)))
                                      replace p36_ := eq_true p36_
                                      replace q36_ := eq_true q36_
                                      replace q36y_ := eq_true q36y_
                                      clear hi36 hl40
                                      go_wp2_with (first | ((with_reducible refine gate_store (t := 3) (p := 99) rfl ?_); refine store_event (t := 3) (p := 99) (v := ?vo_w42) (w1 := (w40.setCell ⟨go36, (x17_3 : Int).toNat, none⟩ (.int .i64 (wrap64 ((wrap64 ((wrap64 (a1 * 86400000)) + a2)) - (rd x38_2 x40_2)))))) ?hg ?ho ?hn ?hr ?_; (case ho => rfl); (case hg => rfl); (case hn => rfl); (case hr => first | (go_simp; done) | (go_simp; rfl)); intro w42 hw; have hg : w40.grownBy w42 (some go36) := (by rw [hw]; exact HP41.2); have hp_ : Kd.R (Kd.int .i64) 3 w42 w.heap.size (fun k_ => some k_ ≠ (.slice (some ad189) x38_2.length co17 : Value).ownBlock) (.slice (some ⟨go36, 0, none⟩) y195.length co39) y201 := (by rw [hw, Ny201.out]; exact HP41.1); clear HP41; have n0_ := Aside0.mk (Kd.R_after (v := (.slice (some ⟨go36, 0, none⟩) y195.length co39)) (v1 := (.slice (some ⟨go36, 0, none⟩) y195.length co39)) (ok := (fun _ => True)) (by (with_reducible repeat (first | apply Kd.R_alloc | apply Kd.R_drewN | apply Kd.R_drew)); exact HO_38.out) hg (.inl rfl)); have n1_ := Aside0.mk (blk_grown (g := gb180) (o := .cells #[.string a0_0, .int .i64 a0_1, .slice A0_2 l0_2.length c0_2] 24 (0, 0)) (by (with_reducible repeat (first | refine blk_drewN ?_ _ | refine blk_drew ?_ | refine blk_alloc ?_ _)); exact BK180.out) hg (Kd.R_ne HO200.out BK180.out (by decide))); have n3_ := Aside0.mk (hp_); have n4_ := Aside0.mk ((by rw [hw]; exact below_set (HB.out) GB36.out : Below w.heap.size w w42)); clear HO_38; clear BK180; clear HO200; clear HB; have HO_38 := n0_; have BK180 := n1_; have HO200 := n3_; have HB := n4_; clear n0_ n1_ n3_ n4_; clear hg hw hp_))
                                      (try simp only [← hl38_2])
                                      go_roundg k3
                                      case measure => have := HK1.out; have := HK2.out; have := HK3.out; omega
                                      case rel => exact ⟨(y201), (x38_2), (wrap64 (x40_2 + 1)), (by first | rfl | (simp; done) | (simp [*]; done)), H', ⟨by have := HK1.out; have := HK2.out; have := HK3.out; omega⟩, ⟨by (try simp only [hl38_2]); (with_reducible repeat (first | apply Kd.R_alloc | apply Kd.R_drewN | apply Kd.R_drew)); exact Kd.R_mono HO200.out (fun _ hk => hk)⟩, ⟨by (try simp only [hl38_2]); (with_reducible repeat (first | apply Kd.R_alloc | apply Kd.R_drewN | apply Kd.R_drew)); exact Kd.R_mono HO_38.out (fun _ hk => hk.2)⟩, ⟨by (try simp only [hl38_2]); (with_reducible repeat (first | refine blk_drewN ?_ _ | refine blk_drew ?_ | refine blk_alloc ?_ _)); exact BK180.out⟩, ⟨by repeat (first | (with_reducible first | exact HB.out | apply below_alloc | apply pw_below_drewN | apply below_drew1 | refine below_set ?_ GE180.out) | exact HB.out)⟩⟩
                                    · rw [if_neg c35] at H
                                      exact absurd H (by simp)
                                  · rw [if_neg c33] at H
                                    exact absurd H (by simp)
                            · rw [if_neg c28] at H
                              exact absurd H (by simp)
                          · rw [if_neg c27] at H
                            have c27b0 : decide (x17_3 < (x8_2.length : Int)) = false := decide_eq_false c27
                            clear c27
                            by_cases c43 : x8_2.length < 17592186044416
                            · rw [if_pos c43] at H
                              have LMc43 := Aside0.mk c43
                              clear c43
                              obtain ⟨y202, hy202⟩ : ∃ y_ : List Int, y_ = (x8_2 ++ [0]) := ⟨_, rfl⟩
                              replace H : ((runtime_errorString_RuntimeError.f y202 x17_3).bind fun t205 => (if 0 ≤ x17_3 then (if x17_3 < (t205.length : Int) then (ephemerisref1_LocalInstants.l1 k3 (wrap64 ((wrap64 (a1 * 86400000)) + a2)) (t205.set (x17_3 : Int).toNat (wrap64 ((wrap64 ((wrap64 (a1 * 86400000)) + a2)) - (rd x38_2 x40_2)))) x38_2 (x9_1.length : Int) (wrap64 (x40_2 + 1)) a0_0 a0_1 l0_2) else (none)) else (none))) = some r := by first | (rw [hy202]; with_reducible exact H) | (have H2_ := (Option.bind_some _ _).symm.trans H; rw [hy202]; with_reducible exact H2_) | (have H2_ := (Option.bind_some _ _).symm.trans H; with_reducible exact H2_) | with_reducible exact H | (rw [hy202]; exact H) | exact H
                              have Ny202 := Aside0.mk hy202
                              clear hy202
                              replace H := Option.bind_eq_some_iff.mp H
                              obtain ⟨t205, A440, H⟩ := H
                              replace H : (if 0 ≤ x17_3 then (if x17_3 < (t205.length : Int) then (ephemerisref1_LocalInstants.l1 k3 (wrap64 ((wrap64 (a1 * 86400000)) + a2)) (t205.set (x17_3 : Int).toNat (wrap64 ((wrap64 ((wrap64 (a1 * 86400000)) + a2)) - (rd x38_2 x40_2)))) x38_2 (x9_1.length : Int) (wrap64 (x40_2 + 1)) a0_0 a0_1 l0_2) else (none)) else (none)) = some r := H
                              have A44 := Aside0.mk A440
                              clear A440
                              by_cases c45 : 0 ≤ x17_3
                              · rw [if_pos c45] at H
                                have c45b0 : decide (0 ≤ x17_3) = true := decide_eq_true c45
                                clear c45
                                by_cases c46 : x17_3 < (t205.length : Int)
                                · rw [if_pos c46] at H
                                  have c46b0 : decide (x17_3 < (t205.length : Int)) = true := decide_eq_true c46
                                  clear c46
                                  obtain ⟨y208, hy208⟩ : ∃ y_ : List Int, y_ = (t205.set (x17_3 : Int).toNat (wrap64 ((wrap64 ((wrap64 (a1 * 86400000)) + a2)) - (rd x38_2 x40_2)))) := ⟨_, rfl⟩
                                  replace H : (ephemerisref1_LocalInstants.l1 k3 (wrap64 ((wrap64 (a1 * 86400000)) + a2)) y208 x38_2 (x9_1.length : Int) (wrap64 (x40_2 + 1)) a0_0 a0_1 l0_2) = some r := by first | (rw [hy208]; with_reducible exact H) | (have H2_ := (Option.bind_some _ _).symm.trans H; rw [hy208]; with_reducible exact H2_) | (have H2_ := (Option.bind_some _ _).symm.trans H; with_reducible exact H2_) | with_reducible exact H | (rw [hy208]; exact H) | exact H
                                  have Ny208 := Aside0.mk hy208
                                  clear hy208
                                  have H' := Aside0.mk H
                                  clear H
                                  obtain ⟨Ao48, co48, eo48⟩ := Kd.R_slice HO_8.out
                                  subst eo48
                                  go_upto_region 21 with (((with_reducible refine gate_builtin (b := .append) (xs := #[.tmp 85, .tmp 86]) rfl ?_); at_builtin; refine Kd.R_append (Kd.int .i64) (w0 := w) w.heap.size rfl (.tmp 85) (.tmp 86) 29 3 (.int .i64 0) 8 rfl Tryd.underlying29 info3 rfl (by decide) (by omega) (.slice Ao48 x8_2.length co48) x8_2 0 [.int .i64 0] (fun k_ => some k_ ≠ (.slice (some ad189) x38_2.length co17 : Value).ownBlock) (fun _ => False) rfl rfl ?aP (fun _ hk => hk.elim) ?aF ?aO ?aB ?aS ?aL ?_; (case aP => exact rfl); (case aB => exact (by repeat (first | (with_reducible first | exact HB.out | apply below_alloc | apply pw_below_drewN | apply below_drew1 | refine below_set ?_ GE180.out) | exact HB.out))); (case aF => exact (fun k_ hk => Kd.fresh' (Kd.R_lt (by (with_reducible repeat (first | apply Kd.R_alloc | apply Kd.R_drewN | apply Kd.R_drew)); exact HO_38.out)) k_ hk)); (case aO => exact (by (with_reducible repeat (first | apply Kd.R_alloc | apply Kd.R_drewN | apply Kd.R_drew)); exact HO_8.out)); (case aS => exact (below_size (by repeat (first | (with_reducible first | exact HB.out | apply below_alloc | apply pw_below_drewN | apply below_drew1 | refine below_set ?_ GE180.out) | exact HB.out)))); (case aL => have := LMc43.out; omega); intro v203 w49 ho hb hg hat; rw [← Ny202.out] at ho; have n0_ := Aside0.mk (Kd.R_after (ok := (fun _ => True)) (by (with_reducible repeat (first | apply Kd.R_alloc | apply Kd.R_drewN | apply Kd.R_drew)); exact Kd.R_mono HO_38.out (fun _ hk => ⟨trivial, hk⟩)) hg hat); have n1_ := Aside0.mk (blk_grown (g := gb180) (o := .cells #[.string a0_0, .int .i64 a0_1, .slice A0_2 l0_2.length c0_2] 24 (0, 0)) (by (with_reducible repeat (first | refine blk_drewN ?_ _ | refine blk_drew ?_ | refine blk_alloc ?_ _)); exact BK180.out) hg (Kd.R_ne HO_8.out BK180.out (by decide))); have n2_ := Aside0.mk (hb); have n3_ := Aside0.mk (ho); clear HO_38; clear BK180; clear HB; clear HO_8; have HO_38 := n0_; have BK180 := n1_; have HB := n2_; have HO204 := n3_; clear n0_ n1_ n2_ n3_; clear ho hb hg hat; obtain ⟨Ao50, co50, eo50⟩ := Kd.R_slice HO204.out; subst eo50))
                                  have sh36 : (0 ≤ x17_3 ∧ x17_3 < (y202.length : Int)) ∧ y202.take (x17_3.toNat + 1) ++ (y202.drop x17_3.toNat).take (y202.length - (x17_3.toNat + 1)) = t205 := by
                                    have hA := A44.out
                                    unfold runtime_errorString_RuntimeError.f at hA
                                    split at hA
                                    · exact ⟨by assumption, Option.some.inj hA⟩
                                    · cases hA
                                  obtain ⟨⟨sh0, sh1⟩, sh2⟩ := sh36
                                  obtain ⟨i36, hi36⟩ : ∃ i : Nat, x17_3 = (i : Int) := ⟨x17_3.toNat, by omega⟩
                                  have hti36 : x17_3.toNat = i36 := by omega
                                  rw [hti36] at sh2
                                  have hlen36 : y202.length < 17592186044417 := by have := LMc43.out; rw [Ny202.out, List.length_append]; simp only [List.length_cons, List.length_nil]; omega
                                  have hwr36 : IntKind.i64.wrap (x17_3 + 1) = x17_3 + 1 := by unfold IntKind.wrap; simp [IntKind.bits, IntKind.signed]; omega
                                  have hz36 := eq_true (show (0 : Int) ≤ x17_3 + 1 by omega)
                                  have hb36 := eq_true (show (x17_3 + 1 ≤ (y202.length : Int)) by omega)
                                  have hc36 := eq_true (show (x17_3 ≤ (y202.length : Int)) by omega)
                                  have ht36 : (x17_3 + 1).toNat = i36 + 1 := by omega
                                  have hcap36 : y202.length ≤ co50 := (Kd.R_reads' HO204.out).2.1
                                  have hne36 := eq_false (show ¬ (co50 = i36) by omega)
                                  obtain ⟨go47, co47, eo47, gb47, gl47, cl47, HG47⟩ := Kd.R_form HO204.out (by omega)
                                  (first | cases eo47 | (injection eo47 with ea_ en_ ec_; (first | subst ea_ | (injection ea_ with ea_; subst ea_)); subst ec_; clear en_))
                                  have GB47 := Aside0.mk gb47
                                  obtain ⟨dp36, hdpe36⟩ : ∃ dp : Option Addr, (if co50 = i36 + 1 then (some ⟨go47, 0, none⟩ : Option Addr) else some ⟨go47, i36 + 1, none⟩) = dp := ⟨_, rfl⟩
                                  have hdp36 : i36 + 1 < y202.length → dp36 = some ⟨go47, i36 + 1, none⟩ := fun h_ => hdpe36.symm.trans (if_neg (by omega))
                                  have HOd_ : Kd.R (Kd.int .i64) 3 w49.drew w.heap.size (fun k_ => some k_ ≠ (.slice (some ad189) x38_2.length co17 : Value).ownBlock) (.slice (some ⟨go47, 0, none⟩) y202.length co50) y202 := by
                                    (with_reducible repeat (first | apply Kd.R_alloc | apply Kd.R_drewN | apply Kd.R_drew)); exact HO204.out
                                  have HBd_ : Below w.heap.size w w49.drew := by repeat (first | (with_reducible first | exact HB.out | apply below_alloc | apply pw_below_drewN | apply below_drew1) | exact HB.out)
                                  obtain ⟨w51, hcopy36, hrow40, hg40, hbel40⟩ := Kd.R_shift_run (P := Tryd.prog) (enc := fun x : Int => .int .i64 x) (h1 := fun _ => rfl) (0 : Int) w.heap.size 29 3 3 Tryd.underlying29 (by kernel_rfl) go47 co50 y202 i36 (by omega) _ dp36 hdp36 HOd_
                                  have hi36b := Aside0.mk hi36
                                  clear hi36
                                  have sh0b := eq_true sh0
                                  go_region_law (fail)
                                  clear sh0b
                                  clear hti36 ht36
                                  have hi36 := hi36b.out
                                  clear hi36b
                                  rw [sh2] at hrow40
                                  have hl40 : t205.length = y202.length := by rw [← sh2, List.length_append, List.length_take, List.length_take, List.length_drop]; omega
                                  have n0_ := Aside0.mk (Kd.R_after (v := (.slice (some ⟨go47, 0, none⟩) y202.length co50)) (v1 := (.slice (some ⟨go47, 0, none⟩) y202.length co50)) (ok := (fun _ => True)) (by (with_reducible repeat (first | apply Kd.R_alloc | apply Kd.R_drewN | apply Kd.R_drew)); exact HO_38.out) hg40 (.inl rfl))
                                  have n1_ := Aside0.mk (blk_grown (g := gb180) (o := .cells #[.string a0_0, .int .i64 a0_1, .slice A0_2 l0_2.length c0_2] 24 (0, 0)) (by (with_reducible repeat (first | refine blk_drewN ?_ _ | refine blk_drew ?_ | refine blk_alloc ?_ _)); exact BK180.out) hg40 (Kd.R_ne HO204.out BK180.out (by decide)))
                                  have n2_ := Aside0.mk (hbel40 _ HBd_ (below_size HBd_))
                                  have HO207 : Aside0 (Kd.R (Kd.int .i64) 3 w51 w.heap.size (fun k_ => some k_ ≠ (.slice (some ad189) x38_2.length co17 : Value).ownBlock) (.slice (some ⟨go47, 0, none⟩) y202.length co50) t205) := ⟨hrow40⟩
                                  clear HO_38 BK180 HB HO204
                                  have HO_38 := n0_
                                  have BK180 := n1_
                                  have HB := n2_
                                  clear n0_ n1_ n2_ HOd_ HBd_ hcopy36 hdpe36 hdp36 hg40 hbel40 hrow40 hwr36 hz36 hb36 hc36 hne36
                                  have p36_ : 0 ≤ x17_3 := by omega
                                  have q36_ : x17_3 < (t205.length : Int) := by omega
                                  have q36y_ : x17_3 < (y202.length : Int) := by omega
                                  obtain ⟨hx36_0, hf36_0⟩ := Kd.R_celln 0 HO207.out x17_3 p36_ q36y_
                                  obtain ⟨hy52_, hz52_⟩ := Kd.R_celln 0 HO207.out x17_3 p36_ q36y_
                                  have HP52 := Kd.R_putg HO207.out x17_3 (wrap64 ((wrap64 ((wrap64 (a1 * 86400000)) + a2)) - (rd x38_2 x40_2)))
                                  replace p36_ := eq_true p36_
                                  replace q36_ := eq_true q36_
                                  replace q36y_ := eq_true q36y_
                                  clear hi36 hl40
                                  go_wp2_with (first | ((with_reducible refine gate_store (t := 3) (p := 99) rfl ?_); refine store_event (t := 3) (p := 99) (v := ?vo_w53) (w1 := (w51.setCell ⟨go47, (x17_3 : Int).toNat, none⟩ (.int .i64 (wrap64 ((wrap64 ((wrap64 (a1 * 86400000)) + a2)) - (rd x38_2 x40_2)))))) ?hg ?ho ?hn ?hr ?_; (case ho => rfl); (case hg => rfl); (case hn => rfl); (case hr => first | (go_simp; done) | (go_simp; rfl)); intro w53 hw; have hg : w51.grownBy w53 (some go47) := (by rw [hw]; exact HP52.2); have hp_ : Kd.R (Kd.int .i64) 3 w53 w.heap.size (fun k_ => some k_ ≠ (.slice (some ad189) x38_2.length co17 : Value).ownBlock) (.slice (some ⟨go47, 0, none⟩) y202.length co50) y208 := (by rw [hw, Ny208.out]; exact HP52.1); clear HP52; have n0_ := Aside0.mk (Kd.R_after (v := (.slice (some ⟨go47, 0, none⟩) y202.length co50)) (v1 := (.slice (some ⟨go47, 0, none⟩) y202.length co50)) (ok := (fun _ => True)) (by (with_reducible repeat (first | apply Kd.R_alloc | apply Kd.R_drewN | apply Kd.R_drew)); exact HO_38.out) hg (.inl rfl)); have n1_ := Aside0.mk (blk_grown (g := gb180) (o := .cells #[.string a0_0, .int .i64 a0_1, .slice A0_2 l0_2.length c0_2] 24 (0, 0)) (by (with_reducible repeat (first | refine blk_drewN ?_ _ | refine blk_drew ?_ | refine blk_alloc ?_ _)); exact BK180.out) hg (Kd.R_ne HO207.out BK180.out (by decide))); have n3_ := Aside0.mk (hp_); have n4_ := Aside0.mk ((by rw [hw]; exact below_set (HB.out) GB47.out : Below w.heap.size w w53)); clear HO_38; clear BK180; clear HO207; clear HB; have HO_38 := n0_; have BK180 := n1_; have HO207 := n3_; have HB := n4_; clear n0_ n1_ n3_ n4_; clear hg hw hp_))
                                  (try simp only [← hl38_2])
                                  go_roundg k3
                                  case measure => have := HK1.out; have := HK2.out; have := HK3.out; omega
                                  case rel => exact ⟨(y208), (x38_2), (wrap64 (x40_2 + 1)), (by first | rfl | (simp; done) | (simp [*]; done)), H', ⟨by have := HK1.out; have := HK2.out; have := HK3.out; omega⟩, ⟨by (try simp only [hl38_2]); (with_reducible repeat (first | apply Kd.R_alloc | apply Kd.R_drewN | apply Kd.R_drew)); exact Kd.R_mono HO207.out (fun _ hk => hk)⟩, ⟨by (try simp only [hl38_2]); (with_reducible repeat (first | apply Kd.R_alloc | apply Kd.R_drewN | apply Kd.R_drew)); exact Kd.R_mono HO_38.out (fun _ hk => hk.2)⟩, ⟨by (try simp only [hl38_2]); (with_reducible repeat (first | refine blk_drewN ?_ _ | refine blk_drew ?_ | refine blk_alloc ?_ _)); exact BK180.out⟩, ⟨by repeat (first | (with_reducible first | exact HB.out | apply below_alloc | apply pw_below_drewN | apply below_drew1 | refine below_set ?_ GE180.out) | exact HB.out)⟩⟩
                                · rw [if_neg c46] at H
                                  exact absurd H (by simp)
                              · rw [if_neg c45] at H
                                exact absurd H (by simp)
                            · rw [if_neg c43] at H
                              exact absurd H (by simp)
                    · rw [if_neg c24] at H
                      have c24b0 : (t191 == (rd x38_2 x40_2)) = false := beq_eq_false_iff_ne.mpr c24
                      have c24b1 : (t191 != (rd x38_2 x40_2)) = true := bne_iff_ne.mpr c24
                      have H' := Aside0.mk H
                      clear H
                      have p189 : 0 ≤ (x40_2 : Int) := of_decide_eq_true (by first | (with_reducible assumption) | assumption)
                      have q189 : x40_2 < (x38_2.length : Int) := of_decide_eq_true (by first | (with_reducible assumption) | assumption)
                      obtain ⟨ad189, e189, hx189_0⟩ := Kd.at_int (Kd.R_reads' HO_38.out).2.2 x40_2 p189 q189
                      cases e189
                      replace p189 := eq_true p189
                      replace q189 := eq_true q189
                      go_wp2_with (first | ((with_reducible refine gate_callee (f := 24) rfl ?_); refine goesL_ (some 48) rfl rfl Tryd.func24 (by kernel_rfl) rfl #[.int .i64 (wrap64 ((wrap64 ((wrap64 (a1 * 86400000)) + a2)) - (rd x38_2 x40_2)))] rfl (by (try simp only [List.map_toArray, List.map_cons, List.map_nil]); first | done | rfl | (simp only [List.length_drop, List.length_take]; rfl)) ?_; (with_reducible refine (ephemerisref1_Instant.calls k2 (wrap64 ((wrap64 ((wrap64 (a1 * 86400000)) + a2)) - (rd x38_2 x40_2))) true _ A21.out).mono ?_); rintro e w' ⟨rfl, ⟨nd, rfl⟩⟩; refine ⟨_, rfl, ?_⟩; have hcz54_0 : wr.cell? ⟨gb180, 0, none⟩ = some (.string a0_0) := (blk_cell BK180.out 0).trans rfl; have hcz54_1 : wr.cell? ⟨gb180, 1, none⟩ = some (.int .i64 a0_1) := (blk_cell BK180.out 1).trans rfl; have hcz54_2 : wr.cell? ⟨gb180, 2, none⟩ = some (.slice A0_2 l0_2.length c0_2) := (blk_cell BK180.out 2).trans rfl; have hfz54_0 := blk_frozen BK180.out 0; have hfz54_1 := blk_frozen BK180.out 1; have hfz54_2 := blk_frozen BK180.out 2) | ((with_reducible refine gate_callee (f := 46) rfl ?_); refine goesL_ (some 53) rfl rfl Tryd.func46 (by kernel_rfl) rfl #[.agg #[.string a0_0, .int .i64 a0_1, .slice A0_2 l0_2.length c0_2], .int .i64 (wrap64 ((wrap64 ((wrap64 (a1 * 86400000)) + a2)) - (rd x38_2 x40_2)))] rfl (by (try simp only [List.map_toArray, List.map_cons, List.map_nil]); first | done | rfl | (simp only [List.length_drop, List.length_take]; rfl)) ?_; (with_reducible refine (ephemerisref1_OffsetAt.calls k2 a0_0 a0_1 _ _ l0_2 (wrap64 ((wrap64 ((wrap64 (a1 * 86400000)) + a2)) - (rd x38_2 x40_2))) t191 t192 _ ?side1 ?side2 A23.out).mono ?_); (case side1 => repeat (first | exact (Kd.C_below HR0_2.out (by repeat (first | (with_reducible first | exact HB.out | apply below_alloc | apply pw_below_drewN | apply below_drew1 | refine below_set ?_ GE180.out) | exact HB.out))) | (with_reducible refine Kd.C_alloc ?_ _) | (with_reducible refine Kd.C_drewN ?_ _) | (with_reducible refine Kd.C_drew ?_))); (case side2 => exact HC0_2.out); rintro e w55 ⟨rfl, hb⟩; refine ⟨_, rfl, ?_⟩; have n0_ := Aside0.mk (Kd.R_below (by (with_reducible repeat (first | apply Kd.R_alloc | apply Kd.R_drewN | apply Kd.R_drew)); exact HO_8.out) hb); have n1_ := Aside0.mk (Kd.R_below (by (with_reducible repeat (first | apply Kd.R_alloc | apply Kd.R_drewN | apply Kd.R_drew)); exact HO_38.out) hb); have n2_ := Aside0.mk (blk_below (g := gb180) (o := .cells #[.string a0_0, .int .i64 a0_1, .slice A0_2 l0_2.length c0_2] 24 (0, 0)) (by (with_reducible repeat (first | refine blk_drewN ?_ _ | refine blk_drew ?_ | refine blk_alloc ?_ _)); exact BK180.out) hb); have n3_ := Aside0.mk (below_step (by repeat (first | (with_reducible first | exact HB.out | apply below_alloc | apply pw_below_drewN | apply below_drew1 | refine below_set ?_ GE180.out) | exact HB.out)) hb); clear HO_8; clear HO_38; clear BK180; clear HB; have HO_8 := n0_; have HO_38 := n1_; have BK180 := n2_; have HB := n3_; clear n0_ n1_ n2_ n3_; (try clear hb); (try clear hb2); (try clear hk); (try clear hi)))
                      (try simp only [← hl38_2])
                      go_roundg k2
                      case measure => have := HK1.out; have := HK2.out; omega
                      case rel => exact ⟨(x8_2), (x38_2), (wrap64 (x40_2 + 1)), (by first | rfl | (simp; done) | (simp [*]; done)), H', ⟨by have := HK1.out; have := HK2.out; omega⟩, ⟨by (try simp only [hl38_2]); (with_reducible repeat (first | apply Kd.R_alloc | apply Kd.R_drewN | apply Kd.R_drew)); exact HO_8.out⟩, ⟨by (try simp only [hl38_2]); (with_reducible repeat (first | apply Kd.R_alloc | apply Kd.R_drewN | apply Kd.R_drew)); exact HO_38.out⟩, ⟨by (try simp only [hl38_2]); (with_reducible repeat (first | refine blk_drewN ?_ _ | refine blk_drew ?_ | refine blk_alloc ?_ _)); exact BK180.out⟩, ⟨by repeat (first | (with_reducible first | exact HB.out | apply below_alloc | apply pw_below_drewN | apply below_drew1 | refine below_set ?_ GE180.out) | exact HB.out)⟩⟩
                  · replace c22 := Bool.eq_false_iff.mpr c22
                    subst c22
                    have H1 : (ephemerisref1_LocalInstants.l1 k2 (wrap64 ((wrap64 (a1 * 86400000)) + a2)) x8_2 x38_2 (x9_1.length : Int) (wrap64 (x40_2 + 1)) a0_0 a0_1 l0_2) = some r := by rw [if_neg (show ¬ (false = true) by decide)] at H; exact H
                    clear H
                    have H := H1
                    clear H1
                    have H' := Aside0.mk H
                    clear H
                    have p189 : 0 ≤ (x40_2 : Int) := of_decide_eq_true (by first | (with_reducible assumption) | assumption)
                    have q189 : x40_2 < (x38_2.length : Int) := of_decide_eq_true (by first | (with_reducible assumption) | assumption)
                    obtain ⟨ad189, e189, hx189_0⟩ := Kd.at_int (Kd.R_reads' HO_38.out).2.2 x40_2 p189 q189
                    cases e189
                    replace p189 := eq_true p189
                    replace q189 := eq_true q189
                    go_wp2_with (first | ((with_reducible refine gate_callee (f := 24) rfl ?_); refine goesL_ (some 48) rfl rfl Tryd.func24 (by kernel_rfl) rfl #[.int .i64 (wrap64 ((wrap64 ((wrap64 (a1 * 86400000)) + a2)) - (rd x38_2 x40_2)))] rfl (by (try simp only [List.map_toArray, List.map_cons, List.map_nil]); first | done | rfl | (simp only [List.length_drop, List.length_take]; rfl)) ?_; (with_reducible refine (ephemerisref1_Instant.calls k2 (wrap64 ((wrap64 ((wrap64 (a1 * 86400000)) + a2)) - (rd x38_2 x40_2))) false _ A21.out).mono ?_); rintro e w' ⟨rfl, ⟨nd, rfl⟩⟩; refine ⟨_, rfl, ?_⟩))
                    (try simp only [← hl38_2])
                    go_roundg k2
                    case measure => have := HK1.out; have := HK2.out; omega
                    case rel => exact ⟨(x8_2), (x38_2), (wrap64 (x40_2 + 1)), (by first | rfl | (simp; done) | (simp [*]; done)), H', ⟨by have := HK1.out; have := HK2.out; omega⟩, ⟨by (try simp only [hl38_2]); (with_reducible repeat (first | apply Kd.R_alloc | apply Kd.R_drewN | apply Kd.R_drew)); exact HO_8.out⟩, ⟨by (try simp only [hl38_2]); (with_reducible repeat (first | apply Kd.R_alloc | apply Kd.R_drewN | apply Kd.R_drew)); exact HO_38.out⟩, ⟨by (try simp only [hl38_2]); (with_reducible repeat (first | refine blk_drewN ?_ _ | refine blk_drew ?_ | refine blk_alloc ?_ _)); exact BK180.out⟩, ⟨by repeat (first | (with_reducible first | exact HB.out | apply below_alloc | apply pw_below_drewN | apply below_drew1 | refine below_set ?_ GE180.out) | exact HB.out)⟩⟩
                · rw [if_neg c20] at H
                  exact absurd H (by simp)
              · rw [if_neg c19] at H
                exact absurd H (by simp)
            · rw [if_neg c18] at H
              have c18b0 : decide (x40_2 < (x9_1.length : Int)) = false := decide_eq_false c18
              clear c18
              obtain rfl := Option.some.inj H
              (try simp only [hl38_2] at c18b0)
              go_wp2
              go_ret
              exact ⟨_, by first | rfl | (simp [errW_none, errW_some] <;> rfl) | (simp [*, errW_none, errW_some] <;> rfl), by (with_reducible repeat (first | apply Kd.R_alloc | apply Kd.R_drewN | apply Kd.R_drew)); exact Kd.R_mono HO_8.out (fun _ hk => trivial), by repeat (first | (with_reducible first | exact HB.out | apply below_alloc | apply pw_below_drewN | apply below_drew1 | refine below_set ?_ GE180.out) | exact HB.out)⟩

/-! ### ephemerisref1_SameInts: function 17 -/
def ephemerisref1_SameInts.l0 : Nat → List Int → List Int → Int → Int → Option (Bool)
  | 0, _, _, _, _ => none
  | k + 1, x0, x1, x12, x13 => if x13 < x12 then (if 0 ≤ x13 then (if x13 < (x0.length : Int) then (if x13 < (x1.length : Int) then (if (rd x0 x13) = (rd x1 x13) then (ephemerisref1_SameInts.l0 k x0 x1 x12 (wrap64 (x13 + 1))) else (some false)) else (none)) else (none)) else (none)) else (some true)
def ephemerisref1_SameInts.f (k : Nat) (l0 : List Int) (l1 : List Int) : Option (Bool) := if (l0.length : Int) = (l1.length : Int) then (ephemerisref1_SameInts.l0 k l0 l1 (l0.length : Int) 0) else (some false)
theorem ephemerisref1_SameInts.mono_l : ∀ k, (∀ y0 y1 y2 y3, LeO (ephemerisref1_SameInts.l0 k y0 y1 y2 y3) (ephemerisref1_SameInts.l0 (k + 1) y0 y1 y2 y3))
  | 0 => fun _ _ _ _ r h => by simp [ephemerisref1_SameInts.l0] at h
  | k + 1 => by
    have ih0 := ephemerisref1_SameInts.mono_l k
    · intro y0 y1 y2 y3
      unfold ephemerisref1_SameInts.l0
      repeat' first
      | (with_reducible exact ih0 _ _ _ _)
      | (with_reducible exact LeO.refl _)
      | (with_reducible exact LeO.none _)
      | (with_reducible refine LeO.ite ?_ ?_)
      | (with_reducible refine LeO.bind ?_ (fun _ => ?_))
      | exact ih0 _ _ _ _
      | exact LeO.none _
      | refine LeO.ite ?_ ?_
      | refine LeO.bind ?_ (fun _ => ?_)
theorem ephemerisref1_SameInts.mono : ∀ a0 a1 k, LeO (ephemerisref1_SameInts.f k a0 a1) (ephemerisref1_SameInts.f (k + 1) a0 a1) := by
  intro a0 a1 k
  have ih0 := ephemerisref1_SameInts.mono_l k
  unfold ephemerisref1_SameInts.f
  repeat' first
      | (with_reducible exact ih0 _ _ _ _)
      | (with_reducible exact LeO.refl _)
      | (with_reducible exact LeO.none _)
      | (with_reducible refine LeO.ite ?_ ?_)
      | (with_reducible refine LeO.bind ?_ (fun _ => ?_))
      | exact ih0 _ _ _ _
      | exact LeO.none _
      | refine LeO.ite ?_ ?_
      | refine LeO.bind ?_ (fun _ => ?_)
set_option maxHeartbeats 8000000 in
set_option maxRecDepth 100000 in
theorem ephemerisref1_SameInts.calls (k : Nat) (A0 : Option Addr) (c0 : Nat) (l0 : List Int) (A1 : Option Addr) (c1 : Nat) (l1 : List Int) (r : Bool) (w : World) (hr0 : Kd.C (Kd.int .i64) w A0 l0.length l0) (hc0 : l0.length ≤ c0) (hr1 : Kd.C (Kd.int .i64) w A1 l1.length l1) (hc1 : l1.length ≤ c1) (h : ephemerisref1_SameInts.f k l0 l1 = some r) :
    Calls Tryd.prog 17 #[.slice A0 l0.length c0, .slice A1 l1.length c1] w fun e w' => e = .returned (.bool r) ∧ Drawn0 w w' := by
  have HR0 := Aside0.mk hr0
  have HC0 := Aside0.mk hc0
  clear hr0 hc0
  have HR1 := Aside0.mk hr1
  have HC1 := Aside0.mk hc1
  clear hr1 hc1
  have H : (if (l0.length : Int) = (l1.length : Int) then (ephemerisref1_SameInts.l0 k l0 l1 (l0.length : Int) 0) else (some false)) = some r := h
  clear h
  by_cases c3 : (l0.length : Int) = (l1.length : Int)
  · rw [if_pos c3] at H
    have c3b0 : ((l0.length : Int) == (l1.length : Int)) = true := beq_iff_eq.mpr c3
    have c3b1 : ((l0.length : Int) != (l1.length : Int)) = false := bne_eq_false_iff_eq.mpr c3
    have c3b2 : (l0.length == l1.length) = true := by first | simpa using c3 | (simp at c3 ⊢; omega)
    clear c3
    have H' := Aside0.mk H
    clear H
    go_enter Tryd.func17, Tryd.ntmps17
    go_wp2
    repeat (go_quiet (fail); try go_wp2)
    go_loopg [13] k (fun kq v13 w' => ∃ (x13_1 : Int), v13 = .int .i64 x13_1 ∧ Aside0 (ephemerisref1_SameInts.l0 kq l0 l1 (l0.length : Int) x13_1 = some r) ∧ Aside0 (kq ≤ k) ∧ Drawn0 w w')
    case atStart => exact ⟨(0), (by first | rfl | (simp; done) | (simp [*]; done)), H', ⟨Nat.le_refl _⟩, by repeat (first | exact Drawn0.refl _ | apply Drawn0.step)⟩
    case round =>
      clear H'
      try clear c1
      try clear p2
      try clear c3
      try clear c3b0
      try clear c3b1
      try clear c3b2
      obtain ⟨x13_1, rfl, HA, HK1, ⟨m1, rfl⟩⟩ := hrel
      cases gk with
      | zero => exact absurd HA.out (by simp [ephemerisref1_SameInts.l0])
      | succ k1 =>
        have H := HA.out
        clear HA
        simp only [ephemerisref1_SameInts.l0] at H
        by_cases c4 : x13_1 < (l0.length : Int)
        · rw [if_pos c4] at H
          have c4b0 : decide (x13_1 < (l0.length : Int)) = true := decide_eq_true c4
          clear c4
          by_cases c5 : 0 ≤ x13_1
          · rw [if_pos c5] at H
            have c5b0 : decide (0 ≤ x13_1) = true := decide_eq_true c5
            clear c5
            by_cases c6 : x13_1 < (l0.length : Int)
            · rw [if_pos c6] at H
              have c6b0 : decide (x13_1 < (l0.length : Int)) = true := decide_eq_true c6
              clear c6
              by_cases c7 : x13_1 < (l1.length : Int)
              · rw [if_pos c7] at H
                have c7b0 : decide (x13_1 < (l1.length : Int)) = true := decide_eq_true c7
                clear c7
                by_cases c8 : (rd l0 x13_1) = (rd l1 x13_1)
                · rw [if_pos c8] at H
                  have c8b0 : ((rd l0 x13_1) == (rd l1 x13_1)) = true := beq_iff_eq.mpr c8
                  have c8b1 : ((rd l0 x13_1) != (rd l1 x13_1)) = false := bne_eq_false_iff_eq.mpr c8
                  clear c8
                  have H' := Aside0.mk H
                  clear H
                  have p209 : 0 ≤ (x13_1 : Int) := of_decide_eq_true (by first | (with_reducible assumption) | assumption)
                  have q209 : x13_1 < (l0.length : Int) := of_decide_eq_true (by first | (with_reducible assumption) | assumption)
                  obtain ⟨ad209, e209, hx209_0⟩ := Kd.at_int HR0.out x13_1 p209 q209
                  cases e209
                  replace p209 := eq_true p209
                  replace q209 := eq_true q209
                  have p210 : 0 ≤ (x13_1 : Int) := of_decide_eq_true (by first | (with_reducible assumption) | assumption)
                  have q210 : x13_1 < (l1.length : Int) := of_decide_eq_true (by first | (with_reducible assumption) | assumption)
                  obtain ⟨ad210, e210, hx210_0⟩ := Kd.at_int HR1.out x13_1 p210 q210
                  cases e210
                  replace p210 := eq_true p210
                  replace q210 := eq_true q210
                  go_wp2
                  repeat (go_quiet (fail); try go_wp2)
                  go_roundg k1
                  case measure => have := HK1.out; omega
                  case rel => exact ⟨(wrap64 (x13_1 + 1)), (by first | rfl | (simp; done) | (simp [*]; done)), H', ⟨by have := HK1.out; omega⟩, by repeat (first | exact Drawn0.refl _ | apply Drawn0.step)⟩
                · rw [if_neg c8] at H
                  have c8b0 : ((rd l0 x13_1) == (rd l1 x13_1)) = false := beq_eq_false_iff_ne.mpr c8
                  have c8b1 : ((rd l0 x13_1) != (rd l1 x13_1)) = true := bne_iff_ne.mpr c8
                  obtain rfl := Option.some.inj H
                  have p209 : 0 ≤ (x13_1 : Int) := of_decide_eq_true (by first | (with_reducible assumption) | assumption)
                  have q209 : x13_1 < (l0.length : Int) := of_decide_eq_true (by first | (with_reducible assumption) | assumption)
                  obtain ⟨ad209, e209, hx209_0⟩ := Kd.at_int HR0.out x13_1 p209 q209
                  cases e209
                  replace p209 := eq_true p209
                  replace q209 := eq_true q209
                  have p210 : 0 ≤ (x13_1 : Int) := of_decide_eq_true (by first | (with_reducible assumption) | assumption)
                  have q210 : x13_1 < (l1.length : Int) := of_decide_eq_true (by first | (with_reducible assumption) | assumption)
                  obtain ⟨ad210, e210, hx210_0⟩ := Kd.at_int HR1.out x13_1 p210 q210
                  cases e210
                  replace p210 := eq_true p210
                  replace q210 := eq_true q210
                  go_wp2
                  repeat (go_quiet (fail); try go_wp2)
                  go_ret
                  exact ⟨by first | rfl | (simp; done) | (simp [*]; done), by repeat (first | exact Drawn0.refl _ | apply Drawn0.step)⟩
              · rw [if_neg c7] at H
                exact absurd H (by simp)
            · rw [if_neg c6] at H
              exact absurd H (by simp)
          · rw [if_neg c5] at H
            exact absurd H (by simp)
        · rw [if_neg c4] at H
          have c4b0 : decide (x13_1 < (l0.length : Int)) = false := decide_eq_false c4
          clear c4
          obtain rfl := Option.some.inj H
          go_wp2
          repeat (go_quiet (fail); try go_wp2)
          go_ret
          exact ⟨by first | rfl | (simp; done) | (simp [*]; done), by repeat (first | exact Drawn0.refl _ | apply Drawn0.step)⟩
  · rw [if_neg c3] at H
    have c3b0 : ((l0.length : Int) == (l1.length : Int)) = false := beq_eq_false_iff_ne.mpr c3
    have c3b1 : ((l0.length : Int) != (l1.length : Int)) = true := bne_iff_ne.mpr c3
    have c3b2 : (l0.length == l1.length) = false := by first | simpa using c3 | (simp at c3 ⊢; omega)
    obtain rfl := Option.some.inj H
    go_enter Tryd.func17, Tryd.ntmps17
    go_wp2
    repeat (go_quiet (fail); try go_wp2)
    go_ret
    exact ⟨by first | rfl | (simp; done) | (simp [*]; done), by repeat (first | exact Drawn0.refl _ | apply Drawn0.step)⟩

end Go.Proofs.YtolhlaadhfilnaaDoor.PZoneInstants

