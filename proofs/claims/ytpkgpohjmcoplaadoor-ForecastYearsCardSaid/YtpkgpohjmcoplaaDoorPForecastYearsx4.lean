/- The walks of the functions of this part. The proof of zone_IsLabel is written by hand; the other ones are as the kit's print tells them. -/
-- The walks of the law's functions, told by a program.
import Derived.Test.YtpkgpohjmcoplaaDoorPForecastYearsx0
import Derived.Test.YtpkgpohjmcoplaaDoorPForecastYearsx3
namespace Go.Proofs.YtpkgpohjmcoplaaDoor.PForecastYears
open Go.RowKit Go.Proofs.YtpkgpohjmcoplaaDoorW.PrintWords Go.Proofs.YtpkgpohjmcoplaaDoorW.PrintLast Go.Proofs.YtpkgpohjmcoplaaDoorW.PrintMore
attribute [local go_sem] max2_int min2_int max_two min_two max_three min_three max_four min_four   -- for this text's walks alone
set_option linter.unusedVariables false
set_option linter.unusedSimpArgs false

/-! ### ephemerisref1_ZoneRulesError: function 15 -/
mutual
def ephemerisref1_ZoneRulesError.l0 : Nat → List (S25) → List (S25) → Int → Int → Option (Int)
  | 0, _, _, _, _ => none
  | k + 1, x0, x9, x10, x11 => if x11 < x10 then (if 0 ≤ x11 then (if x11 < (x9.length : Int) then ((ephemerisref1_In.f ((rd_T25 x9 x11).f0) 1 12).bind fun t119 => (if t119 = true then ((ephemerisref1_In.f ((rd_T25 x9 x11).f1) 1 5).bind fun t120 => (if t120 = true then ((ephemerisref1_In.f ((rd_T25 x9 x11).f2) 0 6).bind fun t121 => (if t121 = true then ((ephemerisref1_In.f ((rd_T25 x9 x11).f3) 0 86399999).bind fun t122 => (if t122 = true then ((ephemerisref1_Offset.f k ((rd_T25 x9 x11).f4)).bind fun t123 => (ephemerisref1_ZoneRulesError.j1 k x0 x11 x9 x10 x11 (!t123) ((rd_T25 x9 x11).f0) ((rd_T25 x9 x11).f1) ((rd_T25 x9 x11).f2) ((rd_T25 x9 x11).f3) ((rd_T25 x9 x11).f4) ((rd_T25 x9 x11).f5))) else (ephemerisref1_ZoneRulesError.j1 k x0 x11 x9 x10 x11 true ((rd_T25 x9 x11).f0) ((rd_T25 x9 x11).f1) ((rd_T25 x9 x11).f2) ((rd_T25 x9 x11).f3) ((rd_T25 x9 x11).f4) ((rd_T25 x9 x11).f5)))) else (ephemerisref1_ZoneRulesError.j1 k x0 x11 x9 x10 x11 true ((rd_T25 x9 x11).f0) ((rd_T25 x9 x11).f1) ((rd_T25 x9 x11).f2) ((rd_T25 x9 x11).f3) ((rd_T25 x9 x11).f4) ((rd_T25 x9 x11).f5)))) else (ephemerisref1_ZoneRulesError.j1 k x0 x11 x9 x10 x11 true ((rd_T25 x9 x11).f0) ((rd_T25 x9 x11).f1) ((rd_T25 x9 x11).f2) ((rd_T25 x9 x11).f3) ((rd_T25 x9 x11).f4) ((rd_T25 x9 x11).f5)))) else (ephemerisref1_ZoneRulesError.j1 k x0 x11 x9 x10 x11 true ((rd_T25 x9 x11).f0) ((rd_T25 x9 x11).f1) ((rd_T25 x9 x11).f2) ((rd_T25 x9 x11).f3) ((rd_T25 x9 x11).f4) ((rd_T25 x9 x11).f5)))) else (none)) else (none)) else (some 0)
def ephemerisref1_ZoneRulesError.j1 : Nat → List (S25) → Int → List (S25) → Int → Int → Bool → Int → Int → Int → Int → Int → ByteArray → Option (Int)
  | 0, _, _, _, _, _, _, _, _, _, _, _, _ => none
  | k + 1, x0, x3, x9, x10, x11, x43, x119000, x119001, x119002, x119003, x119004, x119005 => if x43 = true then (some 3) else ((ephemerisref1_Label.f x119005).bind fun t124 => (if t124 = true then (if x3 > 0 then (if 0 ≤ (wrap64 (x3 - 1)) then (if (wrap64 (x3 - 1)) < (x0.length : Int) then (if ((rd_T25 x0 (wrap64 (x3 - 1))).f0) ≥ x119000 then (some 9) else (ephemerisref1_ZoneRulesError.l0 k x0 x9 x10 (wrap64 (x11 + 1)))) else (none)) else (none)) else (ephemerisref1_ZoneRulesError.l0 k x0 x9 x10 (wrap64 (x11 + 1)))) else (some 8)))
end
def ephemerisref1_ZoneRulesError.f (k : Nat) (l0 : List (S25)) : Option (Int) := (ephemerisref1_In.f (l0.length : Int) 1 4).bind fun t116 => (if t116 = true then (ephemerisref1_ZoneRulesError.l0 k l0 l0 (l0.length : Int) 0) else (some 2))
theorem ephemerisref1_ZoneRulesError.mono_l : ∀ k, (∀ y0 y1 y2 y3, LeO (ephemerisref1_ZoneRulesError.l0 k y0 y1 y2 y3) (ephemerisref1_ZoneRulesError.l0 (k + 1) y0 y1 y2 y3)) ∧ (∀ y0 y1 y2 y3 y4 y5 y6 y7 y8 y9 y10 y11, LeO (ephemerisref1_ZoneRulesError.j1 k y0 y1 y2 y3 y4 y5 y6 y7 y8 y9 y10 y11) (ephemerisref1_ZoneRulesError.j1 (k + 1) y0 y1 y2 y3 y4 y5 y6 y7 y8 y9 y10 y11))
  | 0 => ⟨fun _ _ _ _ r h => by simp [ephemerisref1_ZoneRulesError.l0] at h, fun _ _ _ _ _ _ _ _ _ _ _ _ r h => by simp [ephemerisref1_ZoneRulesError.j1] at h⟩
  | k + 1 => by
    obtain ⟨ih0, ih1⟩ := ephemerisref1_ZoneRulesError.mono_l k
    refine ⟨?_, ?_⟩
    · intro y0 y1 y2 y3
      unfold ephemerisref1_ZoneRulesError.l0
      repeat' first
      | (with_reducible exact ih0 _ _ _ _)
      | (with_reducible exact ih1 _ _ _ _ _ _ _ _ _ _ _ _)
      | (with_reducible exact ephemerisref1_Offset.mono _ _)
      | (with_reducible exact LeO.refl _)
      | (with_reducible exact LeO.none _)
      | (with_reducible refine LeO.ite ?_ ?_)
      | (with_reducible refine LeO.bind ?_ (fun _ => ?_))
      | exact ih0 _ _ _ _
      | exact ih1 _ _ _ _ _ _ _ _ _ _ _ _
      | exact ephemerisref1_Offset.mono _ _
      | exact LeO.none _
      | refine LeO.ite ?_ ?_
      | refine LeO.bind ?_ (fun _ => ?_)
    · intro y0 y1 y2 y3 y4 y5 y6 y7 y8 y9 y10 y11
      unfold ephemerisref1_ZoneRulesError.j1
      repeat' first
      | (with_reducible exact ih0 _ _ _ _)
      | (with_reducible exact ih1 _ _ _ _ _ _ _ _ _ _ _ _)
      | (with_reducible exact ephemerisref1_Offset.mono _ _)
      | (with_reducible exact LeO.refl _)
      | (with_reducible exact LeO.none _)
      | (with_reducible refine LeO.ite ?_ ?_)
      | (with_reducible refine LeO.bind ?_ (fun _ => ?_))
      | exact ih0 _ _ _ _
      | exact ih1 _ _ _ _ _ _ _ _ _ _ _ _
      | exact ephemerisref1_Offset.mono _ _
      | exact LeO.none _
      | refine LeO.ite ?_ ?_
      | refine LeO.bind ?_ (fun _ => ?_)
theorem ephemerisref1_ZoneRulesError.mono : ∀ a0 k, LeO (ephemerisref1_ZoneRulesError.f k a0) (ephemerisref1_ZoneRulesError.f (k + 1) a0) := by
  intro a0 k
  obtain ⟨ih0, ih1⟩ := ephemerisref1_ZoneRulesError.mono_l k
  unfold ephemerisref1_ZoneRulesError.f
  repeat' first
      | (with_reducible exact ih0 _ _ _ _)
      | (with_reducible exact ih1 _ _ _ _ _ _ _ _ _ _ _ _)
      | (with_reducible exact ephemerisref1_Offset.mono _ _)
      | (with_reducible exact LeO.refl _)
      | (with_reducible exact LeO.none _)
      | (with_reducible refine LeO.ite ?_ ?_)
      | (with_reducible refine LeO.bind ?_ (fun _ => ?_))
      | exact ih0 _ _ _ _
      | exact ih1 _ _ _ _ _ _ _ _ _ _ _ _
      | exact ephemerisref1_Offset.mono _ _
      | exact LeO.none _
      | refine LeO.ite ?_ ?_
      | refine LeO.bind ?_ (fun _ => ?_)
set_option maxHeartbeats 8000000 in
set_option maxRecDepth 100000 in
theorem ephemerisref1_ZoneRulesError.calls (k : Nat) (A0 : Option Addr) (c0 : Nat) (l0 : List (S25)) (r : Int) (w : World) (hr0 : Kd.C k25 w A0 l0.length l0) (hc0 : l0.length ≤ c0) (h : ephemerisref1_ZoneRulesError.f k l0 = some r) :
    Calls Tryd.prog 15 #[.slice A0 l0.length c0] w fun e w' => e = .returned (.int .i64 r) ∧ Below w.heap.size w w' := by
  have hu25 := Tryd.underlying25
  have HR0 := Aside0.mk hr0
  have HC0 := Aside0.mk hc0
  clear hr0 hc0
  have HB := Aside0.mk (Below.refl w.heap.size w)
  have H : ((ephemerisref1_In.f (l0.length : Int) 1 4).bind fun t116 => (if t116 = true then (ephemerisref1_ZoneRulesError.l0 k l0 l0 (l0.length : Int) 0) else (some 2))) = some r := h
  clear h
  replace H := Option.bind_eq_some_iff.mp H
  obtain ⟨t116, A20, H⟩ := H
  replace H : (if t116 = true then (ephemerisref1_ZoneRulesError.l0 k l0 l0 (l0.length : Int) 0) else (some 2)) = some r := H
  have A2 := Aside0.mk A20
  clear A20
  by_cases c3 : t116 = true
  · subst c3
    have H1 : (ephemerisref1_ZoneRulesError.l0 k l0 l0 (l0.length : Int) 0) = some r := by rw [if_pos rfl] at H; exact H
    clear H
    have H := H1
    clear H1
    have H' := Aside0.mk H
    clear H
    go_enter Tryd.func15, Tryd.ntmps15
    go_wp2_with (first | (go_at_call 18; (with_reducible refine (ephemerisref1_In.calls (l0.length : Int) 1 4 true _ A2.out).mono ?_); rintro e w' ⟨rfl, ⟨nd, rfl⟩⟩; (try first | exact ⟨rfl, _, World.drewN_drewN _ _ _⟩ | exact ⟨rfl, _, Eq.trans (World.drewN_drewN _ _ _) (congrArg (World.drewN _) (Nat.add_assoc _ _ _))⟩)))
    repeat (go_quiet (first | (go_at_call 18; (with_reducible refine (ephemerisref1_In.calls (l0.length : Int) 1 4 true _ A2.out).mono ?_); rintro e w' ⟨rfl, ⟨nd, rfl⟩⟩; (try first | exact ⟨rfl, _, World.drewN_drewN _ _ _⟩ | exact ⟨rfl, _, Eq.trans (World.drewN_drewN _ _ _) (congrArg (World.drewN _) (Nat.add_assoc _ _ _))⟩))); try go_wp2_with (first | (go_at_call 18; (with_reducible refine (ephemerisref1_In.calls (l0.length : Int) 1 4 true _ A2.out).mono ?_); rintro e w' ⟨rfl, ⟨nd, rfl⟩⟩; (try first | exact ⟨rfl, _, World.drewN_drewN _ _ _⟩ | exact ⟨rfl, _, Eq.trans (World.drewN_drewN _ _ _) (congrArg (World.drewN _) (Nat.add_assoc _ _ _))⟩))))
    go_loopg [11] k (fun kq v11 w' => ∃ (x11_1 : Int), v11 = .int .i64 x11_1 ∧ Aside0 (ephemerisref1_ZoneRulesError.l0 kq l0 l0 (l0.length : Int) x11_1 = some r) ∧ Aside0 (kq ≤ k) ∧ Aside0 (Below w.heap.size w w'))
    case atStart => exact ⟨(0), (by first | rfl | (simp; done) | (simp [*]; done)), H', ⟨Nat.le_refl _⟩, ⟨by repeat (first | (with_reducible first | exact HB.out | apply below_alloc | apply pw_below_drewN | apply below_drew1) | exact HB.out)⟩⟩
    case round =>
      clear H'
      try clear c1
      try clear p2
      try clear c3
      obtain ⟨x11_1, rfl, HA, HK1, HB⟩ := hrel
      cases gk with
      | zero => exact absurd HA.out (by simp [ephemerisref1_ZoneRulesError.l0])
      | succ k1 =>
        have H := HA.out
        clear HA
        simp only [ephemerisref1_ZoneRulesError.l0] at H
        by_cases c4 : x11_1 < (l0.length : Int)
        · rw [if_pos c4] at H
          have c4b0 : decide (x11_1 < (l0.length : Int)) = true := decide_eq_true c4
          clear c4
          by_cases c5 : 0 ≤ x11_1
          · rw [if_pos c5] at H
            have c5b0 : decide (0 ≤ x11_1) = true := decide_eq_true c5
            clear c5
            by_cases c6 : x11_1 < (l0.length : Int)
            · rw [if_pos c6] at H
              have c6b0 : decide (x11_1 < (l0.length : Int)) = true := decide_eq_true c6
              clear c6
              have HC7 := Aside0.mk H
              clear H
              have p117 : 0 ≤ (x11_1 : Int) := of_decide_eq_true (by first | (with_reducible assumption) | assumption)
              have q117 : x11_1 < (l0.length : Int) := of_decide_eq_true (by first | (with_reducible assumption) | assumption)
              obtain ⟨ad117, e117, hx117_0, hx117_1, hx117_2, hx117_3, hx117_4, hx117_5⟩ := at_T25 HR0.out x11_1 p117 q117
              cases e117
              replace hx117_0 := (HB.out.cell (World.block_lt_of_cell? w _ hx117_0)).trans hx117_0
              replace hx117_1 := (HB.out.cell (World.block_lt_of_cell? w _ hx117_1)).trans hx117_1
              replace hx117_2 := (HB.out.cell (World.block_lt_of_cell? w _ hx117_2)).trans hx117_2
              replace hx117_3 := (HB.out.cell (World.block_lt_of_cell? w _ hx117_3)).trans hx117_3
              replace hx117_4 := (HB.out.cell (World.block_lt_of_cell? w _ hx117_4)).trans hx117_4
              replace hx117_5 := (HB.out.cell (World.block_lt_of_cell? w _ hx117_5)).trans hx117_5
              replace p117 := eq_true p117
              replace q117 := eq_true q117
              go_upto_region 6 with (first | ((with_reducible refine gate_dst (N := 4) rfl ?_); refine box_event ?hg (N := 4) ?hd (cs := #[.int .i64 0, .int .i64 0, .int .i64 0, .int .i64 0, .int .i64 0, .string (⟨#[]⟩ : ByteArray)]) (t := 25) ?hr ?_; (case hd => rfl); (case hg => rfl); (case hr => first | (go_simp; done) | (go_simp; rfl)); intro gb118 hg w8 hbox hb; have n0_ := Aside0.mk (below_step (by repeat (first | (with_reducible first | exact HB.out | apply below_alloc | apply pw_below_drewN | apply below_drew1) | exact HB.out)) hb); have n1_ := Aside0.mk (hbox); have n2_ := Aside0.mk ((by rw [hg]; exact (below_size (by repeat (first | (with_reducible first | exact HB.out | apply below_alloc | apply pw_below_drewN | apply below_drew1) | exact HB.out))) : w.heap.size ≤ gb118)); have n3_ := Aside0.mk ((by rw [hg]; exact (below_size (by repeat (first | (with_reducible first | exact HB.out | apply below_alloc | apply pw_below_drewN | apply below_drew1) | exact HB.out))) : w.heap.size ≤ gb118)); clear HB; have HB := n0_; have BK118 := n1_; have GW118 := n2_; have GE118 := n3_; clear n0_ n1_ n2_ n3_; clear hb hbox hg; have hcz9_0 : w8.cell? ⟨gb118, 0, none⟩ = some (.int .i64 0) := (blk_cell BK118.out 0).trans rfl; have hcz9_1 : w8.cell? ⟨gb118, 1, none⟩ = some (.int .i64 0) := (blk_cell BK118.out 1).trans rfl; have hcz9_2 : w8.cell? ⟨gb118, 2, none⟩ = some (.int .i64 0) := (blk_cell BK118.out 2).trans rfl; have hcz9_3 : w8.cell? ⟨gb118, 3, none⟩ = some (.int .i64 0) := (blk_cell BK118.out 3).trans rfl; have hcz9_4 : w8.cell? ⟨gb118, 4, none⟩ = some (.int .i64 0) := (blk_cell BK118.out 4).trans rfl; have hcz9_5 : w8.cell? ⟨gb118, 5, none⟩ = some (.string (⟨#[]⟩ : ByteArray)) := (blk_cell BK118.out 5).trans rfl; have hfz9_0 := blk_frozen BK118.out 0; have hfz9_1 := blk_frozen BK118.out 1; have hfz9_2 := blk_frozen BK118.out 2; have hfz9_3 := blk_frozen BK118.out 3; have hfz9_4 := blk_frozen BK118.out 4; have hfz9_5 := blk_frozen BK118.out 5))
              repeat (go_quiet (first | ((with_reducible refine gate_dst (N := 4) rfl ?_); refine box_event ?hg (N := 4) ?hd (cs := #[.int .i64 0, .int .i64 0, .int .i64 0, .int .i64 0, .int .i64 0, .string (⟨#[]⟩ : ByteArray)]) (t := 25) ?hr ?_; (case hd => rfl); (case hg => rfl); (case hr => first | (go_simp; done) | (go_simp; rfl)); intro gb118 hg w8 hbox hb; have n0_ := Aside0.mk (below_step (by repeat (first | (with_reducible first | exact HB.out | apply below_alloc | apply pw_below_drewN | apply below_drew1) | exact HB.out)) hb); have n1_ := Aside0.mk (hbox); have n2_ := Aside0.mk ((by rw [hg]; exact (below_size (by repeat (first | (with_reducible first | exact HB.out | apply below_alloc | apply pw_below_drewN | apply below_drew1) | exact HB.out))) : w.heap.size ≤ gb118)); have n3_ := Aside0.mk ((by rw [hg]; exact (below_size (by repeat (first | (with_reducible first | exact HB.out | apply below_alloc | apply pw_below_drewN | apply below_drew1) | exact HB.out))) : w.heap.size ≤ gb118)); clear HB; have HB := n0_; have BK118 := n1_; have GW118 := n2_; have GE118 := n3_; clear n0_ n1_ n2_ n3_; clear hb hbox hg; have hcz9_0 : w8.cell? ⟨gb118, 0, none⟩ = some (.int .i64 0) := (blk_cell BK118.out 0).trans rfl; have hcz9_1 : w8.cell? ⟨gb118, 1, none⟩ = some (.int .i64 0) := (blk_cell BK118.out 1).trans rfl; have hcz9_2 : w8.cell? ⟨gb118, 2, none⟩ = some (.int .i64 0) := (blk_cell BK118.out 2).trans rfl; have hcz9_3 : w8.cell? ⟨gb118, 3, none⟩ = some (.int .i64 0) := (blk_cell BK118.out 3).trans rfl; have hcz9_4 : w8.cell? ⟨gb118, 4, none⟩ = some (.int .i64 0) := (blk_cell BK118.out 4).trans rfl; have hcz9_5 : w8.cell? ⟨gb118, 5, none⟩ = some (.string (⟨#[]⟩ : ByteArray)) := (blk_cell BK118.out 5).trans rfl; have hfz9_0 := blk_frozen BK118.out 0; have hfz9_1 := blk_frozen BK118.out 1; have hfz9_2 := blk_frozen BK118.out 2; have hfz9_3 := blk_frozen BK118.out 3; have hfz9_4 := blk_frozen BK118.out 4; have hfz9_5 := blk_frozen BK118.out 5)); go_upto_region 6 with (first | ((with_reducible refine gate_dst (N := 4) rfl ?_); refine box_event ?hg (N := 4) ?hd (cs := #[.int .i64 0, .int .i64 0, .int .i64 0, .int .i64 0, .int .i64 0, .string (⟨#[]⟩ : ByteArray)]) (t := 25) ?hr ?_; (case hd => rfl); (case hg => rfl); (case hr => first | (go_simp; done) | (go_simp; rfl)); intro gb118 hg w8 hbox hb; have n0_ := Aside0.mk (below_step (by repeat (first | (with_reducible first | exact HB.out | apply below_alloc | apply pw_below_drewN | apply below_drew1) | exact HB.out)) hb); have n1_ := Aside0.mk (hbox); have n2_ := Aside0.mk ((by rw [hg]; exact (below_size (by repeat (first | (with_reducible first | exact HB.out | apply below_alloc | apply pw_below_drewN | apply below_drew1) | exact HB.out))) : w.heap.size ≤ gb118)); have n3_ := Aside0.mk ((by rw [hg]; exact (below_size (by repeat (first | (with_reducible first | exact HB.out | apply below_alloc | apply pw_below_drewN | apply below_drew1) | exact HB.out))) : w.heap.size ≤ gb118)); clear HB; have HB := n0_; have BK118 := n1_; have GW118 := n2_; have GE118 := n3_; clear n0_ n1_ n2_ n3_; clear hb hbox hg; have hcz9_0 : w8.cell? ⟨gb118, 0, none⟩ = some (.int .i64 0) := (blk_cell BK118.out 0).trans rfl; have hcz9_1 : w8.cell? ⟨gb118, 1, none⟩ = some (.int .i64 0) := (blk_cell BK118.out 1).trans rfl; have hcz9_2 : w8.cell? ⟨gb118, 2, none⟩ = some (.int .i64 0) := (blk_cell BK118.out 2).trans rfl; have hcz9_3 : w8.cell? ⟨gb118, 3, none⟩ = some (.int .i64 0) := (blk_cell BK118.out 3).trans rfl; have hcz9_4 : w8.cell? ⟨gb118, 4, none⟩ = some (.int .i64 0) := (blk_cell BK118.out 4).trans rfl; have hcz9_5 : w8.cell? ⟨gb118, 5, none⟩ = some (.string (⟨#[]⟩ : ByteArray)) := (blk_cell BK118.out 5).trans rfl; have hfz9_0 := blk_frozen BK118.out 0; have hfz9_1 := blk_frozen BK118.out 1; have hfz9_2 := blk_frozen BK118.out 2; have hfz9_3 := blk_frozen BK118.out 3; have hfz9_4 := blk_frozen BK118.out 4; have hfz9_5 := blk_frozen BK118.out 5)))
              (try simp only [Act.put, List.setIfInBounds_toArray, List.set_cons_zero, List.set_cons_succ])
              go_cut [43] (fun v43 wc => ∃ (kq : Nat) (x43_6 : Bool), v43 = .bool x43_6 ∧ Aside0 (ephemerisref1_ZoneRulesError.j1 kq l0 x11_1 l0 (l0.length : Int) x11_1 x43_6 ((rd_T25 l0 x11_1).f0) ((rd_T25 l0 x11_1).f1) ((rd_T25 l0 x11_1).f2) ((rd_T25 l0 x11_1).f3) ((rd_T25 l0 x11_1).f4) ((rd_T25 l0 x11_1).f5) = some r) ∧ Aside0 (kq ≤ k1) ∧ Aside0 (wc.heap[gb118]? = some (.cells #[.int .i64 ((rd_T25 l0 x11_1).f0), .int .i64 ((rd_T25 l0 x11_1).f1), .int .i64 ((rd_T25 l0 x11_1).f2), .int .i64 ((rd_T25 l0 x11_1).f3), .int .i64 ((rd_T25 l0 x11_1).f4), .string ((rd_T25 l0 x11_1).f5)] 25 (0, 0))) ∧ Aside0 (Below w.heap.size w wc))
              case first =>
                have H := HC7.out
                clear HC7
                replace H := Option.bind_eq_some_iff.mp H
                obtain ⟨t119, A100, H⟩ := H
                replace H : (if t119 = true then ((ephemerisref1_In.f ((rd_T25 l0 x11_1).f1) 1 5).bind fun t120 => (if t120 = true then ((ephemerisref1_In.f ((rd_T25 l0 x11_1).f2) 0 6).bind fun t121 => (if t121 = true then ((ephemerisref1_In.f ((rd_T25 l0 x11_1).f3) 0 86399999).bind fun t122 => (if t122 = true then ((ephemerisref1_Offset.f k1 ((rd_T25 l0 x11_1).f4)).bind fun t123 => (ephemerisref1_ZoneRulesError.j1 k1 l0 x11_1 l0 (l0.length : Int) x11_1 (!t123) ((rd_T25 l0 x11_1).f0) ((rd_T25 l0 x11_1).f1) ((rd_T25 l0 x11_1).f2) ((rd_T25 l0 x11_1).f3) ((rd_T25 l0 x11_1).f4) ((rd_T25 l0 x11_1).f5))) else (ephemerisref1_ZoneRulesError.j1 k1 l0 x11_1 l0 (l0.length : Int) x11_1 true ((rd_T25 l0 x11_1).f0) ((rd_T25 l0 x11_1).f1) ((rd_T25 l0 x11_1).f2) ((rd_T25 l0 x11_1).f3) ((rd_T25 l0 x11_1).f4) ((rd_T25 l0 x11_1).f5)))) else (ephemerisref1_ZoneRulesError.j1 k1 l0 x11_1 l0 (l0.length : Int) x11_1 true ((rd_T25 l0 x11_1).f0) ((rd_T25 l0 x11_1).f1) ((rd_T25 l0 x11_1).f2) ((rd_T25 l0 x11_1).f3) ((rd_T25 l0 x11_1).f4) ((rd_T25 l0 x11_1).f5)))) else (ephemerisref1_ZoneRulesError.j1 k1 l0 x11_1 l0 (l0.length : Int) x11_1 true ((rd_T25 l0 x11_1).f0) ((rd_T25 l0 x11_1).f1) ((rd_T25 l0 x11_1).f2) ((rd_T25 l0 x11_1).f3) ((rd_T25 l0 x11_1).f4) ((rd_T25 l0 x11_1).f5)))) else (ephemerisref1_ZoneRulesError.j1 k1 l0 x11_1 l0 (l0.length : Int) x11_1 true ((rd_T25 l0 x11_1).f0) ((rd_T25 l0 x11_1).f1) ((rd_T25 l0 x11_1).f2) ((rd_T25 l0 x11_1).f3) ((rd_T25 l0 x11_1).f4) ((rd_T25 l0 x11_1).f5))) = some r := H
                have A10 := Aside0.mk A100
                clear A100
                by_cases c11 : t119 = true
                · subst c11
                  have H1 : ((ephemerisref1_In.f ((rd_T25 l0 x11_1).f1) 1 5).bind fun t120 => (if t120 = true then ((ephemerisref1_In.f ((rd_T25 l0 x11_1).f2) 0 6).bind fun t121 => (if t121 = true then ((ephemerisref1_In.f ((rd_T25 l0 x11_1).f3) 0 86399999).bind fun t122 => (if t122 = true then ((ephemerisref1_Offset.f k1 ((rd_T25 l0 x11_1).f4)).bind fun t123 => (ephemerisref1_ZoneRulesError.j1 k1 l0 x11_1 l0 (l0.length : Int) x11_1 (!t123) ((rd_T25 l0 x11_1).f0) ((rd_T25 l0 x11_1).f1) ((rd_T25 l0 x11_1).f2) ((rd_T25 l0 x11_1).f3) ((rd_T25 l0 x11_1).f4) ((rd_T25 l0 x11_1).f5))) else (ephemerisref1_ZoneRulesError.j1 k1 l0 x11_1 l0 (l0.length : Int) x11_1 true ((rd_T25 l0 x11_1).f0) ((rd_T25 l0 x11_1).f1) ((rd_T25 l0 x11_1).f2) ((rd_T25 l0 x11_1).f3) ((rd_T25 l0 x11_1).f4) ((rd_T25 l0 x11_1).f5)))) else (ephemerisref1_ZoneRulesError.j1 k1 l0 x11_1 l0 (l0.length : Int) x11_1 true ((rd_T25 l0 x11_1).f0) ((rd_T25 l0 x11_1).f1) ((rd_T25 l0 x11_1).f2) ((rd_T25 l0 x11_1).f3) ((rd_T25 l0 x11_1).f4) ((rd_T25 l0 x11_1).f5)))) else (ephemerisref1_ZoneRulesError.j1 k1 l0 x11_1 l0 (l0.length : Int) x11_1 true ((rd_T25 l0 x11_1).f0) ((rd_T25 l0 x11_1).f1) ((rd_T25 l0 x11_1).f2) ((rd_T25 l0 x11_1).f3) ((rd_T25 l0 x11_1).f4) ((rd_T25 l0 x11_1).f5)))) = some r := by rw [if_pos rfl] at H; exact H
                  clear H
                  have H := H1
                  clear H1
                  replace H := Option.bind_eq_some_iff.mp H
                  obtain ⟨t120, A120, H⟩ := H
                  replace H : (if t120 = true then ((ephemerisref1_In.f ((rd_T25 l0 x11_1).f2) 0 6).bind fun t121 => (if t121 = true then ((ephemerisref1_In.f ((rd_T25 l0 x11_1).f3) 0 86399999).bind fun t122 => (if t122 = true then ((ephemerisref1_Offset.f k1 ((rd_T25 l0 x11_1).f4)).bind fun t123 => (ephemerisref1_ZoneRulesError.j1 k1 l0 x11_1 l0 (l0.length : Int) x11_1 (!t123) ((rd_T25 l0 x11_1).f0) ((rd_T25 l0 x11_1).f1) ((rd_T25 l0 x11_1).f2) ((rd_T25 l0 x11_1).f3) ((rd_T25 l0 x11_1).f4) ((rd_T25 l0 x11_1).f5))) else (ephemerisref1_ZoneRulesError.j1 k1 l0 x11_1 l0 (l0.length : Int) x11_1 true ((rd_T25 l0 x11_1).f0) ((rd_T25 l0 x11_1).f1) ((rd_T25 l0 x11_1).f2) ((rd_T25 l0 x11_1).f3) ((rd_T25 l0 x11_1).f4) ((rd_T25 l0 x11_1).f5)))) else (ephemerisref1_ZoneRulesError.j1 k1 l0 x11_1 l0 (l0.length : Int) x11_1 true ((rd_T25 l0 x11_1).f0) ((rd_T25 l0 x11_1).f1) ((rd_T25 l0 x11_1).f2) ((rd_T25 l0 x11_1).f3) ((rd_T25 l0 x11_1).f4) ((rd_T25 l0 x11_1).f5)))) else (ephemerisref1_ZoneRulesError.j1 k1 l0 x11_1 l0 (l0.length : Int) x11_1 true ((rd_T25 l0 x11_1).f0) ((rd_T25 l0 x11_1).f1) ((rd_T25 l0 x11_1).f2) ((rd_T25 l0 x11_1).f3) ((rd_T25 l0 x11_1).f4) ((rd_T25 l0 x11_1).f5))) = some r := H
                  have A12 := Aside0.mk A120
                  clear A120
                  by_cases c13 : t120 = true
                  · subst c13
                    have H1 : ((ephemerisref1_In.f ((rd_T25 l0 x11_1).f2) 0 6).bind fun t121 => (if t121 = true then ((ephemerisref1_In.f ((rd_T25 l0 x11_1).f3) 0 86399999).bind fun t122 => (if t122 = true then ((ephemerisref1_Offset.f k1 ((rd_T25 l0 x11_1).f4)).bind fun t123 => (ephemerisref1_ZoneRulesError.j1 k1 l0 x11_1 l0 (l0.length : Int) x11_1 (!t123) ((rd_T25 l0 x11_1).f0) ((rd_T25 l0 x11_1).f1) ((rd_T25 l0 x11_1).f2) ((rd_T25 l0 x11_1).f3) ((rd_T25 l0 x11_1).f4) ((rd_T25 l0 x11_1).f5))) else (ephemerisref1_ZoneRulesError.j1 k1 l0 x11_1 l0 (l0.length : Int) x11_1 true ((rd_T25 l0 x11_1).f0) ((rd_T25 l0 x11_1).f1) ((rd_T25 l0 x11_1).f2) ((rd_T25 l0 x11_1).f3) ((rd_T25 l0 x11_1).f4) ((rd_T25 l0 x11_1).f5)))) else (ephemerisref1_ZoneRulesError.j1 k1 l0 x11_1 l0 (l0.length : Int) x11_1 true ((rd_T25 l0 x11_1).f0) ((rd_T25 l0 x11_1).f1) ((rd_T25 l0 x11_1).f2) ((rd_T25 l0 x11_1).f3) ((rd_T25 l0 x11_1).f4) ((rd_T25 l0 x11_1).f5)))) = some r := by rw [if_pos rfl] at H; exact H
                    clear H
                    have H := H1
                    clear H1
                    replace H := Option.bind_eq_some_iff.mp H
                    obtain ⟨t121, A140, H⟩ := H
                    replace H : (if t121 = true then ((ephemerisref1_In.f ((rd_T25 l0 x11_1).f3) 0 86399999).bind fun t122 => (if t122 = true then ((ephemerisref1_Offset.f k1 ((rd_T25 l0 x11_1).f4)).bind fun t123 => (ephemerisref1_ZoneRulesError.j1 k1 l0 x11_1 l0 (l0.length : Int) x11_1 (!t123) ((rd_T25 l0 x11_1).f0) ((rd_T25 l0 x11_1).f1) ((rd_T25 l0 x11_1).f2) ((rd_T25 l0 x11_1).f3) ((rd_T25 l0 x11_1).f4) ((rd_T25 l0 x11_1).f5))) else (ephemerisref1_ZoneRulesError.j1 k1 l0 x11_1 l0 (l0.length : Int) x11_1 true ((rd_T25 l0 x11_1).f0) ((rd_T25 l0 x11_1).f1) ((rd_T25 l0 x11_1).f2) ((rd_T25 l0 x11_1).f3) ((rd_T25 l0 x11_1).f4) ((rd_T25 l0 x11_1).f5)))) else (ephemerisref1_ZoneRulesError.j1 k1 l0 x11_1 l0 (l0.length : Int) x11_1 true ((rd_T25 l0 x11_1).f0) ((rd_T25 l0 x11_1).f1) ((rd_T25 l0 x11_1).f2) ((rd_T25 l0 x11_1).f3) ((rd_T25 l0 x11_1).f4) ((rd_T25 l0 x11_1).f5))) = some r := H
                    have A14 := Aside0.mk A140
                    clear A140
                    by_cases c15 : t121 = true
                    · subst c15
                      have H1 : ((ephemerisref1_In.f ((rd_T25 l0 x11_1).f3) 0 86399999).bind fun t122 => (if t122 = true then ((ephemerisref1_Offset.f k1 ((rd_T25 l0 x11_1).f4)).bind fun t123 => (ephemerisref1_ZoneRulesError.j1 k1 l0 x11_1 l0 (l0.length : Int) x11_1 (!t123) ((rd_T25 l0 x11_1).f0) ((rd_T25 l0 x11_1).f1) ((rd_T25 l0 x11_1).f2) ((rd_T25 l0 x11_1).f3) ((rd_T25 l0 x11_1).f4) ((rd_T25 l0 x11_1).f5))) else (ephemerisref1_ZoneRulesError.j1 k1 l0 x11_1 l0 (l0.length : Int) x11_1 true ((rd_T25 l0 x11_1).f0) ((rd_T25 l0 x11_1).f1) ((rd_T25 l0 x11_1).f2) ((rd_T25 l0 x11_1).f3) ((rd_T25 l0 x11_1).f4) ((rd_T25 l0 x11_1).f5)))) = some r := by rw [if_pos rfl] at H; exact H
                      clear H
                      have H := H1
                      clear H1
                      replace H := Option.bind_eq_some_iff.mp H
                      obtain ⟨t122, A160, H⟩ := H
                      replace H : (if t122 = true then ((ephemerisref1_Offset.f k1 ((rd_T25 l0 x11_1).f4)).bind fun t123 => (ephemerisref1_ZoneRulesError.j1 k1 l0 x11_1 l0 (l0.length : Int) x11_1 (!t123) ((rd_T25 l0 x11_1).f0) ((rd_T25 l0 x11_1).f1) ((rd_T25 l0 x11_1).f2) ((rd_T25 l0 x11_1).f3) ((rd_T25 l0 x11_1).f4) ((rd_T25 l0 x11_1).f5))) else (ephemerisref1_ZoneRulesError.j1 k1 l0 x11_1 l0 (l0.length : Int) x11_1 true ((rd_T25 l0 x11_1).f0) ((rd_T25 l0 x11_1).f1) ((rd_T25 l0 x11_1).f2) ((rd_T25 l0 x11_1).f3) ((rd_T25 l0 x11_1).f4) ((rd_T25 l0 x11_1).f5))) = some r := H
                      have A16 := Aside0.mk A160
                      clear A160
                      by_cases c17 : t122 = true
                      · subst c17
                        have H1 : ((ephemerisref1_Offset.f k1 ((rd_T25 l0 x11_1).f4)).bind fun t123 => (ephemerisref1_ZoneRulesError.j1 k1 l0 x11_1 l0 (l0.length : Int) x11_1 (!t123) ((rd_T25 l0 x11_1).f0) ((rd_T25 l0 x11_1).f1) ((rd_T25 l0 x11_1).f2) ((rd_T25 l0 x11_1).f3) ((rd_T25 l0 x11_1).f4) ((rd_T25 l0 x11_1).f5))) = some r := by rw [if_pos rfl] at H; exact H
                        clear H
                        have H := H1
                        clear H1
                        replace H := Option.bind_eq_some_iff.mp H
                        obtain ⟨t123, A180, H⟩ := H
                        replace H : (ephemerisref1_ZoneRulesError.j1 k1 l0 x11_1 l0 (l0.length : Int) x11_1 (!t123) ((rd_T25 l0 x11_1).f0) ((rd_T25 l0 x11_1).f1) ((rd_T25 l0 x11_1).f2) ((rd_T25 l0 x11_1).f3) ((rd_T25 l0 x11_1).f4) ((rd_T25 l0 x11_1).f5)) = some r := H
                        have A18 := Aside0.mk A180
                        clear A180
                        have H' := Aside0.mk H
                        clear H
                        have hcz19_0 : w8.cell? ⟨gb118, 0, none⟩ = some (.int .i64 0) := (blk_cell BK118.out 0).trans rfl
                        have hcz19_1 : w8.cell? ⟨gb118, 1, none⟩ = some (.int .i64 0) := (blk_cell BK118.out 1).trans rfl
                        have hcz19_2 : w8.cell? ⟨gb118, 2, none⟩ = some (.int .i64 0) := (blk_cell BK118.out 2).trans rfl
                        have hcz19_3 : w8.cell? ⟨gb118, 3, none⟩ = some (.int .i64 0) := (blk_cell BK118.out 3).trans rfl
                        have hcz19_4 : w8.cell? ⟨gb118, 4, none⟩ = some (.int .i64 0) := (blk_cell BK118.out 4).trans rfl
                        have hcz19_5 : w8.cell? ⟨gb118, 5, none⟩ = some (.string (⟨#[]⟩ : ByteArray)) := (blk_cell BK118.out 5).trans rfl
                        have hfz19_0 := blk_frozen BK118.out 0
                        have hfz19_1 := blk_frozen BK118.out 1
                        have hfz19_2 := blk_frozen BK118.out 2
                        have hfz19_3 := blk_frozen BK118.out 3
                        have hfz19_4 := blk_frozen BK118.out 4
                        have hfz19_5 := blk_frozen BK118.out 5
                        go_wp2_with (first | (go_at_call 18; (with_reducible refine (ephemerisref1_In.calls ((rd_T25 l0 x11_1).f0) 1 12 true _ A10.out).mono ?_); rintro e w' ⟨rfl, ⟨nd, rfl⟩⟩; (try first | exact ⟨rfl, _, World.drewN_drewN _ _ _⟩ | exact ⟨rfl, _, Eq.trans (World.drewN_drewN _ _ _) (congrArg (World.drewN _) (Nat.add_assoc _ _ _))⟩)) | (go_at_call 18; (with_reducible refine (ephemerisref1_In.calls ((rd_T25 l0 x11_1).f1) 1 5 true _ A12.out).mono ?_); rintro e w' ⟨rfl, ⟨nd, rfl⟩⟩; (try first | exact ⟨rfl, _, World.drewN_drewN _ _ _⟩ | exact ⟨rfl, _, Eq.trans (World.drewN_drewN _ _ _) (congrArg (World.drewN _) (Nat.add_assoc _ _ _))⟩)) | (go_at_call 18; (with_reducible refine (ephemerisref1_In.calls ((rd_T25 l0 x11_1).f2) 0 6 true _ A14.out).mono ?_); rintro e w' ⟨rfl, ⟨nd, rfl⟩⟩; (try first | exact ⟨rfl, _, World.drewN_drewN _ _ _⟩ | exact ⟨rfl, _, Eq.trans (World.drewN_drewN _ _ _) (congrArg (World.drewN _) (Nat.add_assoc _ _ _))⟩)) | (go_at_call 18; (with_reducible refine (ephemerisref1_In.calls ((rd_T25 l0 x11_1).f3) 0 86399999 true _ A16.out).mono ?_); rintro e w' ⟨rfl, ⟨nd, rfl⟩⟩; (try first | exact ⟨rfl, _, World.drewN_drewN _ _ _⟩ | exact ⟨rfl, _, Eq.trans (World.drewN_drewN _ _ _) (congrArg (World.drewN _) (Nat.add_assoc _ _ _))⟩)) | (go_at_call 43; (with_reducible refine (ephemerisref1_Offset.calls k1 ((rd_T25 l0 x11_1).f4) t123 _ A18.out).mono ?_); rintro e w' ⟨rfl, ⟨nd, rfl⟩⟩; (try first | exact ⟨rfl, _, World.drewN_drewN _ _ _⟩ | exact ⟨rfl, _, Eq.trans (World.drewN_drewN _ _ _) (congrArg (World.drewN _) (Nat.add_assoc _ _ _))⟩)))
                        repeat (go_quiet (first | (go_at_call 18; (with_reducible refine (ephemerisref1_In.calls ((rd_T25 l0 x11_1).f0) 1 12 true _ A10.out).mono ?_); rintro e w' ⟨rfl, ⟨nd, rfl⟩⟩; (try first | exact ⟨rfl, _, World.drewN_drewN _ _ _⟩ | exact ⟨rfl, _, Eq.trans (World.drewN_drewN _ _ _) (congrArg (World.drewN _) (Nat.add_assoc _ _ _))⟩)) | (go_at_call 18; (with_reducible refine (ephemerisref1_In.calls ((rd_T25 l0 x11_1).f1) 1 5 true _ A12.out).mono ?_); rintro e w' ⟨rfl, ⟨nd, rfl⟩⟩; (try first | exact ⟨rfl, _, World.drewN_drewN _ _ _⟩ | exact ⟨rfl, _, Eq.trans (World.drewN_drewN _ _ _) (congrArg (World.drewN _) (Nat.add_assoc _ _ _))⟩)) | (go_at_call 18; (with_reducible refine (ephemerisref1_In.calls ((rd_T25 l0 x11_1).f2) 0 6 true _ A14.out).mono ?_); rintro e w' ⟨rfl, ⟨nd, rfl⟩⟩; (try first | exact ⟨rfl, _, World.drewN_drewN _ _ _⟩ | exact ⟨rfl, _, Eq.trans (World.drewN_drewN _ _ _) (congrArg (World.drewN _) (Nat.add_assoc _ _ _))⟩)) | (go_at_call 18; (with_reducible refine (ephemerisref1_In.calls ((rd_T25 l0 x11_1).f3) 0 86399999 true _ A16.out).mono ?_); rintro e w' ⟨rfl, ⟨nd, rfl⟩⟩; (try first | exact ⟨rfl, _, World.drewN_drewN _ _ _⟩ | exact ⟨rfl, _, Eq.trans (World.drewN_drewN _ _ _) (congrArg (World.drewN _) (Nat.add_assoc _ _ _))⟩)) | (go_at_call 43; (with_reducible refine (ephemerisref1_Offset.calls k1 ((rd_T25 l0 x11_1).f4) t123 _ A18.out).mono ?_); rintro e w' ⟨rfl, ⟨nd, rfl⟩⟩; (try first | exact ⟨rfl, _, World.drewN_drewN _ _ _⟩ | exact ⟨rfl, _, Eq.trans (World.drewN_drewN _ _ _) (congrArg (World.drewN _) (Nat.add_assoc _ _ _))⟩))); try go_wp2_with (first | (go_at_call 18; (with_reducible refine (ephemerisref1_In.calls ((rd_T25 l0 x11_1).f0) 1 12 true _ A10.out).mono ?_); rintro e w' ⟨rfl, ⟨nd, rfl⟩⟩; (try first | exact ⟨rfl, _, World.drewN_drewN _ _ _⟩ | exact ⟨rfl, _, Eq.trans (World.drewN_drewN _ _ _) (congrArg (World.drewN _) (Nat.add_assoc _ _ _))⟩)) | (go_at_call 18; (with_reducible refine (ephemerisref1_In.calls ((rd_T25 l0 x11_1).f1) 1 5 true _ A12.out).mono ?_); rintro e w' ⟨rfl, ⟨nd, rfl⟩⟩; (try first | exact ⟨rfl, _, World.drewN_drewN _ _ _⟩ | exact ⟨rfl, _, Eq.trans (World.drewN_drewN _ _ _) (congrArg (World.drewN _) (Nat.add_assoc _ _ _))⟩)) | (go_at_call 18; (with_reducible refine (ephemerisref1_In.calls ((rd_T25 l0 x11_1).f2) 0 6 true _ A14.out).mono ?_); rintro e w' ⟨rfl, ⟨nd, rfl⟩⟩; (try first | exact ⟨rfl, _, World.drewN_drewN _ _ _⟩ | exact ⟨rfl, _, Eq.trans (World.drewN_drewN _ _ _) (congrArg (World.drewN _) (Nat.add_assoc _ _ _))⟩)) | (go_at_call 18; (with_reducible refine (ephemerisref1_In.calls ((rd_T25 l0 x11_1).f3) 0 86399999 true _ A16.out).mono ?_); rintro e w' ⟨rfl, ⟨nd, rfl⟩⟩; (try first | exact ⟨rfl, _, World.drewN_drewN _ _ _⟩ | exact ⟨rfl, _, Eq.trans (World.drewN_drewN _ _ _) (congrArg (World.drewN _) (Nat.add_assoc _ _ _))⟩)) | (go_at_call 43; (with_reducible refine (ephemerisref1_Offset.calls k1 ((rd_T25 l0 x11_1).f4) t123 _ A18.out).mono ?_); rintro e w' ⟨rfl, ⟨nd, rfl⟩⟩; (try first | exact ⟨rfl, _, World.drewN_drewN _ _ _⟩ | exact ⟨rfl, _, Eq.trans (World.drewN_drewN _ _ _) (congrArg (World.drewN _) (Nat.add_assoc _ _ _))⟩))))
                        go_meet
                        case rel => exact ⟨_, (!t123), (by first | rfl | (simp; done) | (simp [*]; done)), H', ⟨by have := HK1.out; first | omega | exact Nat.le_refl _⟩, ⟨by (with_reducible repeat (first | refine blk_drewN ?_ _ | refine blk_drew ?_ | refine blk_alloc ?_ _)); refine blk_put (cs := #[.int .i64 ((rd_T25 l0 x11_1).f0), .int .i64 ((rd_T25 l0 x11_1).f1), .int .i64 ((rd_T25 l0 x11_1).f2), .int .i64 ((rd_T25 l0 x11_1).f3), .int .i64 ((rd_T25 l0 x11_1).f4), .string (⟨#[]⟩ : ByteArray)]) ?_ 5 _ rfl; (with_reducible repeat (first | refine blk_drewN ?_ _ | refine blk_drew ?_ | refine blk_alloc ?_ _)); refine blk_put (cs := #[.int .i64 ((rd_T25 l0 x11_1).f0), .int .i64 ((rd_T25 l0 x11_1).f1), .int .i64 ((rd_T25 l0 x11_1).f2), .int .i64 ((rd_T25 l0 x11_1).f3), .int .i64 0, .string (⟨#[]⟩ : ByteArray)]) ?_ 4 _ rfl; (with_reducible repeat (first | refine blk_drewN ?_ _ | refine blk_drew ?_ | refine blk_alloc ?_ _)); refine blk_put (cs := #[.int .i64 ((rd_T25 l0 x11_1).f0), .int .i64 ((rd_T25 l0 x11_1).f1), .int .i64 ((rd_T25 l0 x11_1).f2), .int .i64 0, .int .i64 0, .string (⟨#[]⟩ : ByteArray)]) ?_ 3 _ rfl; (with_reducible repeat (first | refine blk_drewN ?_ _ | refine blk_drew ?_ | refine blk_alloc ?_ _)); refine blk_put (cs := #[.int .i64 ((rd_T25 l0 x11_1).f0), .int .i64 ((rd_T25 l0 x11_1).f1), .int .i64 0, .int .i64 0, .int .i64 0, .string (⟨#[]⟩ : ByteArray)]) ?_ 2 _ rfl; (with_reducible repeat (first | refine blk_drewN ?_ _ | refine blk_drew ?_ | refine blk_alloc ?_ _)); refine blk_put (cs := #[.int .i64 ((rd_T25 l0 x11_1).f0), .int .i64 0, .int .i64 0, .int .i64 0, .int .i64 0, .string (⟨#[]⟩ : ByteArray)]) ?_ 1 _ rfl; (with_reducible repeat (first | refine blk_drewN ?_ _ | refine blk_drew ?_ | refine blk_alloc ?_ _)); refine blk_put (cs := #[.int .i64 0, .int .i64 0, .int .i64 0, .int .i64 0, .int .i64 0, .string (⟨#[]⟩ : ByteArray)]) ?_ 0 _ rfl; (with_reducible repeat (first | refine blk_drewN ?_ _ | refine blk_drew ?_ | refine blk_alloc ?_ _)); exact BK118.out⟩, ⟨by repeat (first | (with_reducible first | exact HB.out | apply below_alloc | apply pw_below_drewN | apply below_drew1 | refine below_set ?_ GE118.out) | exact HB.out)⟩⟩
                      · replace c17 := Bool.eq_false_iff.mpr c17
                        subst c17
                        have H1 : (ephemerisref1_ZoneRulesError.j1 k1 l0 x11_1 l0 (l0.length : Int) x11_1 true ((rd_T25 l0 x11_1).f0) ((rd_T25 l0 x11_1).f1) ((rd_T25 l0 x11_1).f2) ((rd_T25 l0 x11_1).f3) ((rd_T25 l0 x11_1).f4) ((rd_T25 l0 x11_1).f5)) = some r := by rw [if_neg (show ¬ (false = true) by decide)] at H; exact H
                        clear H
                        have H := H1
                        clear H1
                        have H' := Aside0.mk H
                        clear H
                        have hcz20_0 : w8.cell? ⟨gb118, 0, none⟩ = some (.int .i64 0) := (blk_cell BK118.out 0).trans rfl
                        have hcz20_1 : w8.cell? ⟨gb118, 1, none⟩ = some (.int .i64 0) := (blk_cell BK118.out 1).trans rfl
                        have hcz20_2 : w8.cell? ⟨gb118, 2, none⟩ = some (.int .i64 0) := (blk_cell BK118.out 2).trans rfl
                        have hcz20_3 : w8.cell? ⟨gb118, 3, none⟩ = some (.int .i64 0) := (blk_cell BK118.out 3).trans rfl
                        have hcz20_4 : w8.cell? ⟨gb118, 4, none⟩ = some (.int .i64 0) := (blk_cell BK118.out 4).trans rfl
                        have hcz20_5 : w8.cell? ⟨gb118, 5, none⟩ = some (.string (⟨#[]⟩ : ByteArray)) := (blk_cell BK118.out 5).trans rfl
                        have hfz20_0 := blk_frozen BK118.out 0
                        have hfz20_1 := blk_frozen BK118.out 1
                        have hfz20_2 := blk_frozen BK118.out 2
                        have hfz20_3 := blk_frozen BK118.out 3
                        have hfz20_4 := blk_frozen BK118.out 4
                        have hfz20_5 := blk_frozen BK118.out 5
                        go_wp2_with (first | (go_at_call 18; (with_reducible refine (ephemerisref1_In.calls ((rd_T25 l0 x11_1).f0) 1 12 true _ A10.out).mono ?_); rintro e w' ⟨rfl, ⟨nd, rfl⟩⟩; (try first | exact ⟨rfl, _, World.drewN_drewN _ _ _⟩ | exact ⟨rfl, _, Eq.trans (World.drewN_drewN _ _ _) (congrArg (World.drewN _) (Nat.add_assoc _ _ _))⟩)) | (go_at_call 18; (with_reducible refine (ephemerisref1_In.calls ((rd_T25 l0 x11_1).f1) 1 5 true _ A12.out).mono ?_); rintro e w' ⟨rfl, ⟨nd, rfl⟩⟩; (try first | exact ⟨rfl, _, World.drewN_drewN _ _ _⟩ | exact ⟨rfl, _, Eq.trans (World.drewN_drewN _ _ _) (congrArg (World.drewN _) (Nat.add_assoc _ _ _))⟩)) | (go_at_call 18; (with_reducible refine (ephemerisref1_In.calls ((rd_T25 l0 x11_1).f2) 0 6 true _ A14.out).mono ?_); rintro e w' ⟨rfl, ⟨nd, rfl⟩⟩; (try first | exact ⟨rfl, _, World.drewN_drewN _ _ _⟩ | exact ⟨rfl, _, Eq.trans (World.drewN_drewN _ _ _) (congrArg (World.drewN _) (Nat.add_assoc _ _ _))⟩)) | (go_at_call 18; (with_reducible refine (ephemerisref1_In.calls ((rd_T25 l0 x11_1).f3) 0 86399999 false _ A16.out).mono ?_); rintro e w' ⟨rfl, ⟨nd, rfl⟩⟩; (try first | exact ⟨rfl, _, World.drewN_drewN _ _ _⟩ | exact ⟨rfl, _, Eq.trans (World.drewN_drewN _ _ _) (congrArg (World.drewN _) (Nat.add_assoc _ _ _))⟩)))
                        repeat (go_quiet (first | (go_at_call 18; (with_reducible refine (ephemerisref1_In.calls ((rd_T25 l0 x11_1).f0) 1 12 true _ A10.out).mono ?_); rintro e w' ⟨rfl, ⟨nd, rfl⟩⟩; (try first | exact ⟨rfl, _, World.drewN_drewN _ _ _⟩ | exact ⟨rfl, _, Eq.trans (World.drewN_drewN _ _ _) (congrArg (World.drewN _) (Nat.add_assoc _ _ _))⟩)) | (go_at_call 18; (with_reducible refine (ephemerisref1_In.calls ((rd_T25 l0 x11_1).f1) 1 5 true _ A12.out).mono ?_); rintro e w' ⟨rfl, ⟨nd, rfl⟩⟩; (try first | exact ⟨rfl, _, World.drewN_drewN _ _ _⟩ | exact ⟨rfl, _, Eq.trans (World.drewN_drewN _ _ _) (congrArg (World.drewN _) (Nat.add_assoc _ _ _))⟩)) | (go_at_call 18; (with_reducible refine (ephemerisref1_In.calls ((rd_T25 l0 x11_1).f2) 0 6 true _ A14.out).mono ?_); rintro e w' ⟨rfl, ⟨nd, rfl⟩⟩; (try first | exact ⟨rfl, _, World.drewN_drewN _ _ _⟩ | exact ⟨rfl, _, Eq.trans (World.drewN_drewN _ _ _) (congrArg (World.drewN _) (Nat.add_assoc _ _ _))⟩)) | (go_at_call 18; (with_reducible refine (ephemerisref1_In.calls ((rd_T25 l0 x11_1).f3) 0 86399999 false _ A16.out).mono ?_); rintro e w' ⟨rfl, ⟨nd, rfl⟩⟩; (try first | exact ⟨rfl, _, World.drewN_drewN _ _ _⟩ | exact ⟨rfl, _, Eq.trans (World.drewN_drewN _ _ _) (congrArg (World.drewN _) (Nat.add_assoc _ _ _))⟩))); try go_wp2_with (first | (go_at_call 18; (with_reducible refine (ephemerisref1_In.calls ((rd_T25 l0 x11_1).f0) 1 12 true _ A10.out).mono ?_); rintro e w' ⟨rfl, ⟨nd, rfl⟩⟩; (try first | exact ⟨rfl, _, World.drewN_drewN _ _ _⟩ | exact ⟨rfl, _, Eq.trans (World.drewN_drewN _ _ _) (congrArg (World.drewN _) (Nat.add_assoc _ _ _))⟩)) | (go_at_call 18; (with_reducible refine (ephemerisref1_In.calls ((rd_T25 l0 x11_1).f1) 1 5 true _ A12.out).mono ?_); rintro e w' ⟨rfl, ⟨nd, rfl⟩⟩; (try first | exact ⟨rfl, _, World.drewN_drewN _ _ _⟩ | exact ⟨rfl, _, Eq.trans (World.drewN_drewN _ _ _) (congrArg (World.drewN _) (Nat.add_assoc _ _ _))⟩)) | (go_at_call 18; (with_reducible refine (ephemerisref1_In.calls ((rd_T25 l0 x11_1).f2) 0 6 true _ A14.out).mono ?_); rintro e w' ⟨rfl, ⟨nd, rfl⟩⟩; (try first | exact ⟨rfl, _, World.drewN_drewN _ _ _⟩ | exact ⟨rfl, _, Eq.trans (World.drewN_drewN _ _ _) (congrArg (World.drewN _) (Nat.add_assoc _ _ _))⟩)) | (go_at_call 18; (with_reducible refine (ephemerisref1_In.calls ((rd_T25 l0 x11_1).f3) 0 86399999 false _ A16.out).mono ?_); rintro e w' ⟨rfl, ⟨nd, rfl⟩⟩; (try first | exact ⟨rfl, _, World.drewN_drewN _ _ _⟩ | exact ⟨rfl, _, Eq.trans (World.drewN_drewN _ _ _) (congrArg (World.drewN _) (Nat.add_assoc _ _ _))⟩))))
                        go_meet
                        case rel => exact ⟨_, (true), (by first | rfl | (simp; done) | (simp [*]; done)), H', ⟨by have := HK1.out; first | omega | exact Nat.le_refl _⟩, ⟨by (with_reducible repeat (first | refine blk_drewN ?_ _ | refine blk_drew ?_ | refine blk_alloc ?_ _)); refine blk_put (cs := #[.int .i64 ((rd_T25 l0 x11_1).f0), .int .i64 ((rd_T25 l0 x11_1).f1), .int .i64 ((rd_T25 l0 x11_1).f2), .int .i64 ((rd_T25 l0 x11_1).f3), .int .i64 ((rd_T25 l0 x11_1).f4), .string (⟨#[]⟩ : ByteArray)]) ?_ 5 _ rfl; (with_reducible repeat (first | refine blk_drewN ?_ _ | refine blk_drew ?_ | refine blk_alloc ?_ _)); refine blk_put (cs := #[.int .i64 ((rd_T25 l0 x11_1).f0), .int .i64 ((rd_T25 l0 x11_1).f1), .int .i64 ((rd_T25 l0 x11_1).f2), .int .i64 ((rd_T25 l0 x11_1).f3), .int .i64 0, .string (⟨#[]⟩ : ByteArray)]) ?_ 4 _ rfl; (with_reducible repeat (first | refine blk_drewN ?_ _ | refine blk_drew ?_ | refine blk_alloc ?_ _)); refine blk_put (cs := #[.int .i64 ((rd_T25 l0 x11_1).f0), .int .i64 ((rd_T25 l0 x11_1).f1), .int .i64 ((rd_T25 l0 x11_1).f2), .int .i64 0, .int .i64 0, .string (⟨#[]⟩ : ByteArray)]) ?_ 3 _ rfl; (with_reducible repeat (first | refine blk_drewN ?_ _ | refine blk_drew ?_ | refine blk_alloc ?_ _)); refine blk_put (cs := #[.int .i64 ((rd_T25 l0 x11_1).f0), .int .i64 ((rd_T25 l0 x11_1).f1), .int .i64 0, .int .i64 0, .int .i64 0, .string (⟨#[]⟩ : ByteArray)]) ?_ 2 _ rfl; (with_reducible repeat (first | refine blk_drewN ?_ _ | refine blk_drew ?_ | refine blk_alloc ?_ _)); refine blk_put (cs := #[.int .i64 ((rd_T25 l0 x11_1).f0), .int .i64 0, .int .i64 0, .int .i64 0, .int .i64 0, .string (⟨#[]⟩ : ByteArray)]) ?_ 1 _ rfl; (with_reducible repeat (first | refine blk_drewN ?_ _ | refine blk_drew ?_ | refine blk_alloc ?_ _)); refine blk_put (cs := #[.int .i64 0, .int .i64 0, .int .i64 0, .int .i64 0, .int .i64 0, .string (⟨#[]⟩ : ByteArray)]) ?_ 0 _ rfl; (with_reducible repeat (first | refine blk_drewN ?_ _ | refine blk_drew ?_ | refine blk_alloc ?_ _)); exact BK118.out⟩, ⟨by repeat (first | (with_reducible first | exact HB.out | apply below_alloc | apply pw_below_drewN | apply below_drew1 | refine below_set ?_ GE118.out) | exact HB.out)⟩⟩
                    · replace c15 := Bool.eq_false_iff.mpr c15
                      subst c15
                      have H1 : (ephemerisref1_ZoneRulesError.j1 k1 l0 x11_1 l0 (l0.length : Int) x11_1 true ((rd_T25 l0 x11_1).f0) ((rd_T25 l0 x11_1).f1) ((rd_T25 l0 x11_1).f2) ((rd_T25 l0 x11_1).f3) ((rd_T25 l0 x11_1).f4) ((rd_T25 l0 x11_1).f5)) = some r := by rw [if_neg (show ¬ (false = true) by decide)] at H; exact H
                      clear H
                      have H := H1
                      clear H1
                      have H' := Aside0.mk H
                      clear H
                      have hcz21_0 : w8.cell? ⟨gb118, 0, none⟩ = some (.int .i64 0) := (blk_cell BK118.out 0).trans rfl
                      have hcz21_1 : w8.cell? ⟨gb118, 1, none⟩ = some (.int .i64 0) := (blk_cell BK118.out 1).trans rfl
                      have hcz21_2 : w8.cell? ⟨gb118, 2, none⟩ = some (.int .i64 0) := (blk_cell BK118.out 2).trans rfl
                      have hcz21_3 : w8.cell? ⟨gb118, 3, none⟩ = some (.int .i64 0) := (blk_cell BK118.out 3).trans rfl
                      have hcz21_4 : w8.cell? ⟨gb118, 4, none⟩ = some (.int .i64 0) := (blk_cell BK118.out 4).trans rfl
                      have hcz21_5 : w8.cell? ⟨gb118, 5, none⟩ = some (.string (⟨#[]⟩ : ByteArray)) := (blk_cell BK118.out 5).trans rfl
                      have hfz21_0 := blk_frozen BK118.out 0
                      have hfz21_1 := blk_frozen BK118.out 1
                      have hfz21_2 := blk_frozen BK118.out 2
                      have hfz21_3 := blk_frozen BK118.out 3
                      have hfz21_4 := blk_frozen BK118.out 4
                      have hfz21_5 := blk_frozen BK118.out 5
                      go_wp2_with (first | (go_at_call 18; (with_reducible refine (ephemerisref1_In.calls ((rd_T25 l0 x11_1).f0) 1 12 true _ A10.out).mono ?_); rintro e w' ⟨rfl, ⟨nd, rfl⟩⟩; (try first | exact ⟨rfl, _, World.drewN_drewN _ _ _⟩ | exact ⟨rfl, _, Eq.trans (World.drewN_drewN _ _ _) (congrArg (World.drewN _) (Nat.add_assoc _ _ _))⟩)) | (go_at_call 18; (with_reducible refine (ephemerisref1_In.calls ((rd_T25 l0 x11_1).f1) 1 5 true _ A12.out).mono ?_); rintro e w' ⟨rfl, ⟨nd, rfl⟩⟩; (try first | exact ⟨rfl, _, World.drewN_drewN _ _ _⟩ | exact ⟨rfl, _, Eq.trans (World.drewN_drewN _ _ _) (congrArg (World.drewN _) (Nat.add_assoc _ _ _))⟩)) | (go_at_call 18; (with_reducible refine (ephemerisref1_In.calls ((rd_T25 l0 x11_1).f2) 0 6 false _ A14.out).mono ?_); rintro e w' ⟨rfl, ⟨nd, rfl⟩⟩; (try first | exact ⟨rfl, _, World.drewN_drewN _ _ _⟩ | exact ⟨rfl, _, Eq.trans (World.drewN_drewN _ _ _) (congrArg (World.drewN _) (Nat.add_assoc _ _ _))⟩)))
                      repeat (go_quiet (first | (go_at_call 18; (with_reducible refine (ephemerisref1_In.calls ((rd_T25 l0 x11_1).f0) 1 12 true _ A10.out).mono ?_); rintro e w' ⟨rfl, ⟨nd, rfl⟩⟩; (try first | exact ⟨rfl, _, World.drewN_drewN _ _ _⟩ | exact ⟨rfl, _, Eq.trans (World.drewN_drewN _ _ _) (congrArg (World.drewN _) (Nat.add_assoc _ _ _))⟩)) | (go_at_call 18; (with_reducible refine (ephemerisref1_In.calls ((rd_T25 l0 x11_1).f1) 1 5 true _ A12.out).mono ?_); rintro e w' ⟨rfl, ⟨nd, rfl⟩⟩; (try first | exact ⟨rfl, _, World.drewN_drewN _ _ _⟩ | exact ⟨rfl, _, Eq.trans (World.drewN_drewN _ _ _) (congrArg (World.drewN _) (Nat.add_assoc _ _ _))⟩)) | (go_at_call 18; (with_reducible refine (ephemerisref1_In.calls ((rd_T25 l0 x11_1).f2) 0 6 false _ A14.out).mono ?_); rintro e w' ⟨rfl, ⟨nd, rfl⟩⟩; (try first | exact ⟨rfl, _, World.drewN_drewN _ _ _⟩ | exact ⟨rfl, _, Eq.trans (World.drewN_drewN _ _ _) (congrArg (World.drewN _) (Nat.add_assoc _ _ _))⟩))); try go_wp2_with (first | (go_at_call 18; (with_reducible refine (ephemerisref1_In.calls ((rd_T25 l0 x11_1).f0) 1 12 true _ A10.out).mono ?_); rintro e w' ⟨rfl, ⟨nd, rfl⟩⟩; (try first | exact ⟨rfl, _, World.drewN_drewN _ _ _⟩ | exact ⟨rfl, _, Eq.trans (World.drewN_drewN _ _ _) (congrArg (World.drewN _) (Nat.add_assoc _ _ _))⟩)) | (go_at_call 18; (with_reducible refine (ephemerisref1_In.calls ((rd_T25 l0 x11_1).f1) 1 5 true _ A12.out).mono ?_); rintro e w' ⟨rfl, ⟨nd, rfl⟩⟩; (try first | exact ⟨rfl, _, World.drewN_drewN _ _ _⟩ | exact ⟨rfl, _, Eq.trans (World.drewN_drewN _ _ _) (congrArg (World.drewN _) (Nat.add_assoc _ _ _))⟩)) | (go_at_call 18; (with_reducible refine (ephemerisref1_In.calls ((rd_T25 l0 x11_1).f2) 0 6 false _ A14.out).mono ?_); rintro e w' ⟨rfl, ⟨nd, rfl⟩⟩; (try first | exact ⟨rfl, _, World.drewN_drewN _ _ _⟩ | exact ⟨rfl, _, Eq.trans (World.drewN_drewN _ _ _) (congrArg (World.drewN _) (Nat.add_assoc _ _ _))⟩))))
                      go_meet
                      case rel => exact ⟨_, (true), (by first | rfl | (simp; done) | (simp [*]; done)), H', ⟨by have := HK1.out; first | omega | exact Nat.le_refl _⟩, ⟨by (with_reducible repeat (first | refine blk_drewN ?_ _ | refine blk_drew ?_ | refine blk_alloc ?_ _)); refine blk_put (cs := #[.int .i64 ((rd_T25 l0 x11_1).f0), .int .i64 ((rd_T25 l0 x11_1).f1), .int .i64 ((rd_T25 l0 x11_1).f2), .int .i64 ((rd_T25 l0 x11_1).f3), .int .i64 ((rd_T25 l0 x11_1).f4), .string (⟨#[]⟩ : ByteArray)]) ?_ 5 _ rfl; (with_reducible repeat (first | refine blk_drewN ?_ _ | refine blk_drew ?_ | refine blk_alloc ?_ _)); refine blk_put (cs := #[.int .i64 ((rd_T25 l0 x11_1).f0), .int .i64 ((rd_T25 l0 x11_1).f1), .int .i64 ((rd_T25 l0 x11_1).f2), .int .i64 ((rd_T25 l0 x11_1).f3), .int .i64 0, .string (⟨#[]⟩ : ByteArray)]) ?_ 4 _ rfl; (with_reducible repeat (first | refine blk_drewN ?_ _ | refine blk_drew ?_ | refine blk_alloc ?_ _)); refine blk_put (cs := #[.int .i64 ((rd_T25 l0 x11_1).f0), .int .i64 ((rd_T25 l0 x11_1).f1), .int .i64 ((rd_T25 l0 x11_1).f2), .int .i64 0, .int .i64 0, .string (⟨#[]⟩ : ByteArray)]) ?_ 3 _ rfl; (with_reducible repeat (first | refine blk_drewN ?_ _ | refine blk_drew ?_ | refine blk_alloc ?_ _)); refine blk_put (cs := #[.int .i64 ((rd_T25 l0 x11_1).f0), .int .i64 ((rd_T25 l0 x11_1).f1), .int .i64 0, .int .i64 0, .int .i64 0, .string (⟨#[]⟩ : ByteArray)]) ?_ 2 _ rfl; (with_reducible repeat (first | refine blk_drewN ?_ _ | refine blk_drew ?_ | refine blk_alloc ?_ _)); refine blk_put (cs := #[.int .i64 ((rd_T25 l0 x11_1).f0), .int .i64 0, .int .i64 0, .int .i64 0, .int .i64 0, .string (⟨#[]⟩ : ByteArray)]) ?_ 1 _ rfl; (with_reducible repeat (first | refine blk_drewN ?_ _ | refine blk_drew ?_ | refine blk_alloc ?_ _)); refine blk_put (cs := #[.int .i64 0, .int .i64 0, .int .i64 0, .int .i64 0, .int .i64 0, .string (⟨#[]⟩ : ByteArray)]) ?_ 0 _ rfl; (with_reducible repeat (first | refine blk_drewN ?_ _ | refine blk_drew ?_ | refine blk_alloc ?_ _)); exact BK118.out⟩, ⟨by repeat (first | (with_reducible first | exact HB.out | apply below_alloc | apply pw_below_drewN | apply below_drew1 | refine below_set ?_ GE118.out) | exact HB.out)⟩⟩
                  · replace c13 := Bool.eq_false_iff.mpr c13
                    subst c13
                    have H1 : (ephemerisref1_ZoneRulesError.j1 k1 l0 x11_1 l0 (l0.length : Int) x11_1 true ((rd_T25 l0 x11_1).f0) ((rd_T25 l0 x11_1).f1) ((rd_T25 l0 x11_1).f2) ((rd_T25 l0 x11_1).f3) ((rd_T25 l0 x11_1).f4) ((rd_T25 l0 x11_1).f5)) = some r := by rw [if_neg (show ¬ (false = true) by decide)] at H; exact H
                    clear H
                    have H := H1
                    clear H1
                    have H' := Aside0.mk H
                    clear H
                    have hcz22_0 : w8.cell? ⟨gb118, 0, none⟩ = some (.int .i64 0) := (blk_cell BK118.out 0).trans rfl
                    have hcz22_1 : w8.cell? ⟨gb118, 1, none⟩ = some (.int .i64 0) := (blk_cell BK118.out 1).trans rfl
                    have hcz22_2 : w8.cell? ⟨gb118, 2, none⟩ = some (.int .i64 0) := (blk_cell BK118.out 2).trans rfl
                    have hcz22_3 : w8.cell? ⟨gb118, 3, none⟩ = some (.int .i64 0) := (blk_cell BK118.out 3).trans rfl
                    have hcz22_4 : w8.cell? ⟨gb118, 4, none⟩ = some (.int .i64 0) := (blk_cell BK118.out 4).trans rfl
                    have hcz22_5 : w8.cell? ⟨gb118, 5, none⟩ = some (.string (⟨#[]⟩ : ByteArray)) := (blk_cell BK118.out 5).trans rfl
                    have hfz22_0 := blk_frozen BK118.out 0
                    have hfz22_1 := blk_frozen BK118.out 1
                    have hfz22_2 := blk_frozen BK118.out 2
                    have hfz22_3 := blk_frozen BK118.out 3
                    have hfz22_4 := blk_frozen BK118.out 4
                    have hfz22_5 := blk_frozen BK118.out 5
                    go_wp2_with (first | (go_at_call 18; (with_reducible refine (ephemerisref1_In.calls ((rd_T25 l0 x11_1).f0) 1 12 true _ A10.out).mono ?_); rintro e w' ⟨rfl, ⟨nd, rfl⟩⟩; (try first | exact ⟨rfl, _, World.drewN_drewN _ _ _⟩ | exact ⟨rfl, _, Eq.trans (World.drewN_drewN _ _ _) (congrArg (World.drewN _) (Nat.add_assoc _ _ _))⟩)) | (go_at_call 18; (with_reducible refine (ephemerisref1_In.calls ((rd_T25 l0 x11_1).f1) 1 5 false _ A12.out).mono ?_); rintro e w' ⟨rfl, ⟨nd, rfl⟩⟩; (try first | exact ⟨rfl, _, World.drewN_drewN _ _ _⟩ | exact ⟨rfl, _, Eq.trans (World.drewN_drewN _ _ _) (congrArg (World.drewN _) (Nat.add_assoc _ _ _))⟩)))
                    repeat (go_quiet (first | (go_at_call 18; (with_reducible refine (ephemerisref1_In.calls ((rd_T25 l0 x11_1).f0) 1 12 true _ A10.out).mono ?_); rintro e w' ⟨rfl, ⟨nd, rfl⟩⟩; (try first | exact ⟨rfl, _, World.drewN_drewN _ _ _⟩ | exact ⟨rfl, _, Eq.trans (World.drewN_drewN _ _ _) (congrArg (World.drewN _) (Nat.add_assoc _ _ _))⟩)) | (go_at_call 18; (with_reducible refine (ephemerisref1_In.calls ((rd_T25 l0 x11_1).f1) 1 5 false _ A12.out).mono ?_); rintro e w' ⟨rfl, ⟨nd, rfl⟩⟩; (try first | exact ⟨rfl, _, World.drewN_drewN _ _ _⟩ | exact ⟨rfl, _, Eq.trans (World.drewN_drewN _ _ _) (congrArg (World.drewN _) (Nat.add_assoc _ _ _))⟩))); try go_wp2_with (first | (go_at_call 18; (with_reducible refine (ephemerisref1_In.calls ((rd_T25 l0 x11_1).f0) 1 12 true _ A10.out).mono ?_); rintro e w' ⟨rfl, ⟨nd, rfl⟩⟩; (try first | exact ⟨rfl, _, World.drewN_drewN _ _ _⟩ | exact ⟨rfl, _, Eq.trans (World.drewN_drewN _ _ _) (congrArg (World.drewN _) (Nat.add_assoc _ _ _))⟩)) | (go_at_call 18; (with_reducible refine (ephemerisref1_In.calls ((rd_T25 l0 x11_1).f1) 1 5 false _ A12.out).mono ?_); rintro e w' ⟨rfl, ⟨nd, rfl⟩⟩; (try first | exact ⟨rfl, _, World.drewN_drewN _ _ _⟩ | exact ⟨rfl, _, Eq.trans (World.drewN_drewN _ _ _) (congrArg (World.drewN _) (Nat.add_assoc _ _ _))⟩))))
                    go_meet
                    case rel => exact ⟨_, (true), (by first | rfl | (simp; done) | (simp [*]; done)), H', ⟨by have := HK1.out; first | omega | exact Nat.le_refl _⟩, ⟨by (with_reducible repeat (first | refine blk_drewN ?_ _ | refine blk_drew ?_ | refine blk_alloc ?_ _)); refine blk_put (cs := #[.int .i64 ((rd_T25 l0 x11_1).f0), .int .i64 ((rd_T25 l0 x11_1).f1), .int .i64 ((rd_T25 l0 x11_1).f2), .int .i64 ((rd_T25 l0 x11_1).f3), .int .i64 ((rd_T25 l0 x11_1).f4), .string (⟨#[]⟩ : ByteArray)]) ?_ 5 _ rfl; (with_reducible repeat (first | refine blk_drewN ?_ _ | refine blk_drew ?_ | refine blk_alloc ?_ _)); refine blk_put (cs := #[.int .i64 ((rd_T25 l0 x11_1).f0), .int .i64 ((rd_T25 l0 x11_1).f1), .int .i64 ((rd_T25 l0 x11_1).f2), .int .i64 ((rd_T25 l0 x11_1).f3), .int .i64 0, .string (⟨#[]⟩ : ByteArray)]) ?_ 4 _ rfl; (with_reducible repeat (first | refine blk_drewN ?_ _ | refine blk_drew ?_ | refine blk_alloc ?_ _)); refine blk_put (cs := #[.int .i64 ((rd_T25 l0 x11_1).f0), .int .i64 ((rd_T25 l0 x11_1).f1), .int .i64 ((rd_T25 l0 x11_1).f2), .int .i64 0, .int .i64 0, .string (⟨#[]⟩ : ByteArray)]) ?_ 3 _ rfl; (with_reducible repeat (first | refine blk_drewN ?_ _ | refine blk_drew ?_ | refine blk_alloc ?_ _)); refine blk_put (cs := #[.int .i64 ((rd_T25 l0 x11_1).f0), .int .i64 ((rd_T25 l0 x11_1).f1), .int .i64 0, .int .i64 0, .int .i64 0, .string (⟨#[]⟩ : ByteArray)]) ?_ 2 _ rfl; (with_reducible repeat (first | refine blk_drewN ?_ _ | refine blk_drew ?_ | refine blk_alloc ?_ _)); refine blk_put (cs := #[.int .i64 ((rd_T25 l0 x11_1).f0), .int .i64 0, .int .i64 0, .int .i64 0, .int .i64 0, .string (⟨#[]⟩ : ByteArray)]) ?_ 1 _ rfl; (with_reducible repeat (first | refine blk_drewN ?_ _ | refine blk_drew ?_ | refine blk_alloc ?_ _)); refine blk_put (cs := #[.int .i64 0, .int .i64 0, .int .i64 0, .int .i64 0, .int .i64 0, .string (⟨#[]⟩ : ByteArray)]) ?_ 0 _ rfl; (with_reducible repeat (first | refine blk_drewN ?_ _ | refine blk_drew ?_ | refine blk_alloc ?_ _)); exact BK118.out⟩, ⟨by repeat (first | (with_reducible first | exact HB.out | apply below_alloc | apply pw_below_drewN | apply below_drew1 | refine below_set ?_ GE118.out) | exact HB.out)⟩⟩
                · replace c11 := Bool.eq_false_iff.mpr c11
                  subst c11
                  have H1 : (ephemerisref1_ZoneRulesError.j1 k1 l0 x11_1 l0 (l0.length : Int) x11_1 true ((rd_T25 l0 x11_1).f0) ((rd_T25 l0 x11_1).f1) ((rd_T25 l0 x11_1).f2) ((rd_T25 l0 x11_1).f3) ((rd_T25 l0 x11_1).f4) ((rd_T25 l0 x11_1).f5)) = some r := by rw [if_neg (show ¬ (false = true) by decide)] at H; exact H
                  clear H
                  have H := H1
                  clear H1
                  have H' := Aside0.mk H
                  clear H
                  have hcz23_0 : w8.cell? ⟨gb118, 0, none⟩ = some (.int .i64 0) := (blk_cell BK118.out 0).trans rfl
                  have hcz23_1 : w8.cell? ⟨gb118, 1, none⟩ = some (.int .i64 0) := (blk_cell BK118.out 1).trans rfl
                  have hcz23_2 : w8.cell? ⟨gb118, 2, none⟩ = some (.int .i64 0) := (blk_cell BK118.out 2).trans rfl
                  have hcz23_3 : w8.cell? ⟨gb118, 3, none⟩ = some (.int .i64 0) := (blk_cell BK118.out 3).trans rfl
                  have hcz23_4 : w8.cell? ⟨gb118, 4, none⟩ = some (.int .i64 0) := (blk_cell BK118.out 4).trans rfl
                  have hcz23_5 : w8.cell? ⟨gb118, 5, none⟩ = some (.string (⟨#[]⟩ : ByteArray)) := (blk_cell BK118.out 5).trans rfl
                  have hfz23_0 := blk_frozen BK118.out 0
                  have hfz23_1 := blk_frozen BK118.out 1
                  have hfz23_2 := blk_frozen BK118.out 2
                  have hfz23_3 := blk_frozen BK118.out 3
                  have hfz23_4 := blk_frozen BK118.out 4
                  have hfz23_5 := blk_frozen BK118.out 5
                  go_wp2_with (first | (go_at_call 18; (with_reducible refine (ephemerisref1_In.calls ((rd_T25 l0 x11_1).f0) 1 12 false _ A10.out).mono ?_); rintro e w' ⟨rfl, ⟨nd, rfl⟩⟩; (try first | exact ⟨rfl, _, World.drewN_drewN _ _ _⟩ | exact ⟨rfl, _, Eq.trans (World.drewN_drewN _ _ _) (congrArg (World.drewN _) (Nat.add_assoc _ _ _))⟩)))
                  repeat (go_quiet (first | (go_at_call 18; (with_reducible refine (ephemerisref1_In.calls ((rd_T25 l0 x11_1).f0) 1 12 false _ A10.out).mono ?_); rintro e w' ⟨rfl, ⟨nd, rfl⟩⟩; (try first | exact ⟨rfl, _, World.drewN_drewN _ _ _⟩ | exact ⟨rfl, _, Eq.trans (World.drewN_drewN _ _ _) (congrArg (World.drewN _) (Nat.add_assoc _ _ _))⟩))); try go_wp2_with (first | (go_at_call 18; (with_reducible refine (ephemerisref1_In.calls ((rd_T25 l0 x11_1).f0) 1 12 false _ A10.out).mono ?_); rintro e w' ⟨rfl, ⟨nd, rfl⟩⟩; (try first | exact ⟨rfl, _, World.drewN_drewN _ _ _⟩ | exact ⟨rfl, _, Eq.trans (World.drewN_drewN _ _ _) (congrArg (World.drewN _) (Nat.add_assoc _ _ _))⟩))))
                  go_meet
                  case rel => exact ⟨_, (true), (by first | rfl | (simp; done) | (simp [*]; done)), H', ⟨by have := HK1.out; first | omega | exact Nat.le_refl _⟩, ⟨by (with_reducible repeat (first | refine blk_drewN ?_ _ | refine blk_drew ?_ | refine blk_alloc ?_ _)); refine blk_put (cs := #[.int .i64 ((rd_T25 l0 x11_1).f0), .int .i64 ((rd_T25 l0 x11_1).f1), .int .i64 ((rd_T25 l0 x11_1).f2), .int .i64 ((rd_T25 l0 x11_1).f3), .int .i64 ((rd_T25 l0 x11_1).f4), .string (⟨#[]⟩ : ByteArray)]) ?_ 5 _ rfl; (with_reducible repeat (first | refine blk_drewN ?_ _ | refine blk_drew ?_ | refine blk_alloc ?_ _)); refine blk_put (cs := #[.int .i64 ((rd_T25 l0 x11_1).f0), .int .i64 ((rd_T25 l0 x11_1).f1), .int .i64 ((rd_T25 l0 x11_1).f2), .int .i64 ((rd_T25 l0 x11_1).f3), .int .i64 0, .string (⟨#[]⟩ : ByteArray)]) ?_ 4 _ rfl; (with_reducible repeat (first | refine blk_drewN ?_ _ | refine blk_drew ?_ | refine blk_alloc ?_ _)); refine blk_put (cs := #[.int .i64 ((rd_T25 l0 x11_1).f0), .int .i64 ((rd_T25 l0 x11_1).f1), .int .i64 ((rd_T25 l0 x11_1).f2), .int .i64 0, .int .i64 0, .string (⟨#[]⟩ : ByteArray)]) ?_ 3 _ rfl; (with_reducible repeat (first | refine blk_drewN ?_ _ | refine blk_drew ?_ | refine blk_alloc ?_ _)); refine blk_put (cs := #[.int .i64 ((rd_T25 l0 x11_1).f0), .int .i64 ((rd_T25 l0 x11_1).f1), .int .i64 0, .int .i64 0, .int .i64 0, .string (⟨#[]⟩ : ByteArray)]) ?_ 2 _ rfl; (with_reducible repeat (first | refine blk_drewN ?_ _ | refine blk_drew ?_ | refine blk_alloc ?_ _)); refine blk_put (cs := #[.int .i64 ((rd_T25 l0 x11_1).f0), .int .i64 0, .int .i64 0, .int .i64 0, .int .i64 0, .string (⟨#[]⟩ : ByteArray)]) ?_ 1 _ rfl; (with_reducible repeat (first | refine blk_drewN ?_ _ | refine blk_drew ?_ | refine blk_alloc ?_ _)); refine blk_put (cs := #[.int .i64 0, .int .i64 0, .int .i64 0, .int .i64 0, .int .i64 0, .string (⟨#[]⟩ : ByteArray)]) ?_ 0 _ rfl; (with_reducible repeat (first | refine blk_drewN ?_ _ | refine blk_drew ?_ | refine blk_alloc ?_ _)); exact BK118.out⟩, ⟨by repeat (first | (with_reducible first | exact HB.out | apply below_alloc | apply pw_below_drewN | apply below_drew1 | refine below_set ?_ GE118.out) | exact HB.out)⟩⟩
              case rest =>
                clear HC7
                try clear c1
                try clear p1
                try clear q1
                try clear hx1
                try clear p2
                try clear c3
                try clear c4
                try clear c4b0
                try clear c5
                try clear c5b0
                try clear c6
                try clear c6b0
                try clear c11
                try clear p11
                try clear q11
                try clear hx11
                try clear c13
                try clear c15
                try clear c17
                try clear hcz19_0
                try clear hcz19_1
                try clear hcz19_2
                try clear hcz19_3
                try clear hcz19_4
                try clear hcz19_5
                try clear hcz20_0
                try clear hcz20_1
                try clear hcz20_2
                try clear hcz20_3
                try clear hcz20_4
                try clear hcz20_5
                try clear hcz21_0
                try clear hcz21_1
                try clear hcz21_2
                try clear hcz21_3
                try clear hcz21_4
                try clear hcz21_5
                try clear hcz22_0
                try clear hcz22_1
                try clear hcz22_2
                try clear hcz22_3
                try clear hcz22_4
                try clear hcz22_5
                try clear hcz23_0
                try clear hcz23_1
                try clear hcz23_2
                try clear hcz23_3
                try clear hcz23_4
                try clear hcz23_5
                try clear hcz9_0
                try clear hcz9_1
                try clear hcz9_2
                try clear hcz9_3
                try clear hcz9_4
                try clear hcz9_5
                try clear hfz19_0
                try clear hfz19_1
                try clear hfz19_2
                try clear hfz19_3
                try clear hfz19_4
                try clear hfz19_5
                try clear hfz20_0
                try clear hfz20_1
                try clear hfz20_2
                try clear hfz20_3
                try clear hfz20_4
                try clear hfz20_5
                try clear hfz21_0
                try clear hfz21_1
                try clear hfz21_2
                try clear hfz21_3
                try clear hfz21_4
                try clear hfz21_5
                try clear hfz22_0
                try clear hfz22_1
                try clear hfz22_2
                try clear hfz22_3
                try clear hfz22_4
                try clear hfz22_5
                try clear hfz23_0
                try clear hfz23_1
                try clear hfz23_2
                try clear hfz23_3
                try clear hfz23_4
                try clear hfz23_5
                try clear hfz9_0
                try clear hfz9_1
                try clear hfz9_2
                try clear hfz9_3
                try clear hfz9_4
                try clear hfz9_5
                try clear hx117_0
                try clear hx117_1
                try clear hx117_2
                try clear hx117_3
                try clear hx117_4
                try clear hx117_5
                try clear p117
                try clear p2
                try clear q117
                obtain ⟨kq, x43_6, rfl, HA, HJ6, BK118, HB⟩ := hcut
                cases kq with
                | zero => exact absurd HA.out (by simp [ephemerisref1_ZoneRulesError.j1])
                | succ kj6 =>
                  have H := HA.out
                  clear HA
                  simp only [ephemerisref1_ZoneRulesError.j1] at H
                  by_cases c24 : x43_6 = true
                  · subst c24
                    have H1 : (some 3) = some r := by rw [if_pos rfl] at H; exact H
                    clear H
                    have H := H1
                    clear H1
                    obtain rfl := Option.some.inj H
                    go_wp2
                    repeat (go_quiet (fail); try go_wp2)
                    go_ret
                    exact ⟨by first | rfl | (simp [errW_none, errW_some] <;> rfl) | (simp [*, errW_none, errW_some] <;> rfl), by repeat (first | (with_reducible first | exact HB.out | apply below_alloc | apply pw_below_drewN | apply below_drew1 | refine below_set ?_ GE118.out) | exact HB.out)⟩
                  · replace c24 := Bool.eq_false_iff.mpr c24
                    subst c24
                    have H1 : ((ephemerisref1_Label.f ((rd_T25 l0 x11_1).f5)).bind fun t124 => (if t124 = true then (if x11_1 > 0 then (if 0 ≤ (wrap64 (x11_1 - 1)) then (if (wrap64 (x11_1 - 1)) < (l0.length : Int) then (if ((rd_T25 l0 (wrap64 (x11_1 - 1))).f0) ≥ ((rd_T25 l0 x11_1).f0) then (some 9) else (ephemerisref1_ZoneRulesError.l0 kj6 l0 l0 (l0.length : Int) (wrap64 (x11_1 + 1)))) else (none)) else (none)) else (ephemerisref1_ZoneRulesError.l0 kj6 l0 l0 (l0.length : Int) (wrap64 (x11_1 + 1)))) else (some 8))) = some r := by rw [if_neg (show ¬ (false = true) by decide)] at H; exact H
                    clear H
                    have H := H1
                    clear H1
                    replace H := Option.bind_eq_some_iff.mp H
                    obtain ⟨t124, A250, H⟩ := H
                    replace H : (if t124 = true then (if x11_1 > 0 then (if 0 ≤ (wrap64 (x11_1 - 1)) then (if (wrap64 (x11_1 - 1)) < (l0.length : Int) then (if ((rd_T25 l0 (wrap64 (x11_1 - 1))).f0) ≥ ((rd_T25 l0 x11_1).f0) then (some 9) else (ephemerisref1_ZoneRulesError.l0 kj6 l0 l0 (l0.length : Int) (wrap64 (x11_1 + 1)))) else (none)) else (none)) else (ephemerisref1_ZoneRulesError.l0 kj6 l0 l0 (l0.length : Int) (wrap64 (x11_1 + 1)))) else (some 8)) = some r := H
                    have A25 := Aside0.mk A250
                    clear A250
                    by_cases c26 : t124 = true
                    · subst c26
                      have H1 : (if x11_1 > 0 then (if 0 ≤ (wrap64 (x11_1 - 1)) then (if (wrap64 (x11_1 - 1)) < (l0.length : Int) then (if ((rd_T25 l0 (wrap64 (x11_1 - 1))).f0) ≥ ((rd_T25 l0 x11_1).f0) then (some 9) else (ephemerisref1_ZoneRulesError.l0 kj6 l0 l0 (l0.length : Int) (wrap64 (x11_1 + 1)))) else (none)) else (none)) else (ephemerisref1_ZoneRulesError.l0 kj6 l0 l0 (l0.length : Int) (wrap64 (x11_1 + 1)))) = some r := by rw [if_pos rfl] at H; exact H
                      clear H
                      have H := H1
                      clear H1
                      by_cases c27 : x11_1 > 0
                      · rw [if_pos c27] at H
                        have c27b0 : decide (0 < x11_1) = true := decide_eq_true c27
                        clear c27
                        obtain ⟨ji28, hji28⟩ : ∃ j_ : Int, (wrap64 (x11_1 - 1)) = j_ := ⟨_, rfl⟩
                        replace H : (if 0 ≤ (ji28) then (if (ji28) < (l0.length : Int) then (if ((rd_T25 l0 (ji28)).f0) ≥ ((rd_T25 l0 x11_1).f0) then (some 9) else (ephemerisref1_ZoneRulesError.l0 kj6 l0 l0 (l0.length : Int) (wrap64 (x11_1 + 1)))) else (none)) else (none)) = some r := by first | (rw [hji28] at H; exact H) | (simp only [hji28] at H ⊢; exact H)
                        (try rw [hji28] at A25)
                        have hji28w : (IntKind.i64.wrap (x11_1 - 1)) = ji28 := (i64_w _).trans hji28
                        by_cases c29 : 0 ≤ (ji28)
                        · rw [if_pos c29] at H
                          have c29b0 : decide (0 ≤ (ji28)) = true := decide_eq_true c29
                          clear c29
                          by_cases c30 : (ji28) < (l0.length : Int)
                          · rw [if_pos c30] at H
                            have c30b0 : decide ((ji28) < (l0.length : Int)) = true := decide_eq_true c30
                            clear c30
                            by_cases c31 : ((rd_T25 l0 (ji28)).f0) ≥ ((rd_T25 l0 x11_1).f0)
                            · rw [if_pos c31] at H
                              have c31b0 : decide (((rd_T25 l0 x11_1).f0) ≤ ((rd_T25 l0 (ji28)).f0)) = true := decide_eq_true c31
                              clear c31
                              obtain rfl := Option.some.inj H
                              have hcz32_0 : wc.cell? ⟨gb118, 0, none⟩ = some (.int .i64 ((rd_T25 l0 x11_1).f0)) := (blk_cell BK118.out 0).trans rfl
                              have hcz32_1 : wc.cell? ⟨gb118, 1, none⟩ = some (.int .i64 ((rd_T25 l0 x11_1).f1)) := (blk_cell BK118.out 1).trans rfl
                              have hcz32_2 : wc.cell? ⟨gb118, 2, none⟩ = some (.int .i64 ((rd_T25 l0 x11_1).f2)) := (blk_cell BK118.out 2).trans rfl
                              have hcz32_3 : wc.cell? ⟨gb118, 3, none⟩ = some (.int .i64 ((rd_T25 l0 x11_1).f3)) := (blk_cell BK118.out 3).trans rfl
                              have hcz32_4 : wc.cell? ⟨gb118, 4, none⟩ = some (.int .i64 ((rd_T25 l0 x11_1).f4)) := (blk_cell BK118.out 4).trans rfl
                              have hcz32_5 : wc.cell? ⟨gb118, 5, none⟩ = some (.string ((rd_T25 l0 x11_1).f5)) := (blk_cell BK118.out 5).trans rfl
                              have hfz32_0 := blk_frozen BK118.out 0
                              have hfz32_1 := blk_frozen BK118.out 1
                              have hfz32_2 := blk_frozen BK118.out 2
                              have hfz32_3 := blk_frozen BK118.out 3
                              have hfz32_4 := blk_frozen BK118.out 4
                              have hfz32_5 := blk_frozen BK118.out 5
                              go_wp2_with (first | (go_at_call 52; (with_reducible refine (ephemerisref1_Label.calls ((rd_T25 l0 x11_1).f5) true _ A25.out).mono ?_); rintro e w33 ⟨rfl, hb⟩; have n0_ := Aside0.mk (blk_below (g := gb118) (o := .cells #[.int .i64 ((rd_T25 l0 x11_1).f0), .int .i64 ((rd_T25 l0 x11_1).f1), .int .i64 ((rd_T25 l0 x11_1).f2), .int .i64 ((rd_T25 l0 x11_1).f3), .int .i64 ((rd_T25 l0 x11_1).f4), .string ((rd_T25 l0 x11_1).f5)] 25 (0, 0)) (by (with_reducible repeat (first | refine blk_drewN ?_ _ | refine blk_drew ?_ | refine blk_alloc ?_ _)); exact BK118.out) hb); have n1_ := Aside0.mk (below_step (by repeat (first | (with_reducible first | exact HB.out | apply below_alloc | apply pw_below_drewN | apply below_drew1 | refine below_set ?_ GE118.out) | exact HB.out)) hb); clear BK118; clear HB; have BK118 := n0_; have HB := n1_; clear n0_ n1_; (try clear hb); (try clear hb2); (try clear hk); (try clear hi); have p125 : 0 ≤ ((ji28) : Int) := of_decide_eq_true (by first | (with_reducible assumption) | assumption); have q125 : (ji28) < (l0.length : Int) := of_decide_eq_true (by first | (with_reducible assumption) | assumption); obtain ⟨ad125, e125, hx125_0, hx125_1, hx125_2, hx125_3, hx125_4, hx125_5⟩ := at_T25 HR0.out (ji28) p125 q125; obtain rfl : ad117 = ad125 := (by injection e125); replace hx125_0 := (HB.out.cell (World.block_lt_of_cell? w _ hx125_0)).trans hx125_0; replace hx125_1 := (HB.out.cell (World.block_lt_of_cell? w _ hx125_1)).trans hx125_1; replace hx125_2 := (HB.out.cell (World.block_lt_of_cell? w _ hx125_2)).trans hx125_2; replace hx125_3 := (HB.out.cell (World.block_lt_of_cell? w _ hx125_3)).trans hx125_3; replace hx125_4 := (HB.out.cell (World.block_lt_of_cell? w _ hx125_4)).trans hx125_4; replace hx125_5 := (HB.out.cell (World.block_lt_of_cell? w _ hx125_5)).trans hx125_5; replace p125 := eq_true p125; replace q125 := eq_true q125; have hcz34_0 : w33.cell? ⟨gb118, 0, none⟩ = some (.int .i64 ((rd_T25 l0 x11_1).f0)) := (blk_cell BK118.out 0).trans rfl; have hcz34_1 : w33.cell? ⟨gb118, 1, none⟩ = some (.int .i64 ((rd_T25 l0 x11_1).f1)) := (blk_cell BK118.out 1).trans rfl; have hcz34_2 : w33.cell? ⟨gb118, 2, none⟩ = some (.int .i64 ((rd_T25 l0 x11_1).f2)) := (blk_cell BK118.out 2).trans rfl; have hcz34_3 : w33.cell? ⟨gb118, 3, none⟩ = some (.int .i64 ((rd_T25 l0 x11_1).f3)) := (blk_cell BK118.out 3).trans rfl; have hcz34_4 : w33.cell? ⟨gb118, 4, none⟩ = some (.int .i64 ((rd_T25 l0 x11_1).f4)) := (blk_cell BK118.out 4).trans rfl; have hcz34_5 : w33.cell? ⟨gb118, 5, none⟩ = some (.string ((rd_T25 l0 x11_1).f5)) := (blk_cell BK118.out 5).trans rfl; have hfz34_0 := blk_frozen BK118.out 0; have hfz34_1 := blk_frozen BK118.out 1; have hfz34_2 := blk_frozen BK118.out 2; have hfz34_3 := blk_frozen BK118.out 3; have hfz34_4 := blk_frozen BK118.out 4; have hfz34_5 := blk_frozen BK118.out 5))
                              repeat (go_quiet (first | (go_at_call 52; (with_reducible refine (ephemerisref1_Label.calls ((rd_T25 l0 x11_1).f5) true _ A25.out).mono ?_); rintro e w33 ⟨rfl, hb⟩; have n0_ := Aside0.mk (blk_below (g := gb118) (o := .cells #[.int .i64 ((rd_T25 l0 x11_1).f0), .int .i64 ((rd_T25 l0 x11_1).f1), .int .i64 ((rd_T25 l0 x11_1).f2), .int .i64 ((rd_T25 l0 x11_1).f3), .int .i64 ((rd_T25 l0 x11_1).f4), .string ((rd_T25 l0 x11_1).f5)] 25 (0, 0)) (by (with_reducible repeat (first | refine blk_drewN ?_ _ | refine blk_drew ?_ | refine blk_alloc ?_ _)); exact BK118.out) hb); have n1_ := Aside0.mk (below_step (by repeat (first | (with_reducible first | exact HB.out | apply below_alloc | apply pw_below_drewN | apply below_drew1 | refine below_set ?_ GE118.out) | exact HB.out)) hb); clear BK118; clear HB; have BK118 := n0_; have HB := n1_; clear n0_ n1_; (try clear hb); (try clear hb2); (try clear hk); (try clear hi); have p125 : 0 ≤ ((ji28) : Int) := of_decide_eq_true (by first | (with_reducible assumption) | assumption); have q125 : (ji28) < (l0.length : Int) := of_decide_eq_true (by first | (with_reducible assumption) | assumption); obtain ⟨ad125, e125, hx125_0, hx125_1, hx125_2, hx125_3, hx125_4, hx125_5⟩ := at_T25 HR0.out (ji28) p125 q125; obtain rfl : ad117 = ad125 := (by injection e125); replace hx125_0 := (HB.out.cell (World.block_lt_of_cell? w _ hx125_0)).trans hx125_0; replace hx125_1 := (HB.out.cell (World.block_lt_of_cell? w _ hx125_1)).trans hx125_1; replace hx125_2 := (HB.out.cell (World.block_lt_of_cell? w _ hx125_2)).trans hx125_2; replace hx125_3 := (HB.out.cell (World.block_lt_of_cell? w _ hx125_3)).trans hx125_3; replace hx125_4 := (HB.out.cell (World.block_lt_of_cell? w _ hx125_4)).trans hx125_4; replace hx125_5 := (HB.out.cell (World.block_lt_of_cell? w _ hx125_5)).trans hx125_5; replace p125 := eq_true p125; replace q125 := eq_true q125; have hcz34_0 : w33.cell? ⟨gb118, 0, none⟩ = some (.int .i64 ((rd_T25 l0 x11_1).f0)) := (blk_cell BK118.out 0).trans rfl; have hcz34_1 : w33.cell? ⟨gb118, 1, none⟩ = some (.int .i64 ((rd_T25 l0 x11_1).f1)) := (blk_cell BK118.out 1).trans rfl; have hcz34_2 : w33.cell? ⟨gb118, 2, none⟩ = some (.int .i64 ((rd_T25 l0 x11_1).f2)) := (blk_cell BK118.out 2).trans rfl; have hcz34_3 : w33.cell? ⟨gb118, 3, none⟩ = some (.int .i64 ((rd_T25 l0 x11_1).f3)) := (blk_cell BK118.out 3).trans rfl; have hcz34_4 : w33.cell? ⟨gb118, 4, none⟩ = some (.int .i64 ((rd_T25 l0 x11_1).f4)) := (blk_cell BK118.out 4).trans rfl; have hcz34_5 : w33.cell? ⟨gb118, 5, none⟩ = some (.string ((rd_T25 l0 x11_1).f5)) := (blk_cell BK118.out 5).trans rfl; have hfz34_0 := blk_frozen BK118.out 0; have hfz34_1 := blk_frozen BK118.out 1; have hfz34_2 := blk_frozen BK118.out 2; have hfz34_3 := blk_frozen BK118.out 3; have hfz34_4 := blk_frozen BK118.out 4; have hfz34_5 := blk_frozen BK118.out 5)); try go_wp2_with (first | (go_at_call 52; (with_reducible refine (ephemerisref1_Label.calls ((rd_T25 l0 x11_1).f5) true _ A25.out).mono ?_); rintro e w33 ⟨rfl, hb⟩; have n0_ := Aside0.mk (blk_below (g := gb118) (o := .cells #[.int .i64 ((rd_T25 l0 x11_1).f0), .int .i64 ((rd_T25 l0 x11_1).f1), .int .i64 ((rd_T25 l0 x11_1).f2), .int .i64 ((rd_T25 l0 x11_1).f3), .int .i64 ((rd_T25 l0 x11_1).f4), .string ((rd_T25 l0 x11_1).f5)] 25 (0, 0)) (by (with_reducible repeat (first | refine blk_drewN ?_ _ | refine blk_drew ?_ | refine blk_alloc ?_ _)); exact BK118.out) hb); have n1_ := Aside0.mk (below_step (by repeat (first | (with_reducible first | exact HB.out | apply below_alloc | apply pw_below_drewN | apply below_drew1 | refine below_set ?_ GE118.out) | exact HB.out)) hb); clear BK118; clear HB; have BK118 := n0_; have HB := n1_; clear n0_ n1_; (try clear hb); (try clear hb2); (try clear hk); (try clear hi); have p125 : 0 ≤ ((ji28) : Int) := of_decide_eq_true (by first | (with_reducible assumption) | assumption); have q125 : (ji28) < (l0.length : Int) := of_decide_eq_true (by first | (with_reducible assumption) | assumption); obtain ⟨ad125, e125, hx125_0, hx125_1, hx125_2, hx125_3, hx125_4, hx125_5⟩ := at_T25 HR0.out (ji28) p125 q125; obtain rfl : ad117 = ad125 := (by injection e125); replace hx125_0 := (HB.out.cell (World.block_lt_of_cell? w _ hx125_0)).trans hx125_0; replace hx125_1 := (HB.out.cell (World.block_lt_of_cell? w _ hx125_1)).trans hx125_1; replace hx125_2 := (HB.out.cell (World.block_lt_of_cell? w _ hx125_2)).trans hx125_2; replace hx125_3 := (HB.out.cell (World.block_lt_of_cell? w _ hx125_3)).trans hx125_3; replace hx125_4 := (HB.out.cell (World.block_lt_of_cell? w _ hx125_4)).trans hx125_4; replace hx125_5 := (HB.out.cell (World.block_lt_of_cell? w _ hx125_5)).trans hx125_5; replace p125 := eq_true p125; replace q125 := eq_true q125; have hcz34_0 : w33.cell? ⟨gb118, 0, none⟩ = some (.int .i64 ((rd_T25 l0 x11_1).f0)) := (blk_cell BK118.out 0).trans rfl; have hcz34_1 : w33.cell? ⟨gb118, 1, none⟩ = some (.int .i64 ((rd_T25 l0 x11_1).f1)) := (blk_cell BK118.out 1).trans rfl; have hcz34_2 : w33.cell? ⟨gb118, 2, none⟩ = some (.int .i64 ((rd_T25 l0 x11_1).f2)) := (blk_cell BK118.out 2).trans rfl; have hcz34_3 : w33.cell? ⟨gb118, 3, none⟩ = some (.int .i64 ((rd_T25 l0 x11_1).f3)) := (blk_cell BK118.out 3).trans rfl; have hcz34_4 : w33.cell? ⟨gb118, 4, none⟩ = some (.int .i64 ((rd_T25 l0 x11_1).f4)) := (blk_cell BK118.out 4).trans rfl; have hcz34_5 : w33.cell? ⟨gb118, 5, none⟩ = some (.string ((rd_T25 l0 x11_1).f5)) := (blk_cell BK118.out 5).trans rfl; have hfz34_0 := blk_frozen BK118.out 0; have hfz34_1 := blk_frozen BK118.out 1; have hfz34_2 := blk_frozen BK118.out 2; have hfz34_3 := blk_frozen BK118.out 3; have hfz34_4 := blk_frozen BK118.out 4; have hfz34_5 := blk_frozen BK118.out 5)))
                              go_ret
                              exact ⟨by first | rfl | (simp [errW_none, errW_some] <;> rfl) | (simp only [← hji28]; first | rfl | (simp [errW_none, errW_some] <;> rfl)) | (simp [*, errW_none, errW_some] <;> rfl), by repeat (first | (with_reducible first | exact HB.out | apply below_alloc | apply pw_below_drewN | apply below_drew1 | refine below_set ?_ GE118.out) | exact HB.out)⟩
                            · rw [if_neg c31] at H
                              have c31b0 : decide (((rd_T25 l0 x11_1).f0) ≤ ((rd_T25 l0 (ji28)).f0)) = false := decide_eq_false c31
                              clear c31
                              have H' := Aside0.mk H
                              clear H
                              have hcz35_0 : wc.cell? ⟨gb118, 0, none⟩ = some (.int .i64 ((rd_T25 l0 x11_1).f0)) := (blk_cell BK118.out 0).trans rfl
                              have hcz35_1 : wc.cell? ⟨gb118, 1, none⟩ = some (.int .i64 ((rd_T25 l0 x11_1).f1)) := (blk_cell BK118.out 1).trans rfl
                              have hcz35_2 : wc.cell? ⟨gb118, 2, none⟩ = some (.int .i64 ((rd_T25 l0 x11_1).f2)) := (blk_cell BK118.out 2).trans rfl
                              have hcz35_3 : wc.cell? ⟨gb118, 3, none⟩ = some (.int .i64 ((rd_T25 l0 x11_1).f3)) := (blk_cell BK118.out 3).trans rfl
                              have hcz35_4 : wc.cell? ⟨gb118, 4, none⟩ = some (.int .i64 ((rd_T25 l0 x11_1).f4)) := (blk_cell BK118.out 4).trans rfl
                              have hcz35_5 : wc.cell? ⟨gb118, 5, none⟩ = some (.string ((rd_T25 l0 x11_1).f5)) := (blk_cell BK118.out 5).trans rfl
                              have hfz35_0 := blk_frozen BK118.out 0
                              have hfz35_1 := blk_frozen BK118.out 1
                              have hfz35_2 := blk_frozen BK118.out 2
                              have hfz35_3 := blk_frozen BK118.out 3
                              have hfz35_4 := blk_frozen BK118.out 4
                              have hfz35_5 := blk_frozen BK118.out 5
                              go_wp2_with (first | (go_at_call 52; (with_reducible refine (ephemerisref1_Label.calls ((rd_T25 l0 x11_1).f5) true _ A25.out).mono ?_); rintro e w36 ⟨rfl, hb⟩; have n0_ := Aside0.mk (blk_below (g := gb118) (o := .cells #[.int .i64 ((rd_T25 l0 x11_1).f0), .int .i64 ((rd_T25 l0 x11_1).f1), .int .i64 ((rd_T25 l0 x11_1).f2), .int .i64 ((rd_T25 l0 x11_1).f3), .int .i64 ((rd_T25 l0 x11_1).f4), .string ((rd_T25 l0 x11_1).f5)] 25 (0, 0)) (by (with_reducible repeat (first | refine blk_drewN ?_ _ | refine blk_drew ?_ | refine blk_alloc ?_ _)); exact BK118.out) hb); have n1_ := Aside0.mk (below_step (by repeat (first | (with_reducible first | exact HB.out | apply below_alloc | apply pw_below_drewN | apply below_drew1 | refine below_set ?_ GE118.out) | exact HB.out)) hb); clear BK118; clear HB; have BK118 := n0_; have HB := n1_; clear n0_ n1_; (try clear hb); (try clear hb2); (try clear hk); (try clear hi); have p125 : 0 ≤ ((ji28) : Int) := of_decide_eq_true (by first | (with_reducible assumption) | assumption); have q125 : (ji28) < (l0.length : Int) := of_decide_eq_true (by first | (with_reducible assumption) | assumption); obtain ⟨ad125, e125, hx125_0, hx125_1, hx125_2, hx125_3, hx125_4, hx125_5⟩ := at_T25 HR0.out (ji28) p125 q125; obtain rfl : ad117 = ad125 := (by injection e125); replace hx125_0 := (HB.out.cell (World.block_lt_of_cell? w _ hx125_0)).trans hx125_0; replace hx125_1 := (HB.out.cell (World.block_lt_of_cell? w _ hx125_1)).trans hx125_1; replace hx125_2 := (HB.out.cell (World.block_lt_of_cell? w _ hx125_2)).trans hx125_2; replace hx125_3 := (HB.out.cell (World.block_lt_of_cell? w _ hx125_3)).trans hx125_3; replace hx125_4 := (HB.out.cell (World.block_lt_of_cell? w _ hx125_4)).trans hx125_4; replace hx125_5 := (HB.out.cell (World.block_lt_of_cell? w _ hx125_5)).trans hx125_5; replace p125 := eq_true p125; replace q125 := eq_true q125; have hcz37_0 : w36.cell? ⟨gb118, 0, none⟩ = some (.int .i64 ((rd_T25 l0 x11_1).f0)) := (blk_cell BK118.out 0).trans rfl; have hcz37_1 : w36.cell? ⟨gb118, 1, none⟩ = some (.int .i64 ((rd_T25 l0 x11_1).f1)) := (blk_cell BK118.out 1).trans rfl; have hcz37_2 : w36.cell? ⟨gb118, 2, none⟩ = some (.int .i64 ((rd_T25 l0 x11_1).f2)) := (blk_cell BK118.out 2).trans rfl; have hcz37_3 : w36.cell? ⟨gb118, 3, none⟩ = some (.int .i64 ((rd_T25 l0 x11_1).f3)) := (blk_cell BK118.out 3).trans rfl; have hcz37_4 : w36.cell? ⟨gb118, 4, none⟩ = some (.int .i64 ((rd_T25 l0 x11_1).f4)) := (blk_cell BK118.out 4).trans rfl; have hcz37_5 : w36.cell? ⟨gb118, 5, none⟩ = some (.string ((rd_T25 l0 x11_1).f5)) := (blk_cell BK118.out 5).trans rfl; have hfz37_0 := blk_frozen BK118.out 0; have hfz37_1 := blk_frozen BK118.out 1; have hfz37_2 := blk_frozen BK118.out 2; have hfz37_3 := blk_frozen BK118.out 3; have hfz37_4 := blk_frozen BK118.out 4; have hfz37_5 := blk_frozen BK118.out 5))
                              repeat (go_quiet (first | (go_at_call 52; (with_reducible refine (ephemerisref1_Label.calls ((rd_T25 l0 x11_1).f5) true _ A25.out).mono ?_); rintro e w36 ⟨rfl, hb⟩; have n0_ := Aside0.mk (blk_below (g := gb118) (o := .cells #[.int .i64 ((rd_T25 l0 x11_1).f0), .int .i64 ((rd_T25 l0 x11_1).f1), .int .i64 ((rd_T25 l0 x11_1).f2), .int .i64 ((rd_T25 l0 x11_1).f3), .int .i64 ((rd_T25 l0 x11_1).f4), .string ((rd_T25 l0 x11_1).f5)] 25 (0, 0)) (by (with_reducible repeat (first | refine blk_drewN ?_ _ | refine blk_drew ?_ | refine blk_alloc ?_ _)); exact BK118.out) hb); have n1_ := Aside0.mk (below_step (by repeat (first | (with_reducible first | exact HB.out | apply below_alloc | apply pw_below_drewN | apply below_drew1 | refine below_set ?_ GE118.out) | exact HB.out)) hb); clear BK118; clear HB; have BK118 := n0_; have HB := n1_; clear n0_ n1_; (try clear hb); (try clear hb2); (try clear hk); (try clear hi); have p125 : 0 ≤ ((ji28) : Int) := of_decide_eq_true (by first | (with_reducible assumption) | assumption); have q125 : (ji28) < (l0.length : Int) := of_decide_eq_true (by first | (with_reducible assumption) | assumption); obtain ⟨ad125, e125, hx125_0, hx125_1, hx125_2, hx125_3, hx125_4, hx125_5⟩ := at_T25 HR0.out (ji28) p125 q125; obtain rfl : ad117 = ad125 := (by injection e125); replace hx125_0 := (HB.out.cell (World.block_lt_of_cell? w _ hx125_0)).trans hx125_0; replace hx125_1 := (HB.out.cell (World.block_lt_of_cell? w _ hx125_1)).trans hx125_1; replace hx125_2 := (HB.out.cell (World.block_lt_of_cell? w _ hx125_2)).trans hx125_2; replace hx125_3 := (HB.out.cell (World.block_lt_of_cell? w _ hx125_3)).trans hx125_3; replace hx125_4 := (HB.out.cell (World.block_lt_of_cell? w _ hx125_4)).trans hx125_4; replace hx125_5 := (HB.out.cell (World.block_lt_of_cell? w _ hx125_5)).trans hx125_5; replace p125 := eq_true p125; replace q125 := eq_true q125; have hcz37_0 : w36.cell? ⟨gb118, 0, none⟩ = some (.int .i64 ((rd_T25 l0 x11_1).f0)) := (blk_cell BK118.out 0).trans rfl; have hcz37_1 : w36.cell? ⟨gb118, 1, none⟩ = some (.int .i64 ((rd_T25 l0 x11_1).f1)) := (blk_cell BK118.out 1).trans rfl; have hcz37_2 : w36.cell? ⟨gb118, 2, none⟩ = some (.int .i64 ((rd_T25 l0 x11_1).f2)) := (blk_cell BK118.out 2).trans rfl; have hcz37_3 : w36.cell? ⟨gb118, 3, none⟩ = some (.int .i64 ((rd_T25 l0 x11_1).f3)) := (blk_cell BK118.out 3).trans rfl; have hcz37_4 : w36.cell? ⟨gb118, 4, none⟩ = some (.int .i64 ((rd_T25 l0 x11_1).f4)) := (blk_cell BK118.out 4).trans rfl; have hcz37_5 : w36.cell? ⟨gb118, 5, none⟩ = some (.string ((rd_T25 l0 x11_1).f5)) := (blk_cell BK118.out 5).trans rfl; have hfz37_0 := blk_frozen BK118.out 0; have hfz37_1 := blk_frozen BK118.out 1; have hfz37_2 := blk_frozen BK118.out 2; have hfz37_3 := blk_frozen BK118.out 3; have hfz37_4 := blk_frozen BK118.out 4; have hfz37_5 := blk_frozen BK118.out 5)); try go_wp2_with (first | (go_at_call 52; (with_reducible refine (ephemerisref1_Label.calls ((rd_T25 l0 x11_1).f5) true _ A25.out).mono ?_); rintro e w36 ⟨rfl, hb⟩; have n0_ := Aside0.mk (blk_below (g := gb118) (o := .cells #[.int .i64 ((rd_T25 l0 x11_1).f0), .int .i64 ((rd_T25 l0 x11_1).f1), .int .i64 ((rd_T25 l0 x11_1).f2), .int .i64 ((rd_T25 l0 x11_1).f3), .int .i64 ((rd_T25 l0 x11_1).f4), .string ((rd_T25 l0 x11_1).f5)] 25 (0, 0)) (by (with_reducible repeat (first | refine blk_drewN ?_ _ | refine blk_drew ?_ | refine blk_alloc ?_ _)); exact BK118.out) hb); have n1_ := Aside0.mk (below_step (by repeat (first | (with_reducible first | exact HB.out | apply below_alloc | apply pw_below_drewN | apply below_drew1 | refine below_set ?_ GE118.out) | exact HB.out)) hb); clear BK118; clear HB; have BK118 := n0_; have HB := n1_; clear n0_ n1_; (try clear hb); (try clear hb2); (try clear hk); (try clear hi); have p125 : 0 ≤ ((ji28) : Int) := of_decide_eq_true (by first | (with_reducible assumption) | assumption); have q125 : (ji28) < (l0.length : Int) := of_decide_eq_true (by first | (with_reducible assumption) | assumption); obtain ⟨ad125, e125, hx125_0, hx125_1, hx125_2, hx125_3, hx125_4, hx125_5⟩ := at_T25 HR0.out (ji28) p125 q125; obtain rfl : ad117 = ad125 := (by injection e125); replace hx125_0 := (HB.out.cell (World.block_lt_of_cell? w _ hx125_0)).trans hx125_0; replace hx125_1 := (HB.out.cell (World.block_lt_of_cell? w _ hx125_1)).trans hx125_1; replace hx125_2 := (HB.out.cell (World.block_lt_of_cell? w _ hx125_2)).trans hx125_2; replace hx125_3 := (HB.out.cell (World.block_lt_of_cell? w _ hx125_3)).trans hx125_3; replace hx125_4 := (HB.out.cell (World.block_lt_of_cell? w _ hx125_4)).trans hx125_4; replace hx125_5 := (HB.out.cell (World.block_lt_of_cell? w _ hx125_5)).trans hx125_5; replace p125 := eq_true p125; replace q125 := eq_true q125; have hcz37_0 : w36.cell? ⟨gb118, 0, none⟩ = some (.int .i64 ((rd_T25 l0 x11_1).f0)) := (blk_cell BK118.out 0).trans rfl; have hcz37_1 : w36.cell? ⟨gb118, 1, none⟩ = some (.int .i64 ((rd_T25 l0 x11_1).f1)) := (blk_cell BK118.out 1).trans rfl; have hcz37_2 : w36.cell? ⟨gb118, 2, none⟩ = some (.int .i64 ((rd_T25 l0 x11_1).f2)) := (blk_cell BK118.out 2).trans rfl; have hcz37_3 : w36.cell? ⟨gb118, 3, none⟩ = some (.int .i64 ((rd_T25 l0 x11_1).f3)) := (blk_cell BK118.out 3).trans rfl; have hcz37_4 : w36.cell? ⟨gb118, 4, none⟩ = some (.int .i64 ((rd_T25 l0 x11_1).f4)) := (blk_cell BK118.out 4).trans rfl; have hcz37_5 : w36.cell? ⟨gb118, 5, none⟩ = some (.string ((rd_T25 l0 x11_1).f5)) := (blk_cell BK118.out 5).trans rfl; have hfz37_0 := blk_frozen BK118.out 0; have hfz37_1 := blk_frozen BK118.out 1; have hfz37_2 := blk_frozen BK118.out 2; have hfz37_3 := blk_frozen BK118.out 3; have hfz37_4 := blk_frozen BK118.out 4; have hfz37_5 := blk_frozen BK118.out 5)))
                              go_roundg kj6
                              case measure => have := HK1.out; have := HJ6.out; omega
                              case rel => exact ⟨(wrap64 (x11_1 + 1)), (by first | rfl | (simp; done) | (simp [*]; done)), H', ⟨by have := HK1.out; have := HJ6.out; omega⟩, ⟨by repeat (first | (with_reducible first | exact HB.out | apply below_alloc | apply pw_below_drewN | apply below_drew1 | refine below_set ?_ GE118.out) | exact HB.out)⟩⟩
                          · rw [if_neg c30] at H
                            exact absurd H (by simp)
                        · rw [if_neg c29] at H
                          exact absurd H (by simp)
                      · rw [if_neg c27] at H
                        have c27b0 : decide (0 < x11_1) = false := decide_eq_false c27
                        clear c27
                        have H' := Aside0.mk H
                        clear H
                        have hcz38_0 : wc.cell? ⟨gb118, 0, none⟩ = some (.int .i64 ((rd_T25 l0 x11_1).f0)) := (blk_cell BK118.out 0).trans rfl
                        have hcz38_1 : wc.cell? ⟨gb118, 1, none⟩ = some (.int .i64 ((rd_T25 l0 x11_1).f1)) := (blk_cell BK118.out 1).trans rfl
                        have hcz38_2 : wc.cell? ⟨gb118, 2, none⟩ = some (.int .i64 ((rd_T25 l0 x11_1).f2)) := (blk_cell BK118.out 2).trans rfl
                        have hcz38_3 : wc.cell? ⟨gb118, 3, none⟩ = some (.int .i64 ((rd_T25 l0 x11_1).f3)) := (blk_cell BK118.out 3).trans rfl
                        have hcz38_4 : wc.cell? ⟨gb118, 4, none⟩ = some (.int .i64 ((rd_T25 l0 x11_1).f4)) := (blk_cell BK118.out 4).trans rfl
                        have hcz38_5 : wc.cell? ⟨gb118, 5, none⟩ = some (.string ((rd_T25 l0 x11_1).f5)) := (blk_cell BK118.out 5).trans rfl
                        have hfz38_0 := blk_frozen BK118.out 0
                        have hfz38_1 := blk_frozen BK118.out 1
                        have hfz38_2 := blk_frozen BK118.out 2
                        have hfz38_3 := blk_frozen BK118.out 3
                        have hfz38_4 := blk_frozen BK118.out 4
                        have hfz38_5 := blk_frozen BK118.out 5
                        go_wp2_with (first | (go_at_call 52; (with_reducible refine (ephemerisref1_Label.calls ((rd_T25 l0 x11_1).f5) true _ A25.out).mono ?_); rintro e w39 ⟨rfl, hb⟩; have n0_ := Aside0.mk (blk_below (g := gb118) (o := .cells #[.int .i64 ((rd_T25 l0 x11_1).f0), .int .i64 ((rd_T25 l0 x11_1).f1), .int .i64 ((rd_T25 l0 x11_1).f2), .int .i64 ((rd_T25 l0 x11_1).f3), .int .i64 ((rd_T25 l0 x11_1).f4), .string ((rd_T25 l0 x11_1).f5)] 25 (0, 0)) (by (with_reducible repeat (first | refine blk_drewN ?_ _ | refine blk_drew ?_ | refine blk_alloc ?_ _)); exact BK118.out) hb); have n1_ := Aside0.mk (below_step (by repeat (first | (with_reducible first | exact HB.out | apply below_alloc | apply pw_below_drewN | apply below_drew1 | refine below_set ?_ GE118.out) | exact HB.out)) hb); clear BK118; clear HB; have BK118 := n0_; have HB := n1_; clear n0_ n1_; (try clear hb); (try clear hb2); (try clear hk); (try clear hi)))
                        repeat (go_quiet (first | (go_at_call 52; (with_reducible refine (ephemerisref1_Label.calls ((rd_T25 l0 x11_1).f5) true _ A25.out).mono ?_); rintro e w39 ⟨rfl, hb⟩; have n0_ := Aside0.mk (blk_below (g := gb118) (o := .cells #[.int .i64 ((rd_T25 l0 x11_1).f0), .int .i64 ((rd_T25 l0 x11_1).f1), .int .i64 ((rd_T25 l0 x11_1).f2), .int .i64 ((rd_T25 l0 x11_1).f3), .int .i64 ((rd_T25 l0 x11_1).f4), .string ((rd_T25 l0 x11_1).f5)] 25 (0, 0)) (by (with_reducible repeat (first | refine blk_drewN ?_ _ | refine blk_drew ?_ | refine blk_alloc ?_ _)); exact BK118.out) hb); have n1_ := Aside0.mk (below_step (by repeat (first | (with_reducible first | exact HB.out | apply below_alloc | apply pw_below_drewN | apply below_drew1 | refine below_set ?_ GE118.out) | exact HB.out)) hb); clear BK118; clear HB; have BK118 := n0_; have HB := n1_; clear n0_ n1_; (try clear hb); (try clear hb2); (try clear hk); (try clear hi))); try go_wp2_with (first | (go_at_call 52; (with_reducible refine (ephemerisref1_Label.calls ((rd_T25 l0 x11_1).f5) true _ A25.out).mono ?_); rintro e w39 ⟨rfl, hb⟩; have n0_ := Aside0.mk (blk_below (g := gb118) (o := .cells #[.int .i64 ((rd_T25 l0 x11_1).f0), .int .i64 ((rd_T25 l0 x11_1).f1), .int .i64 ((rd_T25 l0 x11_1).f2), .int .i64 ((rd_T25 l0 x11_1).f3), .int .i64 ((rd_T25 l0 x11_1).f4), .string ((rd_T25 l0 x11_1).f5)] 25 (0, 0)) (by (with_reducible repeat (first | refine blk_drewN ?_ _ | refine blk_drew ?_ | refine blk_alloc ?_ _)); exact BK118.out) hb); have n1_ := Aside0.mk (below_step (by repeat (first | (with_reducible first | exact HB.out | apply below_alloc | apply pw_below_drewN | apply below_drew1 | refine below_set ?_ GE118.out) | exact HB.out)) hb); clear BK118; clear HB; have BK118 := n0_; have HB := n1_; clear n0_ n1_; (try clear hb); (try clear hb2); (try clear hk); (try clear hi))))
                        go_roundg kj6
                        case measure => have := HK1.out; have := HJ6.out; omega
                        case rel => exact ⟨(wrap64 (x11_1 + 1)), (by first | rfl | (simp; done) | (simp [*]; done)), H', ⟨by have := HK1.out; have := HJ6.out; omega⟩, ⟨by repeat (first | (with_reducible first | exact HB.out | apply below_alloc | apply pw_below_drewN | apply below_drew1 | refine below_set ?_ GE118.out) | exact HB.out)⟩⟩
                    · replace c26 := Bool.eq_false_iff.mpr c26
                      subst c26
                      have H1 : (some 8) = some r := by rw [if_neg (show ¬ (false = true) by decide)] at H; exact H
                      clear H
                      have H := H1
                      clear H1
                      obtain rfl := Option.some.inj H
                      have hcz40_0 : wc.cell? ⟨gb118, 0, none⟩ = some (.int .i64 ((rd_T25 l0 x11_1).f0)) := (blk_cell BK118.out 0).trans rfl
                      have hcz40_1 : wc.cell? ⟨gb118, 1, none⟩ = some (.int .i64 ((rd_T25 l0 x11_1).f1)) := (blk_cell BK118.out 1).trans rfl
                      have hcz40_2 : wc.cell? ⟨gb118, 2, none⟩ = some (.int .i64 ((rd_T25 l0 x11_1).f2)) := (blk_cell BK118.out 2).trans rfl
                      have hcz40_3 : wc.cell? ⟨gb118, 3, none⟩ = some (.int .i64 ((rd_T25 l0 x11_1).f3)) := (blk_cell BK118.out 3).trans rfl
                      have hcz40_4 : wc.cell? ⟨gb118, 4, none⟩ = some (.int .i64 ((rd_T25 l0 x11_1).f4)) := (blk_cell BK118.out 4).trans rfl
                      have hcz40_5 : wc.cell? ⟨gb118, 5, none⟩ = some (.string ((rd_T25 l0 x11_1).f5)) := (blk_cell BK118.out 5).trans rfl
                      have hfz40_0 := blk_frozen BK118.out 0
                      have hfz40_1 := blk_frozen BK118.out 1
                      have hfz40_2 := blk_frozen BK118.out 2
                      have hfz40_3 := blk_frozen BK118.out 3
                      have hfz40_4 := blk_frozen BK118.out 4
                      have hfz40_5 := blk_frozen BK118.out 5
                      go_wp2_with (first | (go_at_call 52; (with_reducible refine (ephemerisref1_Label.calls ((rd_T25 l0 x11_1).f5) false _ A25.out).mono ?_); rintro e w41 ⟨rfl, hb⟩; have n0_ := Aside0.mk (blk_below (g := gb118) (o := .cells #[.int .i64 ((rd_T25 l0 x11_1).f0), .int .i64 ((rd_T25 l0 x11_1).f1), .int .i64 ((rd_T25 l0 x11_1).f2), .int .i64 ((rd_T25 l0 x11_1).f3), .int .i64 ((rd_T25 l0 x11_1).f4), .string ((rd_T25 l0 x11_1).f5)] 25 (0, 0)) (by (with_reducible repeat (first | refine blk_drewN ?_ _ | refine blk_drew ?_ | refine blk_alloc ?_ _)); exact BK118.out) hb); have n1_ := Aside0.mk (below_step (by repeat (first | (with_reducible first | exact HB.out | apply below_alloc | apply pw_below_drewN | apply below_drew1 | refine below_set ?_ GE118.out) | exact HB.out)) hb); clear BK118; clear HB; have BK118 := n0_; have HB := n1_; clear n0_ n1_; (try clear hb); (try clear hb2); (try clear hk); (try clear hi)))
                      repeat (go_quiet (first | (go_at_call 52; (with_reducible refine (ephemerisref1_Label.calls ((rd_T25 l0 x11_1).f5) false _ A25.out).mono ?_); rintro e w41 ⟨rfl, hb⟩; have n0_ := Aside0.mk (blk_below (g := gb118) (o := .cells #[.int .i64 ((rd_T25 l0 x11_1).f0), .int .i64 ((rd_T25 l0 x11_1).f1), .int .i64 ((rd_T25 l0 x11_1).f2), .int .i64 ((rd_T25 l0 x11_1).f3), .int .i64 ((rd_T25 l0 x11_1).f4), .string ((rd_T25 l0 x11_1).f5)] 25 (0, 0)) (by (with_reducible repeat (first | refine blk_drewN ?_ _ | refine blk_drew ?_ | refine blk_alloc ?_ _)); exact BK118.out) hb); have n1_ := Aside0.mk (below_step (by repeat (first | (with_reducible first | exact HB.out | apply below_alloc | apply pw_below_drewN | apply below_drew1 | refine below_set ?_ GE118.out) | exact HB.out)) hb); clear BK118; clear HB; have BK118 := n0_; have HB := n1_; clear n0_ n1_; (try clear hb); (try clear hb2); (try clear hk); (try clear hi))); try go_wp2_with (first | (go_at_call 52; (with_reducible refine (ephemerisref1_Label.calls ((rd_T25 l0 x11_1).f5) false _ A25.out).mono ?_); rintro e w41 ⟨rfl, hb⟩; have n0_ := Aside0.mk (blk_below (g := gb118) (o := .cells #[.int .i64 ((rd_T25 l0 x11_1).f0), .int .i64 ((rd_T25 l0 x11_1).f1), .int .i64 ((rd_T25 l0 x11_1).f2), .int .i64 ((rd_T25 l0 x11_1).f3), .int .i64 ((rd_T25 l0 x11_1).f4), .string ((rd_T25 l0 x11_1).f5)] 25 (0, 0)) (by (with_reducible repeat (first | refine blk_drewN ?_ _ | refine blk_drew ?_ | refine blk_alloc ?_ _)); exact BK118.out) hb); have n1_ := Aside0.mk (below_step (by repeat (first | (with_reducible first | exact HB.out | apply below_alloc | apply pw_below_drewN | apply below_drew1 | refine below_set ?_ GE118.out) | exact HB.out)) hb); clear BK118; clear HB; have BK118 := n0_; have HB := n1_; clear n0_ n1_; (try clear hb); (try clear hb2); (try clear hk); (try clear hi))))
                      go_ret
                      exact ⟨by first | rfl | (simp [errW_none, errW_some] <;> rfl) | (simp [*, errW_none, errW_some] <;> rfl), by repeat (first | (with_reducible first | exact HB.out | apply below_alloc | apply pw_below_drewN | apply below_drew1 | refine below_set ?_ GE118.out) | exact HB.out)⟩
            · rw [if_neg c6] at H
              exact absurd H (by simp)
          · rw [if_neg c5] at H
            exact absurd H (by simp)
        · rw [if_neg c4] at H
          have c4b0 : decide (x11_1 < (l0.length : Int)) = false := decide_eq_false c4
          clear c4
          obtain rfl := Option.some.inj H
          go_wp2
          repeat (go_quiet (fail); try go_wp2)
          go_ret
          exact ⟨by first | rfl | (simp [errW_none, errW_some] <;> rfl) | (simp [*, errW_none, errW_some] <;> rfl), by repeat (first | (with_reducible first | exact HB.out | apply below_alloc | apply pw_below_drewN | apply below_drew1) | exact HB.out)⟩
  · replace c3 := Bool.eq_false_iff.mpr c3
    subst c3
    have H1 : (some 2) = some r := by rw [if_neg (show ¬ (false = true) by decide)] at H; exact H
    clear H
    have H := H1
    clear H1
    obtain rfl := Option.some.inj H
    go_enter Tryd.func15, Tryd.ntmps15
    go_wp2_with (first | (go_at_call 18; (with_reducible refine (ephemerisref1_In.calls (l0.length : Int) 1 4 false _ A2.out).mono ?_); rintro e w' ⟨rfl, ⟨nd, rfl⟩⟩; (try first | exact ⟨rfl, _, World.drewN_drewN _ _ _⟩ | exact ⟨rfl, _, Eq.trans (World.drewN_drewN _ _ _) (congrArg (World.drewN _) (Nat.add_assoc _ _ _))⟩)))
    repeat (go_quiet (first | (go_at_call 18; (with_reducible refine (ephemerisref1_In.calls (l0.length : Int) 1 4 false _ A2.out).mono ?_); rintro e w' ⟨rfl, ⟨nd, rfl⟩⟩; (try first | exact ⟨rfl, _, World.drewN_drewN _ _ _⟩ | exact ⟨rfl, _, Eq.trans (World.drewN_drewN _ _ _) (congrArg (World.drewN _) (Nat.add_assoc _ _ _))⟩))); try go_wp2_with (first | (go_at_call 18; (with_reducible refine (ephemerisref1_In.calls (l0.length : Int) 1 4 false _ A2.out).mono ?_); rintro e w' ⟨rfl, ⟨nd, rfl⟩⟩; (try first | exact ⟨rfl, _, World.drewN_drewN _ _ _⟩ | exact ⟨rfl, _, Eq.trans (World.drewN_drewN _ _ _) (congrArg (World.drewN _) (Nat.add_assoc _ _ _))⟩))))
    go_ret
    exact ⟨by first | rfl | (simp [errW_none, errW_some] <;> rfl) | (simp [*, errW_none, errW_some] <;> rfl), by repeat (first | (with_reducible first | exact HB.out | apply below_alloc | apply pw_below_drewN | apply below_drew1) | exact HB.out)⟩

/-! ### zone_IsOffset: function 50 -/
def zone_IsOffset.f (a0 : Int) : Option (Bool) := if a0 ≥ (-64800000) then (if a0 ≤ 64800000 then (some ((Int.tmod a0 1000) == 0)) else (some false)) else (some false)
set_option maxHeartbeats 8000000 in
set_option maxRecDepth 100000 in
theorem zone_IsOffset.calls (a0 : Int) (r : Bool) (w : World) (h : zone_IsOffset.f a0 = some r) :
    Calls Tryd.prog 50 #[.int .i64 a0] w fun e w' => e = .returned (.bool r) ∧ Drawn0 w w' := by
  have H : (if a0 ≥ (-64800000) then (if a0 ≤ 64800000 then (some ((Int.tmod a0 1000) == 0)) else (some false)) else (some false)) = some r := h
  clear h
  by_cases c2 : a0 ≥ (-64800000)
  · rw [if_pos c2] at H
    have c2b0 : decide ((-64800000) ≤ a0) = true := decide_eq_true c2
    clear c2
    by_cases c3 : a0 ≤ 64800000
    · rw [if_pos c3] at H
      have c3b0 : decide (a0 ≤ 64800000) = true := decide_eq_true c3
      clear c3
      obtain rfl := Option.some.inj H
      go_enter Tryd.func50, Tryd.ntmps50
      go_wp2
      go_ret
      exact ⟨by first | rfl | (simp; done) | (simp [*]; done), by repeat (first | exact Drawn0.refl _ | apply Drawn0.step)⟩
    · rw [if_neg c3] at H
      have c3b0 : decide (a0 ≤ 64800000) = false := decide_eq_false c3
      clear c3
      obtain rfl := Option.some.inj H
      go_enter Tryd.func50, Tryd.ntmps50
      go_wp2
      go_ret
      exact ⟨by first | rfl | (simp; done) | (simp [*]; done), by repeat (first | exact Drawn0.refl _ | apply Drawn0.step)⟩
  · rw [if_neg c2] at H
    have c2b0 : decide ((-64800000) ≤ a0) = false := decide_eq_false c2
    clear c2
    obtain rfl := Option.some.inj H
    go_enter Tryd.func50, Tryd.ntmps50
    go_wp2
    go_ret
    exact ⟨by first | rfl | (simp; done) | (simp [*]; done), by repeat (first | exact Drawn0.refl _ | apply Drawn0.step)⟩

/-! ### zone_IsLabel: function 51 -/
/-- All bytes are capitals. -/
def zone_IsLabel.all (l : List UInt8) : Bool := l.all fun c => decide (65 ≤ (c.toNat : Int)) && decide ((c.toNat : Int) ≤ 90)
def zone_IsLabel.f (a0 : ByteArray) : Option (Bool) := some (if (a0.size : Int) < 1 then false else if (a0.size : Int) > 6 then false else zone_IsLabel.all a0.data.toList)
theorem zone_IsLabel.below_bytes (w W : World) (e : TypeId) (s : ByteArray) (h : Below w.heap.size w W) : Below w.heap.size w (Go.Lib.bytesWorld W e s) := by
  have hs := h.size
  refine ⟨?_, ?_, ?_, ?_, ?_⟩
  · exact h.os
  · exact h.tape
  · exact h.output
  · rw [Go.Lib.bytesWorld_size]; omega
  · intro j hj
    rw [Go.Lib.bytesWorld_at_old _ _ _ _ (by omega)]
    exact h.block j hj
theorem zone_IsLabel.all_step (s : ByteArray) (n c : Nat) (r : Bool) (hn : n < s.size) (hc : (s.data.toList.getD n 0).toNat = c) (h : zone_IsLabel.all (s.data.toList.drop n) = r) :
    r = (decide (65 ≤ (c : Int)) && decide ((c : Int) ≤ 90) && zone_IsLabel.all (s.data.toList.drop (n + 1))) := by
  have hl : n < s.data.toList.length := by rw [Array.length_toList]; exact hn
  rw [List.drop_eq_getElem_cons hl] at h
  have e : s.data.toList.getD n 0 = s.data.toList[n] := by rw [List.getD_eq_getElem?_getD, List.getElem?_eq_getElem hl]; rfl
  rw [e] at hc
  rw [← h, ← hc]
  simp only [zone_IsLabel.all, List.all_cons]
set_option maxHeartbeats 8000000 in
set_option maxRecDepth 100000 in
theorem zone_IsLabel.late (a0 : ByteArray) (r : Bool) (w : World) (h : Aside0 (zone_IsLabel.all a0.data.toList = r)) (c1 : decide ((a0.size : Int) < 1) = false) (c2 : decide (6 < (a0.size : Int)) = false) :
    Calls Tryd.prog 51 #[.string a0] w fun e w' => e = .returned (.bool r) ∧ Below w.heap.size w w' := by
  have hconv := fun (W : World) => Go.Lib.run_convert_string_bytes (P := Tryd.prog) W 9 117 5 a0 Tryd.underlying9 Tryd.underlying117 Tryd.underlying5
  go_enter Tryd.func51, Tryd.ntmps51
  go_wp2
  repeat (go_quiet (fail); try go_wp2)
  go_loopg [16] (a0.size + 1) (fun kq v32 w' => ∃ (n : Nat), v32 = .int .i64 n ∧ Aside0 (n ≤ a0.size) ∧ Aside0 (zone_IsLabel.all (a0.data.toList.drop n) = r) ∧ Aside0 (a0.size - n < kq) ∧ Aside0 (∀ j, j < a0.size → w'.cell? ⟨w.heap.size, j, none⟩ = some (.int .u8 (a0.data.toList.getD j 0).toNat)) ∧ Aside0 (Below w.heap.size w w'))
  case atStart => exact ⟨0, rfl, ⟨Nat.zero_le _⟩, h, ⟨by omega⟩, ⟨fun j hj => Go.Lib.bytesWorld_cell _ _ _ _ hj⟩, ⟨zone_IsLabel.below_bytes _ _ _ _ (Below.refl _ _)⟩⟩
  case round =>
    obtain ⟨n, rfl, hn, ha, hk, hcell, HB⟩ := hrel
    cases gk with
    | zero => exact absurd hk.out (by omega)
    | succ k1 =>
      by_cases hlt : n < a0.size
      · have hx := hcell.out n hlt
        have h0 : decide ((n : Int) < (a0.size : Int)) = true := decide_eq_true (by omega)
        obtain ⟨c, hc⟩ : ∃ c : Nat, (a0.data.toList.getD n 0).toNat = c := ⟨_, rfl⟩
        have hs := zone_IsLabel.all_step a0 n c r hlt hc ha.out
        rw [hc] at hx
        clear ha hc
        have hsz : (a0.size : Int) ≤ 6 := by simpa using c2
        by_cases hA : (c : Int) < 65
        · have d1 : decide ((c : Int) < 65) = true := decide_eq_true hA
          have hr : r = false := by rw [hs, decide_eq_false (by omega)]; rfl
          subst hr
          clear hs hA
          go_wp2
          go_ret
          exact ⟨rfl, HB.out⟩
        · have d1 : decide ((c : Int) < 65) = false := decide_eq_false hA
          by_cases hZ : (c : Int) > 90
          · have d2 : decide (90 < (c : Int)) = true := decide_eq_true hZ
            have hr : r = false := by rw [hs, decide_eq_false (show ¬ (c : Int) ≤ 90 by omega)]; simp
            subst hr
            clear hs hA hZ
            go_wp2
            go_ret
            exact ⟨rfl, HB.out⟩
          · have d2 : decide (90 < (c : Int)) = false := decide_eq_false hZ
            have hr : Aside0 (zone_IsLabel.all (a0.data.toList.drop (n + 1)) = r) := ⟨by rw [hs, decide_eq_true (show 65 ≤ (c : Int) by omega), decide_eq_true (show (c : Int) ≤ 90 by omega)]; rfl⟩
            clear hs hA hZ
            go_wp2
            go_roundg k1
            case measure => omega
            case rel => exact ⟨n + 1, by go_num, ⟨by omega⟩, hr, ⟨by have := hk.out; omega⟩, hcell, HB⟩
      · have h0 : decide ((n : Int) < (a0.size : Int)) = false := decide_eq_false (by omega)
        have hr : r = true := by
          have := ha.out
          rw [List.drop_of_length_le (by rw [Array.length_toList]; exact Nat.le_of_not_lt hlt)] at this
          exact this.symm
        subst hr
        go_wp2
        go_ret
        exact ⟨rfl, HB.out⟩
set_option maxHeartbeats 8000000 in
set_option maxRecDepth 100000 in
theorem zone_IsLabel.calls (a0 : ByteArray) (r : Bool) (w : World) (h : zone_IsLabel.f a0 = some r) :
    Calls Tryd.prog 51 #[.string a0] w fun e w' => e = .returned (.bool r) ∧ Below w.heap.size w w' := by
  unfold zone_IsLabel.f at h
  replace h := Option.some.inj h
  by_cases c1 : (a0.size : Int) < 1
  · rw [if_pos c1] at h
    subst h
    have c1b : decide ((a0.size : Int) < 1) = true := decide_eq_true c1
    clear c1
    go_enter Tryd.func51, Tryd.ntmps51
    go_wp2
    repeat (go_quiet (fail); try go_wp2)
    go_ret
    exact ⟨rfl, by repeat (first | exact Below.refl _ _ | apply pw_below_drewN)⟩
  rw [if_neg c1] at h
  have c1b : decide ((a0.size : Int) < 1) = false := decide_eq_false c1
  clear c1
  by_cases c2 : (a0.size : Int) > 6
  · rw [if_pos c2] at h
    subst h
    have c2b : decide (6 < (a0.size : Int)) = true := decide_eq_true c2
    clear c2
    go_enter Tryd.func51, Tryd.ntmps51
    go_wp2
    repeat (go_quiet (fail); try go_wp2)
    go_ret
    exact ⟨rfl, by repeat (first | exact Below.refl _ _ | apply pw_below_drewN)⟩
  rw [if_neg c2] at h
  have c2b : decide (6 < (a0.size : Int)) = false := decide_eq_false c2
  clear c2
  exact zone_IsLabel.late a0 r w ⟨h⟩ c1b c2b

end Go.Proofs.YtpkgpohjmcoplaaDoor.PForecastYears
