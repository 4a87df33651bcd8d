-- The walks of the law's functions, told by a program.
import Derived.Test.YtcmanidhilkhnaaDoorPPatternChecksx0
import Derived.Test.YtcmanidhilkhnaaDoorPPatternChecksx1
namespace Go.Proofs.YtcmanidhilkhnaaDoor.PPatternChecks
open Go.RowKit Go.Proofs.YtcmanidhilkhnaaDoorW.PrintWords Go.Proofs.YtcmanidhilkhnaaDoorW.PrintLast Go.Proofs.YtcmanidhilkhnaaDoorW.PrintMore
attribute [local go_sem] max2_int min2_int max_two min_two max_three min_three max_four min_four   -- for this text's walks alone
set_option linter.unusedVariables false
set_option linter.unusedSimpArgs false

/-! ### ephemerisref1_PatternFull: function 14 -/
mutual
def ephemerisref1_PatternFull.l0 : Nat → List (S100) → Int → Int → Int → Int → List (S100) → Int → Int → Option (Bool)
  | 0, _, _, _, _, _, _, _, _ => none
  | k + 1, x0, x3, x4, x5, x6, x10, x11, x12 => if x12 < x11 then (if 0 ≤ x12 then (if x12 < (x10.length : Int) then (if (rd_T100 x10 x12).f0 = true then (if 0 < (((rd_T100 x10 x12).f1).size : Int) then (if (bt ((rd_T100 x10 x12).f1) 0) = 121 then (ephemerisref1_PatternFull.j2 k x0 (wrap64 (x3 + 1)) x4 x5 x6 x12 x10 x11 x12) else (if (bt ((rd_T100 x10 x12).f1) 0) = 109 then (ephemerisref1_PatternFull.j1 k x0 x3 x4 x5 x6 x12 x10 x11 x12 (bt ((rd_T100 x10 x12).f1) 0) ((bt ((rd_T100 x10 x12).f1) 0) == 109)) else (ephemerisref1_PatternFull.j1 k x0 x3 x4 x5 x6 x12 x10 x11 x12 (bt ((rd_T100 x10 x12).f1) 0) ((bt ((rd_T100 x10 x12).f1) 0) == 110)))) else (none)) else (if 0 < (((rd_T100 x10 x12).f1).size : Int) then (if x12 > 0 then (if (bt ((rd_T100 x10 x12).f1) 0) = 45 then (some false) else (if (bt ((rd_T100 x10 x12).f1) 0) > 127 then (some false) else ((strings_IndexByte.f (⟨#[97, 98, 99, 100, 101, 102, 103, 104, 105, 106, 107, 108, 109, 110, 111, 112, 113, 114, 115, 116, 117, 118, 119, 120, 121, 122, 65, 66, 67, 68, 69, 70, 71, 72, 73, 74, 75, 76, 77, 78, 79, 80, 81, 82, 83, 84, 85, 86, 87, 88, 89, 90, 48, 49, 50, 51, 52, 53, 54, 55, 56, 57]⟩ : ByteArray) (bt ((rd_T100 x10 x12).f1) 0)).bind fun t150 => (if t150 ≥ 0 then (some false) else (ephemerisref1_PatternFull.l0 k x0 x3 x4 x5 x6 x10 x11 (wrap64 (x12 + 1))))))) else (ephemerisref1_PatternFull.l0 k x0 x3 x4 x5 x6 x10 x11 (wrap64 (x12 + 1)))) else (none))) else (none)) else (none)) else (if x3 = 1 then (if x4 = 1 then (if x5 = 1 then (some (decide (x6 < 2))) else (some false)) else (some false)) else (some false))
def ephemerisref1_PatternFull.j2 : Nat → List (S100) → Int → Int → Int → Int → Int → List (S100) → Int → Int → Option (Bool)
  | 0, _, _, _, _, _, _, _, _, _ => none
  | k + 1, x0, x3, x4, x5, x6, x7, x10, x11, x12 => if x7 > 0 then (if 0 ≤ (wrap64 (x7 - 1)) then (if (wrap64 (x7 - 1)) < (x0.length : Int) then (ephemerisref1_PatternFull.j3 k x0 x3 x4 x5 x6 x10 x11 x12 ((rd_T100 x0 (wrap64 (x7 - 1))).f0)) else (none)) else (none)) else (ephemerisref1_PatternFull.j3 k x0 x3 x4 x5 x6 x10 x11 x12 false)
def ephemerisref1_PatternFull.j3 : Nat → List (S100) → Int → Int → Int → Int → List (S100) → Int → Int → Bool → Option (Bool)
  | 0, _, _, _, _, _, _, _, _, _ => none
  | k + 1, x0, x3, x4, x5, x6, x10, x11, x12, x46 => if x46 = true then (some false) else (ephemerisref1_PatternFull.l0 k x0 x3 x4 x5 x6 x10 x11 (wrap64 (x12 + 1)))
def ephemerisref1_PatternFull.j1 : Nat → List (S100) → Int → Int → Int → Int → Int → List (S100) → Int → Int → Int → Bool → Option (Bool)
  | 0, _, _, _, _, _, _, _, _, _, _, _ => none
  | k + 1, x0, x3, x4, x5, x6, x7, x10, x11, x12, x21, x28 => if x28 = true then (ephemerisref1_PatternFull.j2 k x0 x3 (wrap64 (x4 + 1)) x5 x6 x7 x10 x11 x12) else (if x21 = 100 then (ephemerisref1_PatternFull.j2 k x0 x3 x4 (wrap64 (x5 + 1)) x6 x7 x10 x11 x12) else (ephemerisref1_PatternFull.j2 k x0 x3 x4 x5 (wrap64 (x6 + 1)) x7 x10 x11 x12))
end
def ephemerisref1_PatternFull.f (k : Nat) (l0 : List (S100)) : Option (Bool) := ephemerisref1_PatternFull.l0 k l0 0 0 0 0 l0 (l0.length : Int) 0
theorem ephemerisref1_PatternFull.mono_l : ∀ k, (∀ y0 y1 y2 y3 y4 y5 y6 y7, LeO (ephemerisref1_PatternFull.l0 k y0 y1 y2 y3 y4 y5 y6 y7) (ephemerisref1_PatternFull.l0 (k + 1) y0 y1 y2 y3 y4 y5 y6 y7)) ∧ (∀ y0 y1 y2 y3 y4 y5 y6 y7 y8, LeO (ephemerisref1_PatternFull.j2 k y0 y1 y2 y3 y4 y5 y6 y7 y8) (ephemerisref1_PatternFull.j2 (k + 1) y0 y1 y2 y3 y4 y5 y6 y7 y8)) ∧ (∀ y0 y1 y2 y3 y4 y5 y6 y7 y8, LeO (ephemerisref1_PatternFull.j3 k y0 y1 y2 y3 y4 y5 y6 y7 y8) (ephemerisref1_PatternFull.j3 (k + 1) y0 y1 y2 y3 y4 y5 y6 y7 y8)) ∧ (∀ y0 y1 y2 y3 y4 y5 y6 y7 y8 y9 y10, LeO (ephemerisref1_PatternFull.j1 k y0 y1 y2 y3 y4 y5 y6 y7 y8 y9 y10) (ephemerisref1_PatternFull.j1 (k + 1) y0 y1 y2 y3 y4 y5 y6 y7 y8 y9 y10))
  | 0 => ⟨fun _ _ _ _ _ _ _ _ r h => by simp [ephemerisref1_PatternFull.l0] at h, fun _ _ _ _ _ _ _ _ _ r h => by simp [ephemerisref1_PatternFull.j2] at h, fun _ _ _ _ _ _ _ _ _ r h => by simp [ephemerisref1_PatternFull.j3] at h, fun _ _ _ _ _ _ _ _ _ _ _ r h => by simp [ephemerisref1_PatternFull.j1] at h⟩
  | k + 1 => by
    obtain ⟨ih0, ih1, ih2, ih3⟩ := ephemerisref1_PatternFull.mono_l k
    refine ⟨?_, ?_, ?_, ?_⟩
    · intro y0 y1 y2 y3 y4 y5 y6 y7
      unfold ephemerisref1_PatternFull.l0
      repeat' first
      | (with_reducible exact ih0 _ _ _ _ _ _ _ _)
      | (with_reducible exact ih1 _ _ _ _ _ _ _ _ _)
      | (with_reducible exact ih2 _ _ _ _ _ _ _ _ _)
      | (with_reducible exact ih3 _ _ _ _ _ _ _ _ _ _ _)
      | (with_reducible exact LeO.refl _)
      | (with_reducible exact LeO.none _)
      | (with_reducible refine LeO.ite ?_ ?_)
      | (with_reducible refine LeO.bind ?_ (fun _ => ?_))
      | exact ih0 _ _ _ _ _ _ _ _
      | exact ih1 _ _ _ _ _ _ _ _ _
      | exact ih2 _ _ _ _ _ _ _ _ _
      | exact ih3 _ _ _ _ _ _ _ _ _ _ _
      | exact LeO.none _
      | refine LeO.ite ?_ ?_
      | refine LeO.bind ?_ (fun _ => ?_)
    · intro y0 y1 y2 y3 y4 y5 y6 y7 y8
      unfold ephemerisref1_PatternFull.j2
      repeat' first
      | (with_reducible exact ih0 _ _ _ _ _ _ _ _)
      | (with_reducible exact ih1 _ _ _ _ _ _ _ _ _)
      | (with_reducible exact ih2 _ _ _ _ _ _ _ _ _)
      | (with_reducible exact ih3 _ _ _ _ _ _ _ _ _ _ _)
      | (with_reducible exact LeO.refl _)
      | (with_reducible exact LeO.none _)
      | (with_reducible refine LeO.ite ?_ ?_)
      | (with_reducible refine LeO.bind ?_ (fun _ => ?_))
      | exact ih0 _ _ _ _ _ _ _ _
      | exact ih1 _ _ _ _ _ _ _ _ _
      | exact ih2 _ _ _ _ _ _ _ _ _
      | exact ih3 _ _ _ _ _ _ _ _ _ _ _
      | exact LeO.none _
      | refine LeO.ite ?_ ?_
      | refine LeO.bind ?_ (fun _ => ?_)
    · intro y0 y1 y2 y3 y4 y5 y6 y7 y8
      unfold ephemerisref1_PatternFull.j3
      repeat' first
      | (with_reducible exact ih0 _ _ _ _ _ _ _ _)
      | (with_reducible exact ih1 _ _ _ _ _ _ _ _ _)
      | (with_reducible exact ih2 _ _ _ _ _ _ _ _ _)
      | (with_reducible exact ih3 _ _ _ _ _ _ _ _ _ _ _)
      | (with_reducible exact LeO.refl _)
      | (with_reducible exact LeO.none _)
      | (with_reducible refine LeO.ite ?_ ?_)
      | (with_reducible refine LeO.bind ?_ (fun _ => ?_))
      | exact ih0 _ _ _ _ _ _ _ _
      | exact ih1 _ _ _ _ _ _ _ _ _
      | exact ih2 _ _ _ _ _ _ _ _ _
      | exact ih3 _ _ _ _ _ _ _ _ _ _ _
      | exact LeO.none _
      | refine LeO.ite ?_ ?_
      | refine LeO.bind ?_ (fun _ => ?_)
    · intro y0 y1 y2 y3 y4 y5 y6 y7 y8 y9 y10
      unfold ephemerisref1_PatternFull.j1
      repeat' first
      | (with_reducible exact ih0 _ _ _ _ _ _ _ _)
      | (with_reducible exact ih1 _ _ _ _ _ _ _ _ _)
      | (with_reducible exact ih2 _ _ _ _ _ _ _ _ _)
      | (with_reducible exact ih3 _ _ _ _ _ _ _ _ _ _ _)
      | (with_reducible exact LeO.refl _)
      | (with_reducible exact LeO.none _)
      | (with_reducible refine LeO.ite ?_ ?_)
      | (with_reducible refine LeO.bind ?_ (fun _ => ?_))
      | exact ih0 _ _ _ _ _ _ _ _
      | exact ih1 _ _ _ _ _ _ _ _ _
      | exact ih2 _ _ _ _ _ _ _ _ _
      | exact ih3 _ _ _ _ _ _ _ _ _ _ _
      | exact LeO.none _
      | refine LeO.ite ?_ ?_
      | refine LeO.bind ?_ (fun _ => ?_)
theorem ephemerisref1_PatternFull.mono : ∀ a0 k, LeO (ephemerisref1_PatternFull.f k a0) (ephemerisref1_PatternFull.f (k + 1) a0) := by
  intro a0 k
  obtain ⟨ih0, ih1, ih2, ih3⟩ := ephemerisref1_PatternFull.mono_l k
  unfold ephemerisref1_PatternFull.f
  repeat' first
      | (with_reducible exact ih0 _ _ _ _ _ _ _ _)
      | (with_reducible exact ih1 _ _ _ _ _ _ _ _ _)
      | (with_reducible exact ih2 _ _ _ _ _ _ _ _ _)
      | (with_reducible exact ih3 _ _ _ _ _ _ _ _ _ _ _)
      | (with_reducible exact LeO.refl _)
      | (with_reducible exact LeO.none _)
      | (with_reducible refine LeO.ite ?_ ?_)
      | (with_reducible refine LeO.bind ?_ (fun _ => ?_))
      | exact ih0 _ _ _ _ _ _ _ _
      | exact ih1 _ _ _ _ _ _ _ _ _
      | exact ih2 _ _ _ _ _ _ _ _ _
      | exact ih3 _ _ _ _ _ _ _ _ _ _ _
      | exact LeO.none _
      | refine LeO.ite ?_ ?_
      | refine LeO.bind ?_ (fun _ => ?_)
set_option maxHeartbeats 8000000 in
set_option maxRecDepth 100000 in
theorem ephemerisref1_PatternFull.calls (k : Nat) (A0 : Option Addr) (c0 : Nat) (l0 : List (S100)) (r : Bool) (w : World) (hr0 : Kd.C k100 w A0 l0.length l0) (hc0 : l0.length ≤ c0) (h : ephemerisref1_PatternFull.f k l0 = some r) :
    Calls Tryd.prog 14 #[.slice A0 l0.length c0] w fun e w' => e = .returned (.bool r) ∧ Below w.heap.size w w' := by
  have hu100 := Tryd.underlying100
  have HR0 := Aside0.mk hr0
  have HC0 := Aside0.mk hc0
  clear hr0 hc0
  have HB := Aside0.mk (Below.refl w.heap.size w)
  have H : (ephemerisref1_PatternFull.l0 k l0 0 0 0 0 l0 (l0.length : Int) 0) = some r := h
  clear h
  have H' := Aside0.mk H
  clear H
  go_enter Tryd.func14, Tryd.ntmps14
  go_wp2
  go_loopg [3, 4, 5, 6, 12] k (fun kq v3 v4 v5 v6 v12 w' => ∃ (x3_1 : Int) (x4_1 : Int) (x5_1 : Int) (x6_1 : Int) (x12_1 : Int), v3 = .int .i64 x3_1 ∧ v4 = .int .i64 x4_1 ∧ v5 = .int .i64 x5_1 ∧ v6 = .int .i64 x6_1 ∧ v12 = .int .i64 x12_1 ∧ Aside0 (ephemerisref1_PatternFull.l0 kq l0 x3_1 x4_1 x5_1 x6_1 l0 (l0.length : Int) x12_1 = some r) ∧ Aside0 (kq ≤ k) ∧ Aside0 (Below w.heap.size w w'))
  case atStart => exact ⟨(0), (0), (0), (0), (0), (by first | rfl | (simp; done) | (simp [*]; done)), (by first | rfl | (simp; done) | (simp [*]; done)), (by first | rfl | (simp; done) | (simp [*]; done)), (by first | rfl | (simp; done) | (simp [*]; done)), (by first | rfl | (simp; done) | (simp [*]; done)), H', ⟨Nat.le_refl _⟩, ⟨by repeat (first | (with_reducible first | exact HB.out | apply below_alloc | apply pw_below_drewN | apply below_drew1) | exact HB.out)⟩⟩
  case round =>
    clear H'
    try clear c1
    obtain ⟨x3_1, x4_1, x5_1, x6_1, x12_1, rfl, rfl, rfl, rfl, rfl, HA, HK1, HB⟩ := hrel
    cases gk with
    | zero => exact absurd HA.out (by simp [ephemerisref1_PatternFull.l0])
    | succ k1 =>
      have H := HA.out
      clear HA
      simp only [ephemerisref1_PatternFull.l0] at H
      by_cases c2 : x12_1 < (l0.length : Int)
      · rw [if_pos c2] at H
        have c2b0 : decide (x12_1 < (l0.length : Int)) = true := decide_eq_true c2
        clear c2
        by_cases c3 : 0 ≤ x12_1
        · rw [if_pos c3] at H
          have c3b0 : decide (0 ≤ x12_1) = true := decide_eq_true c3
          clear c3
          by_cases c4 : x12_1 < (l0.length : Int)
          · rw [if_pos c4] at H
            have c4b0 : decide (x12_1 < (l0.length : Int)) = true := decide_eq_true c4
            clear c4
            obtain ⟨bq5, hbq5⟩ : ∃ b_ : Bool, b_ = ((rd_T100 l0 x12_1).f0) := ⟨_, rfl⟩
            replace H : (if bq5 = true then (if 0 < (((rd_T100 l0 x12_1).f1).size : Int) then (if (bt ((rd_T100 l0 x12_1).f1) 0) = 121 then (ephemerisref1_PatternFull.j2 k1 l0 (wrap64 (x3_1 + 1)) x4_1 x5_1 x6_1 x12_1 l0 (l0.length : Int) x12_1) else (if (bt ((rd_T100 l0 x12_1).f1) 0) = 109 then (ephemerisref1_PatternFull.j1 k1 l0 x3_1 x4_1 x5_1 x6_1 x12_1 l0 (l0.length : Int) x12_1 (bt ((rd_T100 l0 x12_1).f1) 0) ((bt ((rd_T100 l0 x12_1).f1) 0) == 109)) else (ephemerisref1_PatternFull.j1 k1 l0 x3_1 x4_1 x5_1 x6_1 x12_1 l0 (l0.length : Int) x12_1 (bt ((rd_T100 l0 x12_1).f1) 0) ((bt ((rd_T100 l0 x12_1).f1) 0) == 110)))) else (none)) else (if 0 < (((rd_T100 l0 x12_1).f1).size : Int) then (if x12_1 > 0 then (if (bt ((rd_T100 l0 x12_1).f1) 0) = 45 then (some false) else (if (bt ((rd_T100 l0 x12_1).f1) 0) > 127 then (some false) else ((strings_IndexByte.f (⟨#[97, 98, 99, 100, 101, 102, 103, 104, 105, 106, 107, 108, 109, 110, 111, 112, 113, 114, 115, 116, 117, 118, 119, 120, 121, 122, 65, 66, 67, 68, 69, 70, 71, 72, 73, 74, 75, 76, 77, 78, 79, 80, 81, 82, 83, 84, 85, 86, 87, 88, 89, 90, 48, 49, 50, 51, 52, 53, 54, 55, 56, 57]⟩ : ByteArray) (bt ((rd_T100 l0 x12_1).f1) 0)).bind fun t150 => (if t150 ≥ 0 then (some false) else (ephemerisref1_PatternFull.l0 k1 l0 x3_1 x4_1 x5_1 x6_1 l0 (l0.length : Int) (wrap64 (x12_1 + 1))))))) else (ephemerisref1_PatternFull.l0 k1 l0 x3_1 x4_1 x5_1 x6_1 l0 (l0.length : Int) (wrap64 (x12_1 + 1)))) else (none))) = some r := by rw [← hbq5] at H; exact H
            have Nbq5 := Aside0.mk hbq5
            clear hbq5
            by_cases c6 : bq5 = true
            · subst c6
              have H1 : (if 0 < (((rd_T100 l0 x12_1).f1).size : Int) then (if (bt ((rd_T100 l0 x12_1).f1) 0) = 121 then (ephemerisref1_PatternFull.j2 k1 l0 (wrap64 (x3_1 + 1)) x4_1 x5_1 x6_1 x12_1 l0 (l0.length : Int) x12_1) else (if (bt ((rd_T100 l0 x12_1).f1) 0) = 109 then (ephemerisref1_PatternFull.j1 k1 l0 x3_1 x4_1 x5_1 x6_1 x12_1 l0 (l0.length : Int) x12_1 (bt ((rd_T100 l0 x12_1).f1) 0) ((bt ((rd_T100 l0 x12_1).f1) 0) == 109)) else (ephemerisref1_PatternFull.j1 k1 l0 x3_1 x4_1 x5_1 x6_1 x12_1 l0 (l0.length : Int) x12_1 (bt ((rd_T100 l0 x12_1).f1) 0) ((bt ((rd_T100 l0 x12_1).f1) 0) == 110)))) else (none)) = some r := by rw [if_pos rfl] at H; exact H
              clear H
              have H := H1
              clear H1
              by_cases c7 : 0 < (((rd_T100 l0 x12_1).f1).size : Int)
              · rw [if_pos c7] at H
                have c7b0 : decide (0 < (((rd_T100 l0 x12_1).f1).size : Int)) = true := decide_eq_true c7
                have c7b1 : decide (0 < ((rd_T100 l0 x12_1).f1).size) = true := decide_eq_true (by omega)
                clear c7
                have HC9 := Aside0.mk H
                clear H
                have p147 : 0 ≤ (x12_1 : Int) := of_decide_eq_true (by first | (with_reducible assumption) | assumption)
                have q147 : x12_1 < (l0.length : Int) := of_decide_eq_true (by first | (with_reducible assumption) | assumption)
                obtain ⟨ad147, e147, hx147_0, hx147_1⟩ := at_T100 HR0.out x12_1 p147 q147
                (try rw [← Nbq5.out] at hx147_0)
                cases e147
                replace hx147_0 := (HB.out.cell (World.block_lt_of_cell? w _ hx147_0)).trans hx147_0
                replace hx147_1 := (HB.out.cell (World.block_lt_of_cell? w _ hx147_1)).trans hx147_1
                replace p147 := eq_true p147
                replace q147 := eq_true q147
                go_upto_block 2 with (first | ((with_reducible refine gate_dst (N := 8) rfl ?_); refine box_event ?hg (N := 8) ?hd (cs := #[.bool false, .string (⟨#[]⟩ : ByteArray)]) (t := 100) ?hr ?_; (case hd => rfl); (case hg => rfl); (case hr => first | (go_simp; done) | (go_simp; rfl)); intro gb148 hg w10 hbox hb; have n0_ := Aside0.mk (below_step (by repeat (first | (with_reducible first | exact HB.out | apply below_alloc | apply pw_below_drewN | apply below_drew1) | exact HB.out)) hb); have n1_ := Aside0.mk (hbox); have n2_ := Aside0.mk ((by rw [hg]; exact (below_size (by repeat (first | (with_reducible first | exact HB.out | apply below_alloc | apply pw_below_drewN | apply below_drew1) | exact HB.out))) : w.heap.size ≤ gb148)); have n3_ := Aside0.mk ((by rw [hg]; exact (below_size (by repeat (first | (with_reducible first | exact HB.out | apply below_alloc | apply pw_below_drewN | apply below_drew1) | exact HB.out))) : w.heap.size ≤ gb148)); clear HB; have HB := n0_; have BK148 := n1_; have GW148 := n2_; have GE148 := n3_; clear n0_ n1_ n2_ n3_; clear hb hbox hg; have hcz11_0 : w10.cell? ⟨gb148, 0, none⟩ = some (.bool false) := (blk_cell BK148.out 0).trans rfl; have hcz11_1 : w10.cell? ⟨gb148, 1, none⟩ = some (.string (⟨#[]⟩ : ByteArray)) := (blk_cell BK148.out 1).trans rfl; have hfz11_0 := blk_frozen BK148.out 0; have hfz11_1 := blk_frozen BK148.out 1; have p8 : 0 ≤ (0 : Int) := (by omega); have q8 : 0 < ((rd_T100 l0 x12_1).f1).size := (by have : (0 : Int) < (((rd_T100 l0 x12_1).f1).size : Int) := of_decide_eq_true (by first | (with_reducible assumption) | assumption); omega); have hx8 : ∀ h : 0 < ((rd_T100 l0 x12_1).f1).size, ((((rd_T100 l0 x12_1).f1)[0]'h).toNat : Int) = bt ((rd_T100 l0 x12_1).f1) 0 := bt_at ((rd_T100 l0 x12_1).f1) 0; clear p8; have qi8 : (0 < (((rd_T100 l0 x12_1).f1).size : Int)) = True := eq_true (of_decide_eq_true (by first | (with_reducible assumption) | assumption)); replace q8 := eq_true q8))
                (try simp only [Act.put, List.setIfInBounds_toArray, List.set_cons_zero, List.set_cons_succ])
                go_cut [3, 4, 5, 6] (fun v3 v4 v5 v6 wc => ∃ (kq : Nat) (x3_8 : Int) (x4_8 : Int) (x5_8 : Int) (x6_8 : Int), v3 = .int .i64 x3_8 ∧ v4 = .int .i64 x4_8 ∧ v5 = .int .i64 x5_8 ∧ v6 = .int .i64 x6_8 ∧ Aside0 (ephemerisref1_PatternFull.j2 kq l0 x3_8 x4_8 x5_8 x6_8 x12_1 l0 (l0.length : Int) x12_1 = some r) ∧ Aside0 (kq ≤ k1) ∧ Aside0 (wc.heap[gb148]? = some (.cells #[.bool true, .string ((rd_T100 l0 x12_1).f1)] 100 (0, 0))) ∧ Aside0 (Below w.heap.size w wc))
                case first =>
                  have H := HC9.out
                  clear HC9
                  by_cases c12 : (bt ((rd_T100 l0 x12_1).f1) 0) = 121
                  · rw [if_pos c12] at H
                    have c12b0 : ((bt ((rd_T100 l0 x12_1).f1) 0) == 121) = true := beq_iff_eq.mpr c12
                    have c12b1 : ((bt ((rd_T100 l0 x12_1).f1) 0) != 121) = false := bne_eq_false_iff_eq.mpr c12
                    clear c12
                    (first | rw [c12b0] | (simp only [i64_w, i32_w]; rw [c12b0]) | skip)
                    have H' := Aside0.mk H
                    clear H
                    go_wp2
                    go_meet
                    case rel => exact ⟨_, (wrap64 (x3_1 + 1)), (x4_1), (x5_1), (x6_1), (by first | rfl | (simp; done) | (simp [*]; done)), (by first | rfl | (simp; done) | (simp [*]; done)), (by first | rfl | (simp; done) | (simp [*]; done)), (by first | rfl | (simp; done) | (simp [*]; done)), H', ⟨by have := HK1.out; first | omega | exact Nat.le_refl _⟩, ⟨by (with_reducible repeat (first | refine blk_drewN ?_ _ | refine blk_drew ?_ | refine blk_alloc ?_ _)); refine blk_put (cs := #[.bool true, .string (⟨#[]⟩ : ByteArray)]) ?_ 1 _ rfl; (with_reducible repeat (first | refine blk_drewN ?_ _ | refine blk_drew ?_ | refine blk_alloc ?_ _)); refine blk_put (cs := #[.bool false, .string (⟨#[]⟩ : ByteArray)]) ?_ 0 _ rfl; (with_reducible repeat (first | refine blk_drewN ?_ _ | refine blk_drew ?_ | refine blk_alloc ?_ _)); exact BK148.out⟩, ⟨by repeat (first | (with_reducible first | exact HB.out | apply below_alloc | apply pw_below_drewN | apply below_drew1 | refine below_set ?_ GE148.out) | exact HB.out)⟩⟩
                  · rw [if_neg c12] at H
                    have c12b0 : ((bt ((rd_T100 l0 x12_1).f1) 0) == 121) = false := beq_eq_false_iff_ne.mpr c12
                    have c12b1 : ((bt ((rd_T100 l0 x12_1).f1) 0) != 121) = true := bne_iff_ne.mpr c12
                    (first | rw [c12b0] | (simp only [i64_w, i32_w]; rw [c12b0]) | skip)
                    have HC13 := Aside0.mk H
                    clear H
                    go_upto_if 28 with (fail)
                    go_cut [28] (fun v28 wc => ∃ (kq : Nat) (x28_12 : Bool), v28 = .bool x28_12 ∧ Aside0 (ephemerisref1_PatternFull.j1 kq l0 x3_1 x4_1 x5_1 x6_1 x12_1 l0 (l0.length : Int) x12_1 (bt ((rd_T100 l0 x12_1).f1) 0) x28_12 = some r) ∧ Aside0 (kq ≤ k1) ∧ Aside0 (wc.heap[gb148]? = some (.cells #[.bool true, .string ((rd_T100 l0 x12_1).f1)] 100 (0, 0))) ∧ Aside0 (Below w.heap.size w wc))
                    case first =>
                      have H := HC13.out
                      clear HC13
                      by_cases c14 : (bt ((rd_T100 l0 x12_1).f1) 0) = 109
                      · rw [if_pos c14] at H
                        have c14b0 : ((bt ((rd_T100 l0 x12_1).f1) 0) == 109) = true := beq_iff_eq.mpr c14
                        have c14b1 : ((bt ((rd_T100 l0 x12_1).f1) 0) != 109) = false := bne_eq_false_iff_eq.mpr c14
                        clear c14
                        (first | rw [c14b0] | (simp only [i64_w, i32_w]; rw [c14b0]) | skip)
                        have H' := Aside0.mk H
                        clear H
                        go_wp2
                        go_meet
                        case rel => exact ⟨_, (((bt ((rd_T100 l0 x12_1).f1) 0) == 109)), (by first | rfl | (simp; done) | (simp [*]; done)), H', ⟨by have := HK1.out; first | omega | exact Nat.le_refl _⟩, ⟨by (with_reducible repeat (first | refine blk_drewN ?_ _ | refine blk_drew ?_ | refine blk_alloc ?_ _)); refine blk_put (cs := #[.bool true, .string (⟨#[]⟩ : ByteArray)]) ?_ 1 _ rfl; (with_reducible repeat (first | refine blk_drewN ?_ _ | refine blk_drew ?_ | refine blk_alloc ?_ _)); refine blk_put (cs := #[.bool false, .string (⟨#[]⟩ : ByteArray)]) ?_ 0 _ rfl; (with_reducible repeat (first | refine blk_drewN ?_ _ | refine blk_drew ?_ | refine blk_alloc ?_ _)); exact BK148.out⟩, ⟨by repeat (first | (with_reducible first | exact HB.out | apply below_alloc | apply pw_below_drewN | apply below_drew1 | refine below_set ?_ GE148.out) | exact HB.out)⟩⟩
                      · rw [if_neg c14] at H
                        have c14b0 : ((bt ((rd_T100 l0 x12_1).f1) 0) == 109) = false := beq_eq_false_iff_ne.mpr c14
                        have c14b1 : ((bt ((rd_T100 l0 x12_1).f1) 0) != 109) = true := bne_iff_ne.mpr c14
                        (first | rw [c14b0] | (simp only [i64_w, i32_w]; rw [c14b0]) | skip)
                        have H' := Aside0.mk H
                        clear H
                        go_wp2
                        go_meet
                        case rel => exact ⟨_, (((bt ((rd_T100 l0 x12_1).f1) 0) == 110)), (by first | rfl | (simp; done) | (simp [*]; done)), H', ⟨by have := HK1.out; first | omega | exact Nat.le_refl _⟩, ⟨by (with_reducible repeat (first | refine blk_drewN ?_ _ | refine blk_drew ?_ | refine blk_alloc ?_ _)); refine blk_put (cs := #[.bool true, .string (⟨#[]⟩ : ByteArray)]) ?_ 1 _ rfl; (with_reducible repeat (first | refine blk_drewN ?_ _ | refine blk_drew ?_ | refine blk_alloc ?_ _)); refine blk_put (cs := #[.bool false, .string (⟨#[]⟩ : ByteArray)]) ?_ 0 _ rfl; (with_reducible repeat (first | refine blk_drewN ?_ _ | refine blk_drew ?_ | refine blk_alloc ?_ _)); exact BK148.out⟩, ⟨by repeat (first | (with_reducible first | exact HB.out | apply below_alloc | apply pw_below_drewN | apply below_drew1 | refine below_set ?_ GE148.out) | exact HB.out)⟩⟩
                    case rest =>
                      clear HC13
                      try clear c1
                      try clear p1
                      try clear q1
                      try clear hx1
                      try clear c2
                      try clear c2b0
                      try clear p2
                      try clear c3
                      try clear c3b0
                      try clear c4
                      try clear c4b0
                      try clear q5
                      try clear c6
                      try clear p6
                      try clear c7
                      try clear c7b0
                      try clear c7b1
                      try clear p8
                      try clear q8
                      try clear hx8
                      try clear qi8
                      try clear c12
                      try clear c12b0
                      try clear c12b1
                      try clear c14
                      try clear c14b0
                      try clear c14b1
                      try clear p14
                      try clear q14
                      try clear hx14
                      try clear hcz11_0
                      try clear hcz11_1
                      try clear hfz11_0
                      try clear hfz11_1
                      try clear hx147_0
                      try clear hx147_1
                      try clear p147
                      try clear p8
                      try clear q147
                      try clear q8
                      obtain ⟨kq, x28_12, rfl, HA, HJ12, BK148, HB⟩ := hcut
                      cases kq with
                      | zero => exact absurd HA.out (by simp [ephemerisref1_PatternFull.j1])
                      | succ kj12 =>
                        have H := HA.out
                        clear HA
                        simp only [ephemerisref1_PatternFull.j1] at H
                        by_cases c15 : x28_12 = true
                        · subst c15
                          have H1 : (ephemerisref1_PatternFull.j2 kj12 l0 x3_1 (wrap64 (x4_1 + 1)) x5_1 x6_1 x12_1 l0 (l0.length : Int) x12_1) = some r := by rw [if_pos rfl] at H; exact H
                          clear H
                          have H := H1
                          clear H1
                          have H' := Aside0.mk H
                          clear H
                          go_wp2
                          go_meet
                          case rel => exact ⟨_, (x3_1), (wrap64 (x4_1 + 1)), (x5_1), (x6_1), (by first | rfl | (simp; done) | (simp [*]; done)), (by first | rfl | (simp; done) | (simp [*]; done)), (by first | rfl | (simp; done) | (simp [*]; done)), (by first | rfl | (simp; done) | (simp [*]; done)), H', ⟨by have := HK1.out; have := HJ12.out; first | omega | exact Nat.le_refl _⟩, ⟨by (with_reducible repeat (first | refine blk_drewN ?_ _ | refine blk_drew ?_ | refine blk_alloc ?_ _)); exact BK148.out⟩, ⟨by repeat (first | (with_reducible first | exact HB.out | apply below_alloc | apply pw_below_drewN | apply below_drew1 | refine below_set ?_ GE148.out) | exact HB.out)⟩⟩
                        · replace c15 := Bool.eq_false_iff.mpr c15
                          subst c15
                          have H1 : (if (bt ((rd_T100 l0 x12_1).f1) 0) = 100 then (ephemerisref1_PatternFull.j2 kj12 l0 x3_1 x4_1 (wrap64 (x5_1 + 1)) x6_1 x12_1 l0 (l0.length : Int) x12_1) else (ephemerisref1_PatternFull.j2 kj12 l0 x3_1 x4_1 x5_1 (wrap64 (x6_1 + 1)) x12_1 l0 (l0.length : Int) x12_1)) = some r := by rw [if_neg (show ¬ (false = true) by decide)] at H; exact H
                          clear H
                          have H := H1
                          clear H1
                          by_cases c16 : (bt ((rd_T100 l0 x12_1).f1) 0) = 100
                          · rw [if_pos c16] at H
                            have c16b0 : ((bt ((rd_T100 l0 x12_1).f1) 0) == 100) = true := beq_iff_eq.mpr c16
                            have c16b1 : ((bt ((rd_T100 l0 x12_1).f1) 0) != 100) = false := bne_eq_false_iff_eq.mpr c16
                            clear c16
                            have H' := Aside0.mk H
                            clear H
                            go_wp2
                            go_meet
                            case rel => exact ⟨_, (x3_1), (x4_1), (wrap64 (x5_1 + 1)), (x6_1), (by first | rfl | (simp; done) | (simp [*]; done)), (by first | rfl | (simp; done) | (simp [*]; done)), (by first | rfl | (simp; done) | (simp [*]; done)), (by first | rfl | (simp; done) | (simp [*]; done)), H', ⟨by have := HK1.out; have := HJ12.out; first | omega | exact Nat.le_refl _⟩, ⟨by (with_reducible repeat (first | refine blk_drewN ?_ _ | refine blk_drew ?_ | refine blk_alloc ?_ _)); exact BK148.out⟩, ⟨by repeat (first | (with_reducible first | exact HB.out | apply below_alloc | apply pw_below_drewN | apply below_drew1 | refine below_set ?_ GE148.out) | exact HB.out)⟩⟩
                          · rw [if_neg c16] at H
                            have c16b0 : ((bt ((rd_T100 l0 x12_1).f1) 0) == 100) = false := beq_eq_false_iff_ne.mpr c16
                            have c16b1 : ((bt ((rd_T100 l0 x12_1).f1) 0) != 100) = true := bne_iff_ne.mpr c16
                            have H' := Aside0.mk H
                            clear H
                            go_wp2
                            go_meet
                            case rel => exact ⟨_, (x3_1), (x4_1), (x5_1), (wrap64 (x6_1 + 1)), (by first | rfl | (simp; done) | (simp [*]; done)), (by first | rfl | (simp; done) | (simp [*]; done)), (by first | rfl | (simp; done) | (simp [*]; done)), (by first | rfl | (simp; done) | (simp [*]; done)), H', ⟨by have := HK1.out; have := HJ12.out; first | omega | exact Nat.le_refl _⟩, ⟨by (with_reducible repeat (first | refine blk_drewN ?_ _ | refine blk_drew ?_ | refine blk_alloc ?_ _)); exact BK148.out⟩, ⟨by repeat (first | (with_reducible first | exact HB.out | apply below_alloc | apply pw_below_drewN | apply below_drew1 | refine below_set ?_ GE148.out) | exact HB.out)⟩⟩
                case rest =>
                  clear HC9
                  try clear c1
                  try clear p1
                  try clear q1
                  try clear hx1
                  try clear c2
                  try clear c2b0
                  try clear p2
                  try clear c3
                  try clear c3b0
                  try clear c4
                  try clear c4b0
                  try clear q5
                  try clear c6
                  try clear p6
                  try clear c7
                  try clear c7b0
                  try clear c7b1
                  try clear p8
                  try clear q8
                  try clear hx8
                  try clear qi8
                  try clear c12
                  try clear c12b0
                  try clear c12b1
                  try clear c14
                  try clear c14b0
                  try clear c14b1
                  try clear p14
                  try clear q14
                  try clear hx14
                  try clear c15
                  try clear c16
                  try clear c16b0
                  try clear c16b1
                  try clear hcz11_0
                  try clear hcz11_1
                  try clear hfz11_0
                  try clear hfz11_1
                  try clear hx147_0
                  try clear hx147_1
                  try clear p1
                  try clear p14
                  try clear p147
                  try clear p2
                  try clear p6
                  try clear p8
                  try clear q1
                  try clear q14
                  try clear q147
                  try clear q5
                  try clear q8
                  obtain ⟨kq, x3_8, x4_8, x5_8, x6_8, rfl, rfl, rfl, rfl, HA, HJ8, BK148, HB⟩ := hcut
                  cases kq with
                  | zero => exact absurd HA.out (by simp [ephemerisref1_PatternFull.j2])
                  | succ kj8 =>
                    have H := HA.out
                    clear HA
                    simp only [ephemerisref1_PatternFull.j2] at H
                    have HC17 := Aside0.mk H
                    clear H
                    go_upto_region 15 with (fail)
                    go_cut [46] (fun v46 wc => ∃ (kq : Nat) (x46_16 : Bool), v46 = .bool x46_16 ∧ Aside0 (ephemerisref1_PatternFull.j3 kq l0 x3_8 x4_8 x5_8 x6_8 l0 (l0.length : Int) x12_1 x46_16 = some r) ∧ Aside0 (kq ≤ kj8) ∧ Aside0 (wc.heap[gb148]? = some (.cells #[.bool true, .string ((rd_T100 l0 x12_1).f1)] 100 (0, 0))) ∧ Aside0 (Below w.heap.size w wc))
                    case first =>
                      have H := HC17.out
                      clear HC17
                      by_cases c18 : x12_1 > 0
                      · rw [if_pos c18] at H
                        have c18b0 : decide (0 < x12_1) = true := decide_eq_true c18
                        clear c18
                        (first | rw [c18b0] | (simp only [i64_w, i32_w]; rw [c18b0]) | skip)
                        obtain ⟨ji19, hji19⟩ : ∃ j_ : Int, (wrap64 (x12_1 - 1)) = j_ := ⟨_, rfl⟩
                        replace H : (if 0 ≤ (ji19) then (if (ji19) < (l0.length : Int) then (ephemerisref1_PatternFull.j3 kj8 l0 x3_8 x4_8 x5_8 x6_8 l0 (l0.length : Int) x12_1 ((rd_T100 l0 (ji19)).f0)) else (none)) else (none)) = some r := by first | (rw [hji19] at H; exact H) | (simp only [hji19] at H ⊢; exact H)
                        have hji19w : (IntKind.i64.wrap (x12_1 - 1)) = ji19 := (i64_w _).trans hji19
                        by_cases c20 : 0 ≤ (ji19)
                        · rw [if_pos c20] at H
                          have c20b0 : decide (0 ≤ (ji19)) = true := decide_eq_true c20
                          clear c20
                          by_cases c21 : (ji19) < (l0.length : Int)
                          · rw [if_pos c21] at H
                            have c21b0 : decide ((ji19) < (l0.length : Int)) = true := decide_eq_true c21
                            clear c21
                            have H' := Aside0.mk H
                            clear H
                            have p149 : 0 ≤ ((ji19) : Int) := of_decide_eq_true (by first | (with_reducible assumption) | assumption)
                            have q149 : (ji19) < (l0.length : Int) := of_decide_eq_true (by first | (with_reducible assumption) | assumption)
                            obtain ⟨ad149, e149, hx149_0, hx149_1⟩ := at_T100 HR0.out (ji19) p149 q149
                            (try rw [← Nbq5.out] at hx149_0)
                            obtain rfl : ad147 = ad149 := (by injection e149)
                            replace hx149_0 := (HB.out.cell (World.block_lt_of_cell? w _ hx149_0)).trans hx149_0
                            replace hx149_1 := (HB.out.cell (World.block_lt_of_cell? w _ hx149_1)).trans hx149_1
                            replace p149 := eq_true p149
                            replace q149 := eq_true q149
                            go_wp2
                            go_meet
                            case rel => exact ⟨_, ((rd_T100 l0 (ji19)).f0), (by first | rfl | (simp; done) | (simp only [← hji19] <;> (first | rfl | simp)) | (simp [*]; done)), H', ⟨by have := HK1.out; have := HJ8.out; first | omega | exact Nat.le_refl _⟩, ⟨by (with_reducible repeat (first | refine blk_drewN ?_ _ | refine blk_drew ?_ | refine blk_alloc ?_ _)); exact BK148.out⟩, ⟨by repeat (first | (with_reducible first | exact HB.out | apply below_alloc | apply pw_below_drewN | apply below_drew1 | refine below_set ?_ GE148.out) | exact HB.out)⟩⟩
                          · rw [if_neg c21] at H
                            exact absurd H (by simp)
                        · rw [if_neg c20] at H
                          exact absurd H (by simp)
                      · rw [if_neg c18] at H
                        have c18b0 : decide (0 < x12_1) = false := decide_eq_false c18
                        clear c18
                        (first | rw [c18b0] | (simp only [i64_w, i32_w]; rw [c18b0]) | skip)
                        have H' := Aside0.mk H
                        clear H
                        go_wp2
                        go_meet
                        case rel => exact ⟨_, (false), (by first | rfl | (simp; done) | (simp [*]; done)), H', ⟨by have := HK1.out; have := HJ8.out; first | omega | exact Nat.le_refl _⟩, ⟨by (with_reducible repeat (first | refine blk_drewN ?_ _ | refine blk_drew ?_ | refine blk_alloc ?_ _)); exact BK148.out⟩, ⟨by repeat (first | (with_reducible first | exact HB.out | apply below_alloc | apply pw_below_drewN | apply below_drew1 | refine below_set ?_ GE148.out) | exact HB.out)⟩⟩
                    case rest =>
                      clear HC17
                      try clear c1
                      try clear p1
                      try clear q1
                      try clear hx1
                      try clear c2
                      try clear c2b0
                      try clear p2
                      try clear c3
                      try clear c3b0
                      try clear c4
                      try clear c4b0
                      try clear q5
                      try clear c6
                      try clear p6
                      try clear c7
                      try clear c7b0
                      try clear c7b1
                      try clear p8
                      try clear q8
                      try clear hx8
                      try clear qi8
                      try clear c12
                      try clear c12b0
                      try clear c12b1
                      try clear c14
                      try clear c14b0
                      try clear c14b1
                      try clear p14
                      try clear q14
                      try clear hx14
                      try clear c15
                      try clear c16
                      try clear c16b0
                      try clear c16b1
                      try clear c18
                      try clear c18b0
                      try clear c20
                      try clear c20b0
                      try clear c21
                      try clear c21b0
                      try clear hcz11_0
                      try clear hcz11_1
                      try clear hfz11_0
                      try clear hfz11_1
                      try clear hx147_0
                      try clear hx147_1
                      try clear hx149_0
                      try clear hx149_1
                      try clear p1
                      try clear p14
                      try clear p147
                      try clear p149
                      try clear p2
                      try clear p6
                      try clear p8
                      try clear q1
                      try clear q14
                      try clear q147
                      try clear q149
                      try clear q5
                      try clear q8
                      obtain ⟨kq, x46_16, rfl, HA, HJ16, BK148, HB⟩ := hcut
                      cases kq with
                      | zero => exact absurd HA.out (by simp [ephemerisref1_PatternFull.j3])
                      | succ kj16 =>
                        have H := HA.out
                        clear HA
                        simp only [ephemerisref1_PatternFull.j3] at H
                        by_cases c22 : x46_16 = true
                        · subst c22
                          have H1 : (some false) = some r := by rw [if_pos rfl] at H; exact H
                          clear H
                          have H := H1
                          clear H1
                          obtain rfl := Option.some.inj H
                          go_wp2
                          go_ret
                          exact ⟨by first | rfl | (simp [errW_none, errW_some] <;> rfl) | (simp [*, errW_none, errW_some] <;> rfl), by repeat (first | (with_reducible first | exact HB.out | apply below_alloc | apply pw_below_drewN | apply below_drew1 | refine below_set ?_ GE148.out) | exact HB.out)⟩
                        · replace c22 := Bool.eq_false_iff.mpr c22
                          subst c22
                          have H1 : (ephemerisref1_PatternFull.l0 kj16 l0 x3_8 x4_8 x5_8 x6_8 l0 (l0.length : Int) (wrap64 (x12_1 + 1))) = some r := by rw [if_neg (show ¬ (false = true) by decide)] at H; exact H
                          clear H
                          have H := H1
                          clear H1
                          have H' := Aside0.mk H
                          clear H
                          go_wp2
                          go_roundg kj16
                          case measure => have := HK1.out; have := HJ8.out; have := HJ16.out; omega
                          case rel => exact ⟨(x3_8), (x4_8), (x5_8), (x6_8), (wrap64 (x12_1 + 1)), (by first | rfl | (simp; done) | (simp [*]; done)), (by first | rfl | (simp; done) | (simp [*]; done)), (by first | rfl | (simp; done) | (simp [*]; done)), (by first | rfl | (simp; done) | (simp [*]; done)), (by first | rfl | (simp; done) | (simp [*]; done)), H', ⟨by have := HK1.out; have := HJ8.out; have := HJ16.out; omega⟩, ⟨by repeat (first | (with_reducible first | exact HB.out | apply below_alloc | apply pw_below_drewN | apply below_drew1 | refine below_set ?_ GE148.out) | exact HB.out)⟩⟩
              · rw [if_neg c7] at H
                exact absurd H (by simp)
            · replace c6 := Bool.eq_false_iff.mpr c6
              subst c6
              have H1 : (if 0 < (((rd_T100 l0 x12_1).f1).size : Int) then (if x12_1 > 0 then (if (bt ((rd_T100 l0 x12_1).f1) 0) = 45 then (some false) else (if (bt ((rd_T100 l0 x12_1).f1) 0) > 127 then (some false) else ((strings_IndexByte.f (⟨#[97, 98, 99, 100, 101, 102, 103, 104, 105, 106, 107, 108, 109, 110, 111, 112, 113, 114, 115, 116, 117, 118, 119, 120, 121, 122, 65, 66, 67, 68, 69, 70, 71, 72, 73, 74, 75, 76, 77, 78, 79, 80, 81, 82, 83, 84, 85, 86, 87, 88, 89, 90, 48, 49, 50, 51, 52, 53, 54, 55, 56, 57]⟩ : ByteArray) (bt ((rd_T100 l0 x12_1).f1) 0)).bind fun t150 => (if t150 ≥ 0 then (some false) else (ephemerisref1_PatternFull.l0 k1 l0 x3_1 x4_1 x5_1 x6_1 l0 (l0.length : Int) (wrap64 (x12_1 + 1))))))) else (ephemerisref1_PatternFull.l0 k1 l0 x3_1 x4_1 x5_1 x6_1 l0 (l0.length : Int) (wrap64 (x12_1 + 1)))) else (none)) = some r := by rw [if_neg (show ¬ (false = true) by decide)] at H; exact H
              clear H
              have H := H1
              clear H1
              by_cases c23 : 0 < (((rd_T100 l0 x12_1).f1).size : Int)
              · rw [if_pos c23] at H
                have c23b0 : decide (0 < (((rd_T100 l0 x12_1).f1).size : Int)) = true := decide_eq_true c23
                have c23b1 : decide (0 < ((rd_T100 l0 x12_1).f1).size) = true := decide_eq_true (by omega)
                clear c23
                by_cases c25 : x12_1 > 0
                · rw [if_pos c25] at H
                  have c25b0 : decide (0 < x12_1) = true := decide_eq_true c25
                  clear c25
                  by_cases c26 : (bt ((rd_T100 l0 x12_1).f1) 0) = 45
                  · rw [if_pos c26] at H
                    have c26b0 : ((bt ((rd_T100 l0 x12_1).f1) 0) == 45) = true := beq_iff_eq.mpr c26
                    have c26b1 : ((bt ((rd_T100 l0 x12_1).f1) 0) != 45) = false := bne_eq_false_iff_eq.mpr c26
                    clear c26
                    obtain rfl := Option.some.inj H
                    have p147 : 0 ≤ (x12_1 : Int) := of_decide_eq_true (by first | (with_reducible assumption) | assumption)
                    have q147 : x12_1 < (l0.length : Int) := of_decide_eq_true (by first | (with_reducible assumption) | assumption)
                    obtain ⟨ad147, e147, hx147_0, hx147_1⟩ := at_T100 HR0.out x12_1 p147 q147
                    (try rw [← Nbq5.out] at hx147_0)
                    cases e147
                    replace hx147_0 := (HB.out.cell (World.block_lt_of_cell? w _ hx147_0)).trans hx147_0
                    replace hx147_1 := (HB.out.cell (World.block_lt_of_cell? w _ hx147_1)).trans hx147_1
                    replace p147 := eq_true p147
                    replace q147 := eq_true q147
                    go_wp2_with (first | ((with_reducible refine gate_dst (N := 8) rfl ?_); refine box_event ?hg (N := 8) ?hd (cs := #[.bool false, .string (⟨#[]⟩ : ByteArray)]) (t := 100) ?hr ?_; (case hd => rfl); (case hg => rfl); (case hr => first | (go_simp; done) | (go_simp; rfl)); intro gb148 hg w27 hbox hb; have n0_ := Aside0.mk (below_step (by repeat (first | (with_reducible first | exact HB.out | apply below_alloc | apply pw_below_drewN | apply below_drew1) | exact HB.out)) hb); have n1_ := Aside0.mk (hbox); have n2_ := Aside0.mk ((by rw [hg]; exact (below_size (by repeat (first | (with_reducible first | exact HB.out | apply below_alloc | apply pw_below_drewN | apply below_drew1) | exact HB.out))) : w.heap.size ≤ gb148)); have n3_ := Aside0.mk ((by rw [hg]; exact (below_size (by repeat (first | (with_reducible first | exact HB.out | apply below_alloc | apply pw_below_drewN | apply below_drew1) | exact HB.out))) : w.heap.size ≤ gb148)); clear HB; have HB := n0_; have BK148 := n1_; have GW148 := n2_; have GE148 := n3_; clear n0_ n1_ n2_ n3_; clear hb hbox hg; have hcz28_0 : w27.cell? ⟨gb148, 0, none⟩ = some (.bool false) := (blk_cell BK148.out 0).trans rfl; have hcz28_1 : w27.cell? ⟨gb148, 1, none⟩ = some (.string (⟨#[]⟩ : ByteArray)) := (blk_cell BK148.out 1).trans rfl; have hfz28_0 := blk_frozen BK148.out 0; have hfz28_1 := blk_frozen BK148.out 1; have p24 : 0 ≤ (0 : Int) := (by omega); have q24 : 0 < ((rd_T100 l0 x12_1).f1).size := (by have : (0 : Int) < (((rd_T100 l0 x12_1).f1).size : Int) := of_decide_eq_true (by first | (with_reducible assumption) | assumption); omega); have hx24 : ∀ h : 0 < ((rd_T100 l0 x12_1).f1).size, ((((rd_T100 l0 x12_1).f1)[0]'h).toNat : Int) = bt ((rd_T100 l0 x12_1).f1) 0 := bt_at ((rd_T100 l0 x12_1).f1) 0; clear p24; have qi24 : (0 < (((rd_T100 l0 x12_1).f1).size : Int)) = True := eq_true (of_decide_eq_true (by first | (with_reducible assumption) | assumption)); replace q24 := eq_true q24))
                    go_ret
                    exact ⟨by first | rfl | (simp [errW_none, errW_some] <;> rfl) | (simp [*, errW_none, errW_some] <;> rfl), by repeat (first | (with_reducible first | exact HB.out | apply below_alloc | apply pw_below_drewN | apply below_drew1 | refine below_set ?_ GE148.out) | exact HB.out)⟩
                  · rw [if_neg c26] at H
                    have c26b0 : ((bt ((rd_T100 l0 x12_1).f1) 0) == 45) = false := beq_eq_false_iff_ne.mpr c26
                    have c26b1 : ((bt ((rd_T100 l0 x12_1).f1) 0) != 45) = true := bne_iff_ne.mpr c26
                    by_cases c29 : (bt ((rd_T100 l0 x12_1).f1) 0) > 127
                    · rw [if_pos c29] at H
                      have c29b0 : decide (127 < (bt ((rd_T100 l0 x12_1).f1) 0)) = true := decide_eq_true c29
                      clear c29
                      obtain rfl := Option.some.inj H
                      have p147 : 0 ≤ (x12_1 : Int) := of_decide_eq_true (by first | (with_reducible assumption) | assumption)
                      have q147 : x12_1 < (l0.length : Int) := of_decide_eq_true (by first | (with_reducible assumption) | assumption)
                      obtain ⟨ad147, e147, hx147_0, hx147_1⟩ := at_T100 HR0.out x12_1 p147 q147
                      (try rw [← Nbq5.out] at hx147_0)
                      cases e147
                      replace hx147_0 := (HB.out.cell (World.block_lt_of_cell? w _ hx147_0)).trans hx147_0
                      replace hx147_1 := (HB.out.cell (World.block_lt_of_cell? w _ hx147_1)).trans hx147_1
                      replace p147 := eq_true p147
                      replace q147 := eq_true q147
                      go_wp2_with (first | ((with_reducible refine gate_dst (N := 8) rfl ?_); refine box_event ?hg (N := 8) ?hd (cs := #[.bool false, .string (⟨#[]⟩ : ByteArray)]) (t := 100) ?hr ?_; (case hd => rfl); (case hg => rfl); (case hr => first | (go_simp; done) | (go_simp; rfl)); intro gb148 hg w30 hbox hb; have n0_ := Aside0.mk (below_step (by repeat (first | (with_reducible first | exact HB.out | apply below_alloc | apply pw_below_drewN | apply below_drew1) | exact HB.out)) hb); have n1_ := Aside0.mk (hbox); have n2_ := Aside0.mk ((by rw [hg]; exact (below_size (by repeat (first | (with_reducible first | exact HB.out | apply below_alloc | apply pw_below_drewN | apply below_drew1) | exact HB.out))) : w.heap.size ≤ gb148)); have n3_ := Aside0.mk ((by rw [hg]; exact (below_size (by repeat (first | (with_reducible first | exact HB.out | apply below_alloc | apply pw_below_drewN | apply below_drew1) | exact HB.out))) : w.heap.size ≤ gb148)); clear HB; have HB := n0_; have BK148 := n1_; have GW148 := n2_; have GE148 := n3_; clear n0_ n1_ n2_ n3_; clear hb hbox hg; have hcz31_0 : w30.cell? ⟨gb148, 0, none⟩ = some (.bool false) := (blk_cell BK148.out 0).trans rfl; have hcz31_1 : w30.cell? ⟨gb148, 1, none⟩ = some (.string (⟨#[]⟩ : ByteArray)) := (blk_cell BK148.out 1).trans rfl; have hfz31_0 := blk_frozen BK148.out 0; have hfz31_1 := blk_frozen BK148.out 1; have p24 : 0 ≤ (0 : Int) := (by omega); have q24 : 0 < ((rd_T100 l0 x12_1).f1).size := (by have : (0 : Int) < (((rd_T100 l0 x12_1).f1).size : Int) := of_decide_eq_true (by first | (with_reducible assumption) | assumption); omega); have hx24 : ∀ h : 0 < ((rd_T100 l0 x12_1).f1).size, ((((rd_T100 l0 x12_1).f1)[0]'h).toNat : Int) = bt ((rd_T100 l0 x12_1).f1) 0 := bt_at ((rd_T100 l0 x12_1).f1) 0; clear p24; have qi24 : (0 < (((rd_T100 l0 x12_1).f1).size : Int)) = True := eq_true (of_decide_eq_true (by first | (with_reducible assumption) | assumption)); replace q24 := eq_true q24))
                      go_ret
                      exact ⟨by first | rfl | (simp [errW_none, errW_some] <;> rfl) | (simp [*, errW_none, errW_some] <;> rfl), by repeat (first | (with_reducible first | exact HB.out | apply below_alloc | apply pw_below_drewN | apply below_drew1 | refine below_set ?_ GE148.out) | exact HB.out)⟩
                    · rw [if_neg c29] at H
                      have c29b0 : decide (127 < (bt ((rd_T100 l0 x12_1).f1) 0)) = false := decide_eq_false c29
                      clear c29
                      replace H := Option.bind_eq_some_iff.mp H
                      obtain ⟨t150, A320, H⟩ := H
                      replace H : (if t150 ≥ 0 then (some false) else (ephemerisref1_PatternFull.l0 k1 l0 x3_1 x4_1 x5_1 x6_1 l0 (l0.length : Int) (wrap64 (x12_1 + 1)))) = some r := H
                      have A32 := Aside0.mk A320
                      clear A320
                      by_cases c33 : t150 ≥ 0
                      · rw [if_pos c33] at H
                        have c33b0 : decide (0 ≤ t150) = true := decide_eq_true c33
                        clear c33
                        obtain rfl := Option.some.inj H
                        have p147 : 0 ≤ (x12_1 : Int) := of_decide_eq_true (by first | (with_reducible assumption) | assumption)
                        have q147 : x12_1 < (l0.length : Int) := of_decide_eq_true (by first | (with_reducible assumption) | assumption)
                        obtain ⟨ad147, e147, hx147_0, hx147_1⟩ := at_T100 HR0.out x12_1 p147 q147
                        (try rw [← Nbq5.out] at hx147_0)
                        cases e147
                        replace hx147_0 := (HB.out.cell (World.block_lt_of_cell? w _ hx147_0)).trans hx147_0
                        replace hx147_1 := (HB.out.cell (World.block_lt_of_cell? w _ hx147_1)).trans hx147_1
                        replace p147 := eq_true p147
                        replace q147 := eq_true q147
                        go_wp2_with (first | ((with_reducible refine gate_dst (N := 8) rfl ?_); refine box_event ?hg (N := 8) ?hd (cs := #[.bool false, .string (⟨#[]⟩ : ByteArray)]) (t := 100) ?hr ?_; (case hd => rfl); (case hg => rfl); (case hr => first | (go_simp; done) | (go_simp; rfl)); intro gb148 hg w34 hbox hb; have n0_ := Aside0.mk (below_step (by repeat (first | (with_reducible first | exact HB.out | apply below_alloc | apply pw_below_drewN | apply below_drew1) | exact HB.out)) hb); have n1_ := Aside0.mk (hbox); have n2_ := Aside0.mk ((by rw [hg]; exact (below_size (by repeat (first | (with_reducible first | exact HB.out | apply below_alloc | apply pw_below_drewN | apply below_drew1) | exact HB.out))) : w.heap.size ≤ gb148)); have n3_ := Aside0.mk ((by rw [hg]; exact (below_size (by repeat (first | (with_reducible first | exact HB.out | apply below_alloc | apply pw_below_drewN | apply below_drew1) | exact HB.out))) : w.heap.size ≤ gb148)); clear HB; have HB := n0_; have BK148 := n1_; have GW148 := n2_; have GE148 := n3_; clear n0_ n1_ n2_ n3_; clear hb hbox hg; have hcz35_0 : w34.cell? ⟨gb148, 0, none⟩ = some (.bool false) := (blk_cell BK148.out 0).trans rfl; have hcz35_1 : w34.cell? ⟨gb148, 1, none⟩ = some (.string (⟨#[]⟩ : ByteArray)) := (blk_cell BK148.out 1).trans rfl; have hfz35_0 := blk_frozen BK148.out 0; have hfz35_1 := blk_frozen BK148.out 1; have p24 : 0 ≤ (0 : Int) := (by omega); have q24 : 0 < ((rd_T100 l0 x12_1).f1).size := (by have : (0 : Int) < (((rd_T100 l0 x12_1).f1).size : Int) := of_decide_eq_true (by first | (with_reducible assumption) | assumption); omega); have hx24 : ∀ h : 0 < ((rd_T100 l0 x12_1).f1).size, ((((rd_T100 l0 x12_1).f1)[0]'h).toNat : Int) = bt ((rd_T100 l0 x12_1).f1) 0 := bt_at ((rd_T100 l0 x12_1).f1) 0; clear p24; have qi24 : (0 < (((rd_T100 l0 x12_1).f1).size : Int)) = True := eq_true (of_decide_eq_true (by first | (with_reducible assumption) | assumption)); replace q24 := eq_true q24) | (go_at_call 48; (with_reducible refine (strings_IndexByte.calls (⟨#[97, 98, 99, 100, 101, 102, 103, 104, 105, 106, 107, 108, 109, 110, 111, 112, 113, 114, 115, 116, 117, 118, 119, 120, 121, 122, 65, 66, 67, 68, 69, 70, 71, 72, 73, 74, 75, 76, 77, 78, 79, 80, 81, 82, 83, 84, 85, 86, 87, 88, 89, 90, 48, 49, 50, 51, 52, 53, 54, 55, 56, 57]⟩ : ByteArray) (bt ((rd_T100 l0 x12_1).f1) 0) t150 _ A32.out).mono ?_); rintro e w' ⟨rfl, ⟨nd, rfl⟩⟩))
                        go_ret
                        exact ⟨by first | rfl | (simp [errW_none, errW_some] <;> rfl) | (simp [*, errW_none, errW_some] <;> rfl), by repeat (first | (with_reducible first | exact HB.out | apply below_alloc | apply pw_below_drewN | apply below_drew1 | refine below_set ?_ GE148.out) | exact HB.out)⟩
                      · rw [if_neg c33] at H
                        have c33b0 : decide (0 ≤ t150) = false := decide_eq_false c33
                        clear c33
                        have H' := Aside0.mk H
                        clear H
                        have p147 : 0 ≤ (x12_1 : Int) := of_decide_eq_true (by first | (with_reducible assumption) | assumption)
                        have q147 : x12_1 < (l0.length : Int) := of_decide_eq_true (by first | (with_reducible assumption) | assumption)
                        obtain ⟨ad147, e147, hx147_0, hx147_1⟩ := at_T100 HR0.out x12_1 p147 q147
                        (try rw [← Nbq5.out] at hx147_0)
                        cases e147
                        replace hx147_0 := (HB.out.cell (World.block_lt_of_cell? w _ hx147_0)).trans hx147_0
                        replace hx147_1 := (HB.out.cell (World.block_lt_of_cell? w _ hx147_1)).trans hx147_1
                        replace p147 := eq_true p147
                        replace q147 := eq_true q147
                        go_wp2_with (first | ((with_reducible refine gate_dst (N := 8) rfl ?_); refine box_event ?hg (N := 8) ?hd (cs := #[.bool false, .string (⟨#[]⟩ : ByteArray)]) (t := 100) ?hr ?_; (case hd => rfl); (case hg => rfl); (case hr => first | (go_simp; done) | (go_simp; rfl)); intro gb148 hg w36 hbox hb; have n0_ := Aside0.mk (below_step (by repeat (first | (with_reducible first | exact HB.out | apply below_alloc | apply pw_below_drewN | apply below_drew1) | exact HB.out)) hb); have n1_ := Aside0.mk (hbox); have n2_ := Aside0.mk ((by rw [hg]; exact (below_size (by repeat (first | (with_reducible first | exact HB.out | apply below_alloc | apply pw_below_drewN | apply below_drew1) | exact HB.out))) : w.heap.size ≤ gb148)); have n3_ := Aside0.mk ((by rw [hg]; exact (below_size (by repeat (first | (with_reducible first | exact HB.out | apply below_alloc | apply pw_below_drewN | apply below_drew1) | exact HB.out))) : w.heap.size ≤ gb148)); clear HB; have HB := n0_; have BK148 := n1_; have GW148 := n2_; have GE148 := n3_; clear n0_ n1_ n2_ n3_; clear hb hbox hg; have hcz37_0 : w36.cell? ⟨gb148, 0, none⟩ = some (.bool false) := (blk_cell BK148.out 0).trans rfl; have hcz37_1 : w36.cell? ⟨gb148, 1, none⟩ = some (.string (⟨#[]⟩ : ByteArray)) := (blk_cell BK148.out 1).trans rfl; have hfz37_0 := blk_frozen BK148.out 0; have hfz37_1 := blk_frozen BK148.out 1; have p24 : 0 ≤ (0 : Int) := (by omega); have q24 : 0 < ((rd_T100 l0 x12_1).f1).size := (by have : (0 : Int) < (((rd_T100 l0 x12_1).f1).size : Int) := of_decide_eq_true (by first | (with_reducible assumption) | assumption); omega); have hx24 : ∀ h : 0 < ((rd_T100 l0 x12_1).f1).size, ((((rd_T100 l0 x12_1).f1)[0]'h).toNat : Int) = bt ((rd_T100 l0 x12_1).f1) 0 := bt_at ((rd_T100 l0 x12_1).f1) 0; clear p24; have qi24 : (0 < (((rd_T100 l0 x12_1).f1).size : Int)) = True := eq_true (of_decide_eq_true (by first | (with_reducible assumption) | assumption)); replace q24 := eq_true q24) | (go_at_call 48; (with_reducible refine (strings_IndexByte.calls (⟨#[97, 98, 99, 100, 101, 102, 103, 104, 105, 106, 107, 108, 109, 110, 111, 112, 113, 114, 115, 116, 117, 118, 119, 120, 121, 122, 65, 66, 67, 68, 69, 70, 71, 72, 73, 74, 75, 76, 77, 78, 79, 80, 81, 82, 83, 84, 85, 86, 87, 88, 89, 90, 48, 49, 50, 51, 52, 53, 54, 55, 56, 57]⟩ : ByteArray) (bt ((rd_T100 l0 x12_1).f1) 0) t150 _ A32.out).mono ?_); rintro e w' ⟨rfl, ⟨nd, rfl⟩⟩))
                        go_roundg k1
                        case measure => have := HK1.out; omega
                        case rel => exact ⟨(x3_1), (x4_1), (x5_1), (x6_1), (wrap64 (x12_1 + 1)), (by first | rfl | (simp; done) | (simp [*]; done)), (by first | rfl | (simp; done) | (simp [*]; done)), (by first | rfl | (simp; done) | (simp [*]; done)), (by first | rfl | (simp; done) | (simp [*]; done)), (by first | rfl | (simp; done) | (simp [*]; done)), H', ⟨by have := HK1.out; omega⟩, ⟨by repeat (first | (with_reducible first | exact HB.out | apply below_alloc | apply pw_below_drewN | apply below_drew1 | refine below_set ?_ GE148.out) | exact HB.out)⟩⟩
                · rw [if_neg c25] at H
                  have c25b0 : decide (0 < x12_1) = false := decide_eq_false c25
                  clear c25
                  have H' := Aside0.mk H
                  clear H
                  have p147 : 0 ≤ (x12_1 : Int) := of_decide_eq_true (by first | (with_reducible assumption) | assumption)
                  have q147 : x12_1 < (l0.length : Int) := of_decide_eq_true (by first | (with_reducible assumption) | assumption)
                  obtain ⟨ad147, e147, hx147_0, hx147_1⟩ := at_T100 HR0.out x12_1 p147 q147
                  (try rw [← Nbq5.out] at hx147_0)
                  cases e147
                  replace hx147_0 := (HB.out.cell (World.block_lt_of_cell? w _ hx147_0)).trans hx147_0
                  replace hx147_1 := (HB.out.cell (World.block_lt_of_cell? w _ hx147_1)).trans hx147_1
                  replace p147 := eq_true p147
                  replace q147 := eq_true q147
                  go_wp2_with (first | ((with_reducible refine gate_dst (N := 8) rfl ?_); refine box_event ?hg (N := 8) ?hd (cs := #[.bool false, .string (⟨#[]⟩ : ByteArray)]) (t := 100) ?hr ?_; (case hd => rfl); (case hg => rfl); (case hr => first | (go_simp; done) | (go_simp; rfl)); intro gb148 hg w38 hbox hb; have n0_ := Aside0.mk (below_step (by repeat (first | (with_reducible first | exact HB.out | apply below_alloc | apply pw_below_drewN | apply below_drew1) | exact HB.out)) hb); have n1_ := Aside0.mk (hbox); have n2_ := Aside0.mk ((by rw [hg]; exact (below_size (by repeat (first | (with_reducible first | exact HB.out | apply below_alloc | apply pw_below_drewN | apply below_drew1) | exact HB.out))) : w.heap.size ≤ gb148)); have n3_ := Aside0.mk ((by rw [hg]; exact (below_size (by repeat (first | (with_reducible first | exact HB.out | apply below_alloc | apply pw_below_drewN | apply below_drew1) | exact HB.out))) : w.heap.size ≤ gb148)); clear HB; have HB := n0_; have BK148 := n1_; have GW148 := n2_; have GE148 := n3_; clear n0_ n1_ n2_ n3_; clear hb hbox hg; have hcz39_0 : w38.cell? ⟨gb148, 0, none⟩ = some (.bool false) := (blk_cell BK148.out 0).trans rfl; have hcz39_1 : w38.cell? ⟨gb148, 1, none⟩ = some (.string (⟨#[]⟩ : ByteArray)) := (blk_cell BK148.out 1).trans rfl; have hfz39_0 := blk_frozen BK148.out 0; have hfz39_1 := blk_frozen BK148.out 1; have p24 : 0 ≤ (0 : Int) := (by omega); have q24 : 0 < ((rd_T100 l0 x12_1).f1).size := (by have : (0 : Int) < (((rd_T100 l0 x12_1).f1).size : Int) := of_decide_eq_true (by first | (with_reducible assumption) | assumption); omega); have hx24 : ∀ h : 0 < ((rd_T100 l0 x12_1).f1).size, ((((rd_T100 l0 x12_1).f1)[0]'h).toNat : Int) = bt ((rd_T100 l0 x12_1).f1) 0 := bt_at ((rd_T100 l0 x12_1).f1) 0; clear p24; have qi24 : (0 < (((rd_T100 l0 x12_1).f1).size : Int)) = True := eq_true (of_decide_eq_true (by first | (with_reducible assumption) | assumption)); replace q24 := eq_true q24))
                  go_roundg k1
                  case measure => have := HK1.out; omega
                  case rel => exact ⟨(x3_1), (x4_1), (x5_1), (x6_1), (wrap64 (x12_1 + 1)), (by first | rfl | (simp; done) | (simp [*]; done)), (by first | rfl | (simp; done) | (simp [*]; done)), (by first | rfl | (simp; done) | (simp [*]; done)), (by first | rfl | (simp; done) | (simp [*]; done)), (by first | rfl | (simp; done) | (simp [*]; done)), H', ⟨by have := HK1.out; omega⟩, ⟨by repeat (first | (with_reducible first | exact HB.out | apply below_alloc | apply pw_below_drewN | apply below_drew1 | refine below_set ?_ GE148.out) | exact HB.out)⟩⟩
              · rw [if_neg c23] at H
                exact absurd H (by simp)
          · rw [if_neg c4] at H
            exact absurd H (by simp)
        · rw [if_neg c3] at H
          exact absurd H (by simp)
      · rw [if_neg c2] at H
        have c2b0 : decide (x12_1 < (l0.length : Int)) = false := decide_eq_false c2
        clear c2
        by_cases c40 : x3_1 = 1
        · rw [if_pos c40] at H
          have c40b0 : (x3_1 == 1) = true := beq_iff_eq.mpr c40
          have c40b1 : (x3_1 != 1) = false := bne_eq_false_iff_eq.mpr c40
          clear c40
          by_cases c41 : x4_1 = 1
          · rw [if_pos c41] at H
            have c41b0 : (x4_1 == 1) = true := beq_iff_eq.mpr c41
            have c41b1 : (x4_1 != 1) = false := bne_eq_false_iff_eq.mpr c41
            clear c41
            by_cases c42 : x5_1 = 1
            · rw [if_pos c42] at H
              have c42b0 : (x5_1 == 1) = true := beq_iff_eq.mpr c42
              have c42b1 : (x5_1 != 1) = false := bne_eq_false_iff_eq.mpr c42
              clear c42
              obtain rfl := Option.some.inj H
              go_wp2
              go_ret
              exact ⟨by first | rfl | (simp [errW_none, errW_some] <;> rfl) | (simp [*, errW_none, errW_some] <;> rfl), by repeat (first | (with_reducible first | exact HB.out | apply below_alloc | apply pw_below_drewN | apply below_drew1) | exact HB.out)⟩
            · rw [if_neg c42] at H
              have c42b0 : (x5_1 == 1) = false := beq_eq_false_iff_ne.mpr c42
              have c42b1 : (x5_1 != 1) = true := bne_iff_ne.mpr c42
              obtain rfl := Option.some.inj H
              go_wp2
              go_ret
              exact ⟨by first | rfl | (simp [errW_none, errW_some] <;> rfl) | (simp [*, errW_none, errW_some] <;> rfl), by repeat (first | (with_reducible first | exact HB.out | apply below_alloc | apply pw_below_drewN | apply below_drew1) | exact HB.out)⟩
          · rw [if_neg c41] at H
            have c41b0 : (x4_1 == 1) = false := beq_eq_false_iff_ne.mpr c41
            have c41b1 : (x4_1 != 1) = true := bne_iff_ne.mpr c41
            obtain rfl := Option.some.inj H
            go_wp2
            go_ret
            exact ⟨by first | rfl | (simp [errW_none, errW_some] <;> rfl) | (simp [*, errW_none, errW_some] <;> rfl), by repeat (first | (with_reducible first | exact HB.out | apply below_alloc | apply pw_below_drewN | apply below_drew1) | exact HB.out)⟩
        · rw [if_neg c40] at H
          have c40b0 : (x3_1 == 1) = false := beq_eq_false_iff_ne.mpr c40
          have c40b1 : (x3_1 != 1) = true := bne_iff_ne.mpr c40
          obtain rfl := Option.some.inj H
          go_wp2
          go_ret
          exact ⟨by first | rfl | (simp [errW_none, errW_some] <;> rfl) | (simp [*, errW_none, errW_some] <;> rfl), by repeat (first | (with_reducible first | exact HB.out | apply below_alloc | apply pw_below_drewN | apply below_drew1) | exact HB.out)⟩

end Go.Proofs.YtcmanidhilkhnaaDoor.PPatternChecks
