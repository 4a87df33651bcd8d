/- The walks of the functions of this part, laid closer by a program of mine. -/
-- The walks of the law's functions, told by a program.
import Derived.Test.YtolhlaadhfilnaaDoorY
import Derived.Test.YtolhlaadhfilnaaDoorPForecastExtendsx0
import Derived.Test.YtolhlaadhfilnaaDoorPForecastExtendsx3
import Derived.Test.YtolhlaadhfilnaaDoorPForecastExtendsx4
namespace Go.Proofs.YtolhlaadhfilnaaDoor.PForecastExtends
open Go.RowKit Go.Proofs.YtolhlaadhfilnaaDoorW.PrintWords Go.Proofs.YtolhlaadhfilnaaDoorW.PrintLast Go.Proofs.YtolhlaadhfilnaaDoorW.PrintMore Go.Proofs.YtolhlaadhfilnaaDoor.Y
attribute [local go_sem] max2_int min2_int max_two min_two max_three min_three max_four min_four   -- for this text's walks alone
set_option linter.unusedVariables false
set_option linter.unusedSimpArgs false

/-! ### ephemerislaw1_summer: function 19 -/
def ephemerislaw1_summer.f  : Option ((List (S92))) := some (([(⟨3, 5, 6, 3600000, 7200000, (⟨#[83, 85, 77]⟩ : ByteArray)⟩ : S92)] : List (S92)))
set_option maxHeartbeats 8000000 in
set_option maxRecDepth 100000 in
theorem ephemerislaw1_summer.calls  (r : List (S92)) (w : World) (h : ephemerislaw1_summer.f  = some r) :
  Calls Tryd.prog 19 #[] w fun e w' => ∃ v0_ : Value, e = .returned (v0_) ∧ Kd.R k92 92 w' w.heap.size (fun _ => True) v0_ r ∧ Below w.heap.size w w' := by
 have hu92 := Tryd.underlying92
 have HB := Aside0.mk (Below.refl w.heap.size w)
 have H : (some (([(⟨3, 5, 6, 3600000, 7200000, (⟨#[83, 85, 77]⟩ : ByteArray)⟩ : S92)] : List (S92)))) = some r := h
 clear h
 obtain ⟨y215, hy215⟩ : ∃ y_ : List (S92), y_ = (([(⟨3, 5, 6, 3600000, 7200000, (⟨#[83, 85, 77]⟩ : ByteArray)⟩ : S92)] : List (S92))) := ⟨_, rfl⟩
 replace H : (some y215) = some r := rp hy215 H
 have Ny215 := Aside0.mk hy215
 clear hy215
 obtain rfl := Option.some.inj H
 go_enter Tryd.func19, Tryd.ntmps19
 go_wp2_with (first | ((with_reducible refine gate_dst (N := 2) rfl ?_); refine Kd.R_lit k92 _ 92 ?hg (N := 2) ?hd (xs := ([(⟨3, 5, 6, 3600000, 7200000, (⟨#[83, 85, 77]⟩ : ByteArray)⟩ : S92)] : List (S92))) (inner := [.int .i64 3, .int .i64 5, .int .i64 6, .int .i64 3600000, .int .i64 7200000, .string (⟨#[83, 85, 77]⟩ : ByteArray)]) (ok := fun _ => True) (okp := fun _ => True) ?hr ?hp (fun _ hk => hk) trivial (Below.refl _ _) (Nat.le_refl _) (by simp) ?_; (case hd => rfl); (case hg => rfl); (case hr => first | (go_simp; done) | (go_simp; rfl)); (case hp => exact (Reps.c6 (show Kd.M k92 _ _ _ (⟨3, 5, 6, 3600000, 7200000, (⟨#[83, 85, 77]⟩ : ByteArray)⟩ : S92) [.int .i64 3, .int .i64 5, .int .i64 6, .int .i64 3600000, .int .i64 7200000, .string (⟨#[83, 85, 77]⟩ : ByteArray)] from (k92_mkM _ _ _ (⟨3, 5, 6, 3600000, 7200000, (⟨#[83, 85, 77]⟩ : ByteArray)⟩ : S92) )) (Reps.none _ _))); intro v216 w1 ho2 hb hg_ hnew_; clear hg_ hnew_; (first | rw [← Ny215.out] at ho2 | (simp only [Int.reduceToNat] at ho2; rw [← Ny215.out] at ho2)); have n0_ := Aside0.mk (Kd.R_lower ho2 (below_size be)); have n1_ := Aside0.mk (below_step be hb); clear HB; have HO217 := n0_; have HB := n1_; clear n0_ n1_; clear hb ho2))
 go_ret
 exact ⟨_, by first | rfl | (simp [errW_none, errW_some] <;> rfl) | (simp [*, errW_none, errW_some] <;> rfl), by (with_reducible repeat (first | apply Kd.R_alloc | apply Kd.R_drewN | apply Kd.R_drew)); exact HO217.out, be⟩

/-! ### ephemerisref1_ZoneRulesError: function 20 -/
mutual
def ephemerisref1_ZoneRulesError.l0 : Nat → List (S92) → List (S92) → Int → Int → Option (Int)
 | 0, _, _, _, _ => none
 | k + 1, x0, x9, x10, x11 => if x11 < x10 then (if 0 ≤ x11 then (if x11 < (x9.length : Int) then ((ephemerisref1_In.f ((rd_T92 x9 x11).f0) 1 12).bind fun t221 => (if t221 = true then ((ephemerisref1_In.f ((rd_T92 x9 x11).f1) 1 5).bind fun t222 => (if t222 = true then ((ephemerisref1_In.f ((rd_T92 x9 x11).f2) 0 6).bind fun t223 => (if t223 = true then ((ephemerisref1_In.f ((rd_T92 x9 x11).f3) 0 86399999).bind fun t224 => (if t224 = true then ((ephemerisref1_Offset.f k ((rd_T92 x9 x11).f4)).bind fun t225 => (ephemerisref1_ZoneRulesError.j1 k x0 x11 x9 x10 x11 (!t225) ((rd_T92 x9 x11).f0) ((rd_T92 x9 x11).f1) ((rd_T92 x9 x11).f2) ((rd_T92 x9 x11).f3) ((rd_T92 x9 x11).f4) ((rd_T92 x9 x11).f5))) else (ephemerisref1_ZoneRulesError.j1 k x0 x11 x9 x10 x11 true ((rd_T92 x9 x11).f0) ((rd_T92 x9 x11).f1) ((rd_T92 x9 x11).f2) ((rd_T92 x9 x11).f3) ((rd_T92 x9 x11).f4) ((rd_T92 x9 x11).f5)))) else (ephemerisref1_ZoneRulesError.j1 k x0 x11 x9 x10 x11 true ((rd_T92 x9 x11).f0) ((rd_T92 x9 x11).f1) ((rd_T92 x9 x11).f2) ((rd_T92 x9 x11).f3) ((rd_T92 x9 x11).f4) ((rd_T92 x9 x11).f5)))) else (ephemerisref1_ZoneRulesError.j1 k x0 x11 x9 x10 x11 true ((rd_T92 x9 x11).f0) ((rd_T92 x9 x11).f1) ((rd_T92 x9 x11).f2) ((rd_T92 x9 x11).f3) ((rd_T92 x9 x11).f4) ((rd_T92 x9 x11).f5)))) else (ephemerisref1_ZoneRulesError.j1 k x0 x11 x9 x10 x11 true ((rd_T92 x9 x11).f0) ((rd_T92 x9 x11).f1) ((rd_T92 x9 x11).f2) ((rd_T92 x9 x11).f3) ((rd_T92 x9 x11).f4) ((rd_T92 x9 x11).f5)))) else (none)) else (none)) else (some 0)
def ephemerisref1_ZoneRulesError.j1 : Nat → List (S92) → Int → List (S92) → Int → Int → Bool → Int → Int → Int → Int → Int → ByteArray → Option (Int)
 | 0, _, _, _, _, _, _, _, _, _, _, _, _ => none
 | k + 1, x0, x3, x9, x10, x11, x43, x221000, x221001, x221002, x221003, x221004, x221005 => if x43 = true then (some 3) else ((ephemerisref1_Label.f x221005).bind fun t226 => (if t226 = true then (if x3 > 0 then (if 0 ≤ (wrap64 (x3 - 1)) then (if (wrap64 (x3 - 1)) < (x0.length : Int) then (if ((rd_T92 x0 (wrap64 (x3 - 1))).f0) ≥ x221000 then (some 9) else (ephemerisref1_ZoneRulesError.l0 k x0 x9 x10 (wrap64 (x11 + 1)))) else (none)) else (none)) else (ephemerisref1_ZoneRulesError.l0 k x0 x9 x10 (wrap64 (x11 + 1)))) else (some 8)))
end
def ephemerisref1_ZoneRulesError.f (k : Nat) (l0 : List (S92)) : Option (Int) := (ephemerisref1_In.f (l0.length : Int) 1 4).bind fun t218 => (if t218 = true then (ephemerisref1_ZoneRulesError.l0 k l0 l0 (l0.length : Int) 0) else (some 2))
theorem ephemerisref1_ZoneRulesError.mono_l : ∀ k, (∀ y0 y1 y2 y3, LeO (ephemerisref1_ZoneRulesError.l0 k y0 y1 y2 y3) (ephemerisref1_ZoneRulesError.l0 (k + 1) y0 y1 y2 y3)) ∧ (∀ y0 y1 y2 y3 y4 y5 y6 y7 y8 y9 y10 y11, LeO (ephemerisref1_ZoneRulesError.j1 k y0 y1 y2 y3 y4 y5 y6 y7 y8 y9 y10 y11) (ephemerisref1_ZoneRulesError.j1 (k + 1) y0 y1 y2 y3 y4 y5 y6 y7 y8 y9 y10 y11))
 | 0 => ⟨fun _ _ _ _ r h => by simp [ephemerisref1_ZoneRulesError.l0] at h, fun _ _ _ _ _ _ _ _ _ _ _ _ r h => by simp [ephemerisref1_ZoneRulesError.j1] at h⟩
 | k + 1 => by
  obtain ⟨ih0, ih1⟩ := ephemerisref1_ZoneRulesError.mono_l k
  refine ⟨?_, ?_⟩
  ·intro y0 y1 y2 y3
   unfold ephemerisref1_ZoneRulesError.l0
   repeat' first
   | (with_reducible exact ih0 _ _ _ _)
   | (with_reducible exact ih1 _ _ _ _ _ _ _ _ _ _ _ _)
   | (with_reducible exact ephemerisref1_Offset.mono _ _)
   | (with_reducible exact LeO.refl _)
   | (with_reducible exact LeO.none _)
   | (with_reducible refine LeO.ite ?_ ?_)
   | (with_reducible refine LeO.bind ?_ (fun _ => ?_))
   | exact ih0 _ _ _ _
   | exact ih1 _ _ _ _ _ _ _ _ _ _ _ _
   | exact ephemerisref1_Offset.mono _ _
   | exact LeO.none _
   | refine LeO.ite ?_ ?_
   | refine LeO.bind ?_ (fun _ => ?_)
  ·intro y0 y1 y2 y3 y4 y5 y6 y7 y8 y9 y10 y11
   unfold ephemerisref1_ZoneRulesError.j1
   repeat' first
   | (with_reducible exact ih0 _ _ _ _)
   | (with_reducible exact ih1 _ _ _ _ _ _ _ _ _ _ _ _)
   | (with_reducible exact ephemerisref1_Offset.mono _ _)
   | (with_reducible exact LeO.refl _)
   | (with_reducible exact LeO.none _)
   | (with_reducible refine LeO.ite ?_ ?_)
   | (with_reducible refine LeO.bind ?_ (fun _ => ?_))
   | exact ih0 _ _ _ _
   | exact ih1 _ _ _ _ _ _ _ _ _ _ _ _
   | exact ephemerisref1_Offset.mono _ _
   | exact LeO.none _
   | refine LeO.ite ?_ ?_
   | refine LeO.bind ?_ (fun _ => ?_)
theorem ephemerisref1_ZoneRulesError.mono : ∀ a0 k, LeO (ephemerisref1_ZoneRulesError.f k a0) (ephemerisref1_ZoneRulesError.f (k + 1) a0) := by
 intro a0 k
 obtain ⟨ih0, ih1⟩ := ephemerisref1_ZoneRulesError.mono_l k
 unfold ephemerisref1_ZoneRulesError.f
 repeat' first
   | (with_reducible exact ih0 _ _ _ _)
   | (with_reducible exact ih1 _ _ _ _ _ _ _ _ _ _ _ _)
   | (with_reducible exact ephemerisref1_Offset.mono _ _)
   | (with_reducible exact LeO.refl _)
   | (with_reducible exact LeO.none _)
   | (with_reducible refine LeO.ite ?_ ?_)
   | (with_reducible refine LeO.bind ?_ (fun _ => ?_))
   | exact ih0 _ _ _ _
   | exact ih1 _ _ _ _ _ _ _ _ _ _ _ _
   | exact ephemerisref1_Offset.mono _ _
   | exact LeO.none _
   | refine LeO.ite ?_ ?_
   | refine LeO.bind ?_ (fun _ => ?_)
set_option maxHeartbeats 8000000 in
set_option maxRecDepth 100000 in
theorem ephemerisref1_ZoneRulesError.calls (k : Nat) (A0 : Option Addr) (c0 : Nat) (l0 : List (S92)) (r : Int) (w : World) (hr0 : Kd.C k92 w A0 l0.length l0) (hc0 : l0.length ≤ c0) (h : ephemerisref1_ZoneRulesError.f k l0 = some r) :
  Calls Tryd.prog 20 #[.slice A0 l0.length c0] w fun e w' => e = .returned (.int .i64 r) ∧ Below w.heap.size w w' := by
 have hu92 := Tryd.underlying92
 have HR0 := Aside0.mk hr0
 have HC0 := Aside0.mk hc0
 clear hr0 hc0
 have HB := Aside0.mk (Below.refl w.heap.size w)
 have H : ((ephemerisref1_In.f (l0.length : Int) 1 4).bind fun t218 => (if t218 = true then (ephemerisref1_ZoneRulesError.l0 k l0 l0 (l0.length : Int) 0) else (some 2))) = some r := h
 clear h
 replace H := Option.bind_eq_some_iff.mp H
 obtain ⟨t218, A20, H⟩ := H
 replace H : (if t218 = true then (ephemerisref1_ZoneRulesError.l0 k l0 l0 (l0.length : Int) 0) else (some 2)) = some r := H
 have A2 := Aside0.mk A20
 clear A20
 by_cases c3 : t218 = true
 ·subst c3
  have H1 : (ephemerisref1_ZoneRulesError.l0 k l0 l0 (l0.length : Int) 0) = some r := by rw [if_pos rfl] at H; exact H
  clear H
  have H := H1
  clear H1
  have H' := Aside0.mk H
  clear H
  go_enter Tryd.func20, Tryd.ntmps20
  go_wp2_with (first | (go_at_call 15; (with_reducible refine (ephemerisref1_In.calls (l0.length : Int) 1 4 true _ A2.out).mono ?_); rintro e w' ⟨rfl, ⟨nd, rfl⟩⟩; (try first | exact ⟨rfl, _, World.drewN_drewN _ _ _⟩ | exact ⟨rfl, _, Eq.trans (World.drewN_drewN _ _ _) (congrArg (World.drewN _) (Nat.add_assoc _ _ _))⟩)))
  repeat (go_quiet (first | (go_at_call 15; (with_reducible refine (ephemerisref1_In.calls (l0.length : Int) 1 4 true _ A2.out).mono ?_); rintro e w' ⟨rfl, ⟨nd, rfl⟩⟩; (try first | exact ⟨rfl, _, World.drewN_drewN _ _ _⟩ | exact ⟨rfl, _, Eq.trans (World.drewN_drewN _ _ _) (congrArg (World.drewN _) (Nat.add_assoc _ _ _))⟩))); try go_wp2_with (first | (go_at_call 15; (with_reducible refine (ephemerisref1_In.calls (l0.length : Int) 1 4 true _ A2.out).mono ?_); rintro e w' ⟨rfl, ⟨nd, rfl⟩⟩; (try first | exact ⟨rfl, _, World.drewN_drewN _ _ _⟩ | exact ⟨rfl, _, Eq.trans (World.drewN_drewN _ _ _) (congrArg (World.drewN _) (Nat.add_assoc _ _ _))⟩))))
  go_loopg [11] k (fun kq v11 w' => ∃ (x11_1 : Int), v11 = .int .i64 x11_1 ∧ Aside0 (ephemerisref1_ZoneRulesError.l0 kq l0 l0 (l0.length : Int) x11_1 = some r) ∧ Aside0 (kq ≤ k) ∧ Aside0 (Below w.heap.size w w'))
  case atStart => exact ⟨(0), rs, H', ⟨Nat.le_refl _⟩, ⟨be⟩⟩
  case round =>
   clear H'
   (try clear c2); (try clear p2); (try clear c3)
   obtain ⟨x11_1, rfl, HA, HK1, HB⟩ := hrel
   cases gk with
   | zero => exact absurd HA.out (by simp [ephemerisref1_ZoneRulesError.l0])
   | succ k1 =>
    have H := HA.out
    clear HA
    simp only [ephemerisref1_ZoneRulesError.l0] at H
    by_cases c4 : x11_1 < (l0.length : Int)
    ·rw [if_pos c4] at H
     have c4b0 : decide (x11_1 < (l0.length : Int)) = true := decide_eq_true c4
     clear c4
     by_cases c5 : 0 ≤ x11_1
     ·rw [if_pos c5] at H
      have c5b0 : decide (0 ≤ x11_1) = true := decide_eq_true c5
      clear c5
      by_cases c6 : x11_1 < (l0.length : Int)
      ·rw [if_pos c6] at H
       have c6b0 : decide (x11_1 < (l0.length : Int)) = true := decide_eq_true c6
       clear c6
       have HC7 := Aside0.mk H
       clear H
       have p219 : 0 ≤ (x11_1 : Int) := of_decide_eq_true ka
       have q219 : x11_1 < (l0.length : Int) := of_decide_eq_true ka
       obtain ⟨ad219, e219, hx219_0, hx219_1, hx219_2, hx219_3, hx219_4, hx219_5⟩ := at_T92 HR0.out x11_1 p219 q219
       cases e219
       replace hx219_0 := (HB.out.cell (World.block_lt_of_cell? w _ hx219_0)).trans hx219_0
       replace hx219_1 := (HB.out.cell (World.block_lt_of_cell? w _ hx219_1)).trans hx219_1
       replace hx219_2 := (HB.out.cell (World.block_lt_of_cell? w _ hx219_2)).trans hx219_2
       replace hx219_3 := (HB.out.cell (World.block_lt_of_cell? w _ hx219_3)).trans hx219_3
       replace hx219_4 := (HB.out.cell (World.block_lt_of_cell? w _ hx219_4)).trans hx219_4
       replace hx219_5 := (HB.out.cell (World.block_lt_of_cell? w _ hx219_5)).trans hx219_5
       replace p219 := eq_true p219
       replace q219 := eq_true q219
       go_upto_region 6 with (first | ((with_reducible refine gate_dst (N := 4) rfl ?_); refine box_event ?hg (N := 4) ?hd (cs := #[.int .i64 0, .int .i64 0, .int .i64 0, .int .i64 0, .int .i64 0, .string (⟨#[]⟩ : ByteArray)]) (t := 92) ?hr ?_; (case hd => rfl); (case hg => rfl); (case hr => first | (go_simp; done) | (go_simp; rfl)); intro gb220 hg w8 hbox hb; have n0_ := Aside0.mk (below_step be hb); have n1_ := Aside0.mk (hbox); have n2_ := gs hg HB; have n3_ := n2_; clear HB; have HB := n0_; have BK220 := n1_; have GW220 := n2_; have GE220 := n3_; clear n0_ n1_ n2_ n3_; clear hb hbox hg; obtain ⟨hcz9_0, hcz9_1, hcz9_2, hcz9_3, hcz9_4, hcz9_5, hfz9_0, hfz9_1, hfz9_2, hfz9_3, hfz9_4, hfz9_5⟩ := bc6 BK220))
       repeat (go_quiet (first | ((with_reducible refine gate_dst (N := 4) rfl ?_); refine box_event ?hg (N := 4) ?hd (cs := #[.int .i64 0, .int .i64 0, .int .i64 0, .int .i64 0, .int .i64 0, .string (⟨#[]⟩ : ByteArray)]) (t := 92) ?hr ?_; (case hd => rfl); (case hg => rfl); (case hr => first | (go_simp; done) | (go_simp; rfl)); intro gb220 hg w8 hbox hb; have n0_ := Aside0.mk (below_step be hb); have n1_ := Aside0.mk (hbox); have n2_ := gs hg HB; have n3_ := n2_; clear HB; have HB := n0_; have BK220 := n1_; have GW220 := n2_; have GE220 := n3_; clear n0_ n1_ n2_ n3_; clear hb hbox hg; obtain ⟨hcz9_0, hcz9_1, hcz9_2, hcz9_3, hcz9_4, hcz9_5, hfz9_0, hfz9_1, hfz9_2, hfz9_3, hfz9_4, hfz9_5⟩ := bc6 BK220)); go_upto_region 6 with (first | ((with_reducible refine gate_dst (N := 4) rfl ?_); refine box_event ?hg (N := 4) ?hd (cs := #[.int .i64 0, .int .i64 0, .int .i64 0, .int .i64 0, .int .i64 0, .string (⟨#[]⟩ : ByteArray)]) (t := 92) ?hr ?_; (case hd => rfl); (case hg => rfl); (case hr => first | (go_simp; done) | (go_simp; rfl)); intro gb220 hg w8 hbox hb; have n0_ := Aside0.mk (below_step be hb); have n1_ := Aside0.mk (hbox); have n2_ := gs hg HB; have n3_ := n2_; clear HB; have HB := n0_; have BK220 := n1_; have GW220 := n2_; have GE220 := n3_; clear n0_ n1_ n2_ n3_; clear hb hbox hg; obtain ⟨hcz9_0, hcz9_1, hcz9_2, hcz9_3, hcz9_4, hcz9_5, hfz9_0, hfz9_1, hfz9_2, hfz9_3, hfz9_4, hfz9_5⟩ := bc6 BK220)))
       (try simp only [Act.put, List.setIfInBounds_toArray, List.set_cons_zero, List.set_cons_succ])
       go_cut [43] (fun v43 wc => ∃ (kq : Nat) (x43_6 : Bool), v43 = .bool x43_6 ∧ Aside0 (ephemerisref1_ZoneRulesError.j1 kq l0 x11_1 l0 (l0.length : Int) x11_1 x43_6 ((rd_T92 l0 x11_1).f0) ((rd_T92 l0 x11_1).f1) ((rd_T92 l0 x11_1).f2) ((rd_T92 l0 x11_1).f3) ((rd_T92 l0 x11_1).f4) ((rd_T92 l0 x11_1).f5) = some r) ∧ Aside0 (kq ≤ k1) ∧ Aside0 (wc.heap[gb220]? = some (.cells #[.int .i64 ((rd_T92 l0 x11_1).f0), .int .i64 ((rd_T92 l0 x11_1).f1), .int .i64 ((rd_T92 l0 x11_1).f2), .int .i64 ((rd_T92 l0 x11_1).f3), .int .i64 ((rd_T92 l0 x11_1).f4), .string ((rd_T92 l0 x11_1).f5)] 92 (0, 0))) ∧ Aside0 (Below w.heap.size w wc))
       case first =>
        have H := HC7.out
        clear HC7
        replace H := Option.bind_eq_some_iff.mp H
        obtain ⟨t221, A100, H⟩ := H
        replace H : (if t221 = true then ((ephemerisref1_In.f ((rd_T92 l0 x11_1).f1) 1 5).bind fun t222 => (if t222 = true then ((ephemerisref1_In.f ((rd_T92 l0 x11_1).f2) 0 6).bind fun t223 => (if t223 = true then ((ephemerisref1_In.f ((rd_T92 l0 x11_1).f3) 0 86399999).bind fun t224 => (if t224 = true then ((ephemerisref1_Offset.f k1 ((rd_T92 l0 x11_1).f4)).bind fun t225 => (ephemerisref1_ZoneRulesError.j1 k1 l0 x11_1 l0 (l0.length : Int) x11_1 (!t225) ((rd_T92 l0 x11_1).f0) ((rd_T92 l0 x11_1).f1) ((rd_T92 l0 x11_1).f2) ((rd_T92 l0 x11_1).f3) ((rd_T92 l0 x11_1).f4) ((rd_T92 l0 x11_1).f5))) else (ephemerisref1_ZoneRulesError.j1 k1 l0 x11_1 l0 (l0.length : Int) x11_1 true ((rd_T92 l0 x11_1).f0) ((rd_T92 l0 x11_1).f1) ((rd_T92 l0 x11_1).f2) ((rd_T92 l0 x11_1).f3) ((rd_T92 l0 x11_1).f4) ((rd_T92 l0 x11_1).f5)))) else (ephemerisref1_ZoneRulesError.j1 k1 l0 x11_1 l0 (l0.length : Int) x11_1 true ((rd_T92 l0 x11_1).f0) ((rd_T92 l0 x11_1).f1) ((rd_T92 l0 x11_1).f2) ((rd_T92 l0 x11_1).f3) ((rd_T92 l0 x11_1).f4) ((rd_T92 l0 x11_1).f5)))) else (ephemerisref1_ZoneRulesError.j1 k1 l0 x11_1 l0 (l0.length : Int) x11_1 true ((rd_T92 l0 x11_1).f0) ((rd_T92 l0 x11_1).f1) ((rd_T92 l0 x11_1).f2) ((rd_T92 l0 x11_1).f3) ((rd_T92 l0 x11_1).f4) ((rd_T92 l0 x11_1).f5)))) else (ephemerisref1_ZoneRulesError.j1 k1 l0 x11_1 l0 (l0.length : Int) x11_1 true ((rd_T92 l0 x11_1).f0) ((rd_T92 l0 x11_1).f1) ((rd_T92 l0 x11_1).f2) ((rd_T92 l0 x11_1).f3) ((rd_T92 l0 x11_1).f4) ((rd_T92 l0 x11_1).f5))) = some r := H
        have A10 := Aside0.mk A100
        clear A100
        by_cases c11 : t221 = true
        ·subst c11
         have H1 : ((ephemerisref1_In.f ((rd_T92 l0 x11_1).f1) 1 5).bind fun t222 => (if t222 = true then ((ephemerisref1_In.f ((rd_T92 l0 x11_1).f2) 0 6).bind fun t223 => (if t223 = true then ((ephemerisref1_In.f ((rd_T92 l0 x11_1).f3) 0 86399999).bind fun t224 => (if t224 = true then ((ephemerisref1_Offset.f k1 ((rd_T92 l0 x11_1).f4)).bind fun t225 => (ephemerisref1_ZoneRulesError.j1 k1 l0 x11_1 l0 (l0.length : Int) x11_1 (!t225) ((rd_T92 l0 x11_1).f0) ((rd_T92 l0 x11_1).f1) ((rd_T92 l0 x11_1).f2) ((rd_T92 l0 x11_1).f3) ((rd_T92 l0 x11_1).f4) ((rd_T92 l0 x11_1).f5))) else (ephemerisref1_ZoneRulesError.j1 k1 l0 x11_1 l0 (l0.length : Int) x11_1 true ((rd_T92 l0 x11_1).f0) ((rd_T92 l0 x11_1).f1) ((rd_T92 l0 x11_1).f2) ((rd_T92 l0 x11_1).f3) ((rd_T92 l0 x11_1).f4) ((rd_T92 l0 x11_1).f5)))) else (ephemerisref1_ZoneRulesError.j1 k1 l0 x11_1 l0 (l0.length : Int) x11_1 true ((rd_T92 l0 x11_1).f0) ((rd_T92 l0 x11_1).f1) ((rd_T92 l0 x11_1).f2) ((rd_T92 l0 x11_1).f3) ((rd_T92 l0 x11_1).f4) ((rd_T92 l0 x11_1).f5)))) else (ephemerisref1_ZoneRulesError.j1 k1 l0 x11_1 l0 (l0.length : Int) x11_1 true ((rd_T92 l0 x11_1).f0) ((rd_T92 l0 x11_1).f1) ((rd_T92 l0 x11_1).f2) ((rd_T92 l0 x11_1).f3) ((rd_T92 l0 x11_1).f4) ((rd_T92 l0 x11_1).f5)))) = some r := by rw [if_pos rfl] at H; exact H
         clear H
         have H := H1
         clear H1
         replace H := Option.bind_eq_some_iff.mp H
         obtain ⟨t222, A120, H⟩ := H
         replace H : (if t222 = true then ((ephemerisref1_In.f ((rd_T92 l0 x11_1).f2) 0 6).bind fun t223 => (if t223 = true then ((ephemerisref1_In.f ((rd_T92 l0 x11_1).f3) 0 86399999).bind fun t224 => (if t224 = true then ((ephemerisref1_Offset.f k1 ((rd_T92 l0 x11_1).f4)).bind fun t225 => (ephemerisref1_ZoneRulesError.j1 k1 l0 x11_1 l0 (l0.length : Int) x11_1 (!t225) ((rd_T92 l0 x11_1).f0) ((rd_T92 l0 x11_1).f1) ((rd_T92 l0 x11_1).f2) ((rd_T92 l0 x11_1).f3) ((rd_T92 l0 x11_1).f4) ((rd_T92 l0 x11_1).f5))) else (ephemerisref1_ZoneRulesError.j1 k1 l0 x11_1 l0 (l0.length : Int) x11_1 true ((rd_T92 l0 x11_1).f0) ((rd_T92 l0 x11_1).f1) ((rd_T92 l0 x11_1).f2) ((rd_T92 l0 x11_1).f3) ((rd_T92 l0 x11_1).f4) ((rd_T92 l0 x11_1).f5)))) else (ephemerisref1_ZoneRulesError.j1 k1 l0 x11_1 l0 (l0.length : Int) x11_1 true ((rd_T92 l0 x11_1).f0) ((rd_T92 l0 x11_1).f1) ((rd_T92 l0 x11_1).f2) ((rd_T92 l0 x11_1).f3) ((rd_T92 l0 x11_1).f4) ((rd_T92 l0 x11_1).f5)))) else (ephemerisref1_ZoneRulesError.j1 k1 l0 x11_1 l0 (l0.length : Int) x11_1 true ((rd_T92 l0 x11_1).f0) ((rd_T92 l0 x11_1).f1) ((rd_T92 l0 x11_1).f2) ((rd_T92 l0 x11_1).f3) ((rd_T92 l0 x11_1).f4) ((rd_T92 l0 x11_1).f5))) = some r := H
         have A12 := Aside0.mk A120
         clear A120
         by_cases c13 : t222 = true
         ·subst c13
          have H1 : ((ephemerisref1_In.f ((rd_T92 l0 x11_1).f2) 0 6).bind fun t223 => (if t223 = true then ((ephemerisref1_In.f ((rd_T92 l0 x11_1).f3) 0 86399999).bind fun t224 => (if t224 = true then ((ephemerisref1_Offset.f k1 ((rd_T92 l0 x11_1).f4)).bind fun t225 => (ephemerisref1_ZoneRulesError.j1 k1 l0 x11_1 l0 (l0.length : Int) x11_1 (!t225) ((rd_T92 l0 x11_1).f0) ((rd_T92 l0 x11_1).f1) ((rd_T92 l0 x11_1).f2) ((rd_T92 l0 x11_1).f3) ((rd_T92 l0 x11_1).f4) ((rd_T92 l0 x11_1).f5))) else (ephemerisref1_ZoneRulesError.j1 k1 l0 x11_1 l0 (l0.length : Int) x11_1 true ((rd_T92 l0 x11_1).f0) ((rd_T92 l0 x11_1).f1) ((rd_T92 l0 x11_1).f2) ((rd_T92 l0 x11_1).f3) ((rd_T92 l0 x11_1).f4) ((rd_T92 l0 x11_1).f5)))) else (ephemerisref1_ZoneRulesError.j1 k1 l0 x11_1 l0 (l0.length : Int) x11_1 true ((rd_T92 l0 x11_1).f0) ((rd_T92 l0 x11_1).f1) ((rd_T92 l0 x11_1).f2) ((rd_T92 l0 x11_1).f3) ((rd_T92 l0 x11_1).f4) ((rd_T92 l0 x11_1).f5)))) = some r := by rw [if_pos rfl] at H; exact H
          clear H
          have H := H1
          clear H1
          replace H := Option.bind_eq_some_iff.mp H
          obtain ⟨t223, A140, H⟩ := H
          replace H : (if t223 = true then ((ephemerisref1_In.f ((rd_T92 l0 x11_1).f3) 0 86399999).bind fun t224 => (if t224 = true then ((ephemerisref1_Offset.f k1 ((rd_T92 l0 x11_1).f4)).bind fun t225 => (ephemerisref1_ZoneRulesError.j1 k1 l0 x11_1 l0 (l0.length : Int) x11_1 (!t225) ((rd_T92 l0 x11_1).f0) ((rd_T92 l0 x11_1).f1) ((rd_T92 l0 x11_1).f2) ((rd_T92 l0 x11_1).f3) ((rd_T92 l0 x11_1).f4) ((rd_T92 l0 x11_1).f5))) else (ephemerisref1_ZoneRulesError.j1 k1 l0 x11_1 l0 (l0.length : Int) x11_1 true ((rd_T92 l0 x11_1).f0) ((rd_T92 l0 x11_1).f1) ((rd_T92 l0 x11_1).f2) ((rd_T92 l0 x11_1).f3) ((rd_T92 l0 x11_1).f4) ((rd_T92 l0 x11_1).f5)))) else (ephemerisref1_ZoneRulesError.j1 k1 l0 x11_1 l0 (l0.length : Int) x11_1 true ((rd_T92 l0 x11_1).f0) ((rd_T92 l0 x11_1).f1) ((rd_T92 l0 x11_1).f2) ((rd_T92 l0 x11_1).f3) ((rd_T92 l0 x11_1).f4) ((rd_T92 l0 x11_1).f5))) = some r := H
          have A14 := Aside0.mk A140
          clear A140
          by_cases c15 : t223 = true
          ·subst c15
           have H1 : ((ephemerisref1_In.f ((rd_T92 l0 x11_1).f3) 0 86399999).bind fun t224 => (if t224 = true then ((ephemerisref1_Offset.f k1 ((rd_T92 l0 x11_1).f4)).bind fun t225 => (ephemerisref1_ZoneRulesError.j1 k1 l0 x11_1 l0 (l0.length : Int) x11_1 (!t225) ((rd_T92 l0 x11_1).f0) ((rd_T92 l0 x11_1).f1) ((rd_T92 l0 x11_1).f2) ((rd_T92 l0 x11_1).f3) ((rd_T92 l0 x11_1).f4) ((rd_T92 l0 x11_1).f5))) else (ephemerisref1_ZoneRulesError.j1 k1 l0 x11_1 l0 (l0.length : Int) x11_1 true ((rd_T92 l0 x11_1).f0) ((rd_T92 l0 x11_1).f1) ((rd_T92 l0 x11_1).f2) ((rd_T92 l0 x11_1).f3) ((rd_T92 l0 x11_1).f4) ((rd_T92 l0 x11_1).f5)))) = some r := by rw [if_pos rfl] at H; exact H
           clear H
           have H := H1
           clear H1
           replace H := Option.bind_eq_some_iff.mp H
           obtain ⟨t224, A160, H⟩ := H
           replace H : (if t224 = true then ((ephemerisref1_Offset.f k1 ((rd_T92 l0 x11_1).f4)).bind fun t225 => (ephemerisref1_ZoneRulesError.j1 k1 l0 x11_1 l0 (l0.length : Int) x11_1 (!t225) ((rd_T92 l0 x11_1).f0) ((rd_T92 l0 x11_1).f1) ((rd_T92 l0 x11_1).f2) ((rd_T92 l0 x11_1).f3) ((rd_T92 l0 x11_1).f4) ((rd_T92 l0 x11_1).f5))) else (ephemerisref1_ZoneRulesError.j1 k1 l0 x11_1 l0 (l0.length : Int) x11_1 true ((rd_T92 l0 x11_1).f0) ((rd_T92 l0 x11_1).f1) ((rd_T92 l0 x11_1).f2) ((rd_T92 l0 x11_1).f3) ((rd_T92 l0 x11_1).f4) ((rd_T92 l0 x11_1).f5))) = some r := H
           have A16 := Aside0.mk A160
           clear A160
           by_cases c17 : t224 = true
           ·subst c17
            have H1 : ((ephemerisref1_Offset.f k1 ((rd_T92 l0 x11_1).f4)).bind fun t225 => (ephemerisref1_ZoneRulesError.j1 k1 l0 x11_1 l0 (l0.length : Int) x11_1 (!t225) ((rd_T92 l0 x11_1).f0) ((rd_T92 l0 x11_1).f1) ((rd_T92 l0 x11_1).f2) ((rd_T92 l0 x11_1).f3) ((rd_T92 l0 x11_1).f4) ((rd_T92 l0 x11_1).f5))) = some r := by rw [if_pos rfl] at H; exact H
            clear H
            have H := H1
            clear H1
            replace H := Option.bind_eq_some_iff.mp H
            obtain ⟨t225, A180, H⟩ := H
            replace H : (ephemerisref1_ZoneRulesError.j1 k1 l0 x11_1 l0 (l0.length : Int) x11_1 (!t225) ((rd_T92 l0 x11_1).f0) ((rd_T92 l0 x11_1).f1) ((rd_T92 l0 x11_1).f2) ((rd_T92 l0 x11_1).f3) ((rd_T92 l0 x11_1).f4) ((rd_T92 l0 x11_1).f5)) = some r := H
            have A18 := Aside0.mk A180
            clear A180
            have H' := Aside0.mk H
            clear H
            obtain ⟨hcz19_0, hcz19_1, hcz19_2, hcz19_3, hcz19_4, hcz19_5, hfz19_0, hfz19_1, hfz19_2, hfz19_3, hfz19_4, hfz19_5⟩ := bc6 BK220
            go_wp2_with (first | (go_at_call 15; (with_reducible refine (ephemerisref1_In.calls ((rd_T92 l0 x11_1).f0) 1 12 true _ A10.out).mono ?_); rintro e w' ⟨rfl, ⟨nd, rfl⟩⟩; (try first | exact ⟨rfl, _, World.drewN_drewN _ _ _⟩ | exact ⟨rfl, _, Eq.trans (World.drewN_drewN _ _ _) (congrArg (World.drewN _) (Nat.add_assoc _ _ _))⟩)) | (go_at_call 15; (with_reducible refine (ephemerisref1_In.calls ((rd_T92 l0 x11_1).f1) 1 5 true _ A12.out).mono ?_); rintro e w' ⟨rfl, ⟨nd, rfl⟩⟩; (try first | exact ⟨rfl, _, World.drewN_drewN _ _ _⟩ | exact ⟨rfl, _, Eq.trans (World.drewN_drewN _ _ _) (congrArg (World.drewN _) (Nat.add_assoc _ _ _))⟩)) | (go_at_call 15; (with_reducible refine (ephemerisref1_In.calls ((rd_T92 l0 x11_1).f2) 0 6 true _ A14.out).mono ?_); rintro e w' ⟨rfl, ⟨nd, rfl⟩⟩; (try first | exact ⟨rfl, _, World.drewN_drewN _ _ _⟩ | exact ⟨rfl, _, Eq.trans (World.drewN_drewN _ _ _) (congrArg (World.drewN _) (Nat.add_assoc _ _ _))⟩)) | (go_at_call 15; (with_reducible refine (ephemerisref1_In.calls ((rd_T92 l0 x11_1).f3) 0 86399999 true _ A16.out).mono ?_); rintro e w' ⟨rfl, ⟨nd, rfl⟩⟩; (try first | exact ⟨rfl, _, World.drewN_drewN _ _ _⟩ | exact ⟨rfl, _, Eq.trans (World.drewN_drewN _ _ _) (congrArg (World.drewN _) (Nat.add_assoc _ _ _))⟩)) | (go_at_call 44; (with_reducible refine (ephemerisref1_Offset.calls k1 ((rd_T92 l0 x11_1).f4) t225 _ A18.out).mono ?_); rintro e w' ⟨rfl, ⟨nd, rfl⟩⟩; (try first | exact ⟨rfl, _, World.drewN_drewN _ _ _⟩ | exact ⟨rfl, _, Eq.trans (World.drewN_drewN _ _ _) (congrArg (World.drewN _) (Nat.add_assoc _ _ _))⟩)))
            repeat (go_quiet (first | (go_at_call 15; (with_reducible refine (ephemerisref1_In.calls ((rd_T92 l0 x11_1).f0) 1 12 true _ A10.out).mono ?_); rintro e w' ⟨rfl, ⟨nd, rfl⟩⟩; (try first | exact ⟨rfl, _, World.drewN_drewN _ _ _⟩ | exact ⟨rfl, _, Eq.trans (World.drewN_drewN _ _ _) (congrArg (World.drewN _) (Nat.add_assoc _ _ _))⟩)) | (go_at_call 15; (with_reducible refine (ephemerisref1_In.calls ((rd_T92 l0 x11_1).f1) 1 5 true _ A12.out).mono ?_); rintro e w' ⟨rfl, ⟨nd, rfl⟩⟩; (try first | exact ⟨rfl, _, World.drewN_drewN _ _ _⟩ | exact ⟨rfl, _, Eq.trans (World.drewN_drewN _ _ _) (congrArg (World.drewN _) (Nat.add_assoc _ _ _))⟩)) | (go_at_call 15; (with_reducible refine (ephemerisref1_In.calls ((rd_T92 l0 x11_1).f2) 0 6 true _ A14.out).mono ?_); rintro e w' ⟨rfl, ⟨nd, rfl⟩⟩; (try first | exact ⟨rfl, _, World.drewN_drewN _ _ _⟩ | exact ⟨rfl, _, Eq.trans (World.drewN_drewN _ _ _) (congrArg (World.drewN _) (Nat.add_assoc _ _ _))⟩)) | (go_at_call 15; (with_reducible refine (ephemerisref1_In.calls ((rd_T92 l0 x11_1).f3) 0 86399999 true _ A16.out).mono ?_); rintro e w' ⟨rfl, ⟨nd, rfl⟩⟩; (try first | exact ⟨rfl, _, World.drewN_drewN _ _ _⟩ | exact ⟨rfl, _, Eq.trans (World.drewN_drewN _ _ _) (congrArg (World.drewN _) (Nat.add_assoc _ _ _))⟩)) | (go_at_call 44; (with_reducible refine (ephemerisref1_Offset.calls k1 ((rd_T92 l0 x11_1).f4) t225 _ A18.out).mono ?_); rintro e w' ⟨rfl, ⟨nd, rfl⟩⟩; (try first | exact ⟨rfl, _, World.drewN_drewN _ _ _⟩ | exact ⟨rfl, _, Eq.trans (World.drewN_drewN _ _ _) (congrArg (World.drewN _) (Nat.add_assoc _ _ _))⟩))); try go_wp2_with (first | (go_at_call 15; (with_reducible refine (ephemerisref1_In.calls ((rd_T92 l0 x11_1).f0) 1 12 true _ A10.out).mono ?_); rintro e w' ⟨rfl, ⟨nd, rfl⟩⟩; (try first | exact ⟨rfl, _, World.drewN_drewN _ _ _⟩ | exact ⟨rfl, _, Eq.trans (World.drewN_drewN _ _ _) (congrArg (World.drewN _) (Nat.add_assoc _ _ _))⟩)) | (go_at_call 15; (with_reducible refine (ephemerisref1_In.calls ((rd_T92 l0 x11_1).f1) 1 5 true _ A12.out).mono ?_); rintro e w' ⟨rfl, ⟨nd, rfl⟩⟩; (try first | exact ⟨rfl, _, World.drewN_drewN _ _ _⟩ | exact ⟨rfl, _, Eq.trans (World.drewN_drewN _ _ _) (congrArg (World.drewN _) (Nat.add_assoc _ _ _))⟩)) | (go_at_call 15; (with_reducible refine (ephemerisref1_In.calls ((rd_T92 l0 x11_1).f2) 0 6 true _ A14.out).mono ?_); rintro e w' ⟨rfl, ⟨nd, rfl⟩⟩; (try first | exact ⟨rfl, _, World.drewN_drewN _ _ _⟩ | exact ⟨rfl, _, Eq.trans (World.drewN_drewN _ _ _) (congrArg (World.drewN _) (Nat.add_assoc _ _ _))⟩)) | (go_at_call 15; (with_reducible refine (ephemerisref1_In.calls ((rd_T92 l0 x11_1).f3) 0 86399999 true _ A16.out).mono ?_); rintro e w' ⟨rfl, ⟨nd, rfl⟩⟩; (try first | exact ⟨rfl, _, World.drewN_drewN _ _ _⟩ | exact ⟨rfl, _, Eq.trans (World.drewN_drewN _ _ _) (congrArg (World.drewN _) (Nat.add_assoc _ _ _))⟩)) | (go_at_call 44; (with_reducible refine (ephemerisref1_Offset.calls k1 ((rd_T92 l0 x11_1).f4) t225 _ A18.out).mono ?_); rintro e w' ⟨rfl, ⟨nd, rfl⟩⟩; (try first | exact ⟨rfl, _, World.drewN_drewN _ _ _⟩ | exact ⟨rfl, _, Eq.trans (World.drewN_drewN _ _ _) (congrArg (World.drewN _) (Nat.add_assoc _ _ _))⟩))))
            go_meet
            case rel => exact ⟨_, (!t225), rs, H', ⟨by have := HK1.out; first | omega | exact Nat.le_refl _⟩, ⟨bk BK220⟩, ⟨be⟩⟩
           ·replace c17 := Bool.eq_false_iff.mpr c17
            subst c17
            have H1 : (ephemerisref1_ZoneRulesError.j1 k1 l0 x11_1 l0 (l0.length : Int) x11_1 true ((rd_T92 l0 x11_1).f0) ((rd_T92 l0 x11_1).f1) ((rd_T92 l0 x11_1).f2) ((rd_T92 l0 x11_1).f3) ((rd_T92 l0 x11_1).f4) ((rd_T92 l0 x11_1).f5)) = some r := by rw [if_neg (show ¬ (false = true) by decide)] at H; exact H
            clear H
            have H := H1
            clear H1
            have H' := Aside0.mk H
            clear H
            obtain ⟨hcz20_0, hcz20_1, hcz20_2, hcz20_3, hcz20_4, hcz20_5, hfz20_0, hfz20_1, hfz20_2, hfz20_3, hfz20_4, hfz20_5⟩ := bc6 BK220
            go_wp2_with (first | (go_at_call 15; (with_reducible refine (ephemerisref1_In.calls ((rd_T92 l0 x11_1).f0) 1 12 true _ A10.out).mono ?_); rintro e w' ⟨rfl, ⟨nd, rfl⟩⟩; (try first | exact ⟨rfl, _, World.drewN_drewN _ _ _⟩ | exact ⟨rfl, _, Eq.trans (World.drewN_drewN _ _ _) (congrArg (World.drewN _) (Nat.add_assoc _ _ _))⟩)) | (go_at_call 15; (with_reducible refine (ephemerisref1_In.calls ((rd_T92 l0 x11_1).f1) 1 5 true _ A12.out).mono ?_); rintro e w' ⟨rfl, ⟨nd, rfl⟩⟩; (try first | exact ⟨rfl, _, World.drewN_drewN _ _ _⟩ | exact ⟨rfl, _, Eq.trans (World.drewN_drewN _ _ _) (congrArg (World.drewN _) (Nat.add_assoc _ _ _))⟩)) | (go_at_call 15; (with_reducible refine (ephemerisref1_In.calls ((rd_T92 l0 x11_1).f2) 0 6 true _ A14.out).mono ?_); rintro e w' ⟨rfl, ⟨nd, rfl⟩⟩; (try first | exact ⟨rfl, _, World.drewN_drewN _ _ _⟩ | exact ⟨rfl, _, Eq.trans (World.drewN_drewN _ _ _) (congrArg (World.drewN _) (Nat.add_assoc _ _ _))⟩)) | (go_at_call 15; (with_reducible refine (ephemerisref1_In.calls ((rd_T92 l0 x11_1).f3) 0 86399999 false _ A16.out).mono ?_); rintro e w' ⟨rfl, ⟨nd, rfl⟩⟩; (try first | exact ⟨rfl, _, World.drewN_drewN _ _ _⟩ | exact ⟨rfl, _, Eq.trans (World.drewN_drewN _ _ _) (congrArg (World.drewN _) (Nat.add_assoc _ _ _))⟩)))
            repeat (go_quiet (first | (go_at_call 15; (with_reducible refine (ephemerisref1_In.calls ((rd_T92 l0 x11_1).f0) 1 12 true _ A10.out).mono ?_); rintro e w' ⟨rfl, ⟨nd, rfl⟩⟩; (try first | exact ⟨rfl, _, World.drewN_drewN _ _ _⟩ | exact ⟨rfl, _, Eq.trans (World.drewN_drewN _ _ _) (congrArg (World.drewN _) (Nat.add_assoc _ _ _))⟩)) | (go_at_call 15; (with_reducible refine (ephemerisref1_In.calls ((rd_T92 l0 x11_1).f1) 1 5 true _ A12.out).mono ?_); rintro e w' ⟨rfl, ⟨nd, rfl⟩⟩; (try first | exact ⟨rfl, _, World.drewN_drewN _ _ _⟩ | exact ⟨rfl, _, Eq.trans (World.drewN_drewN _ _ _) (congrArg (World.drewN _) (Nat.add_assoc _ _ _))⟩)) | (go_at_call 15; (with_reducible refine (ephemerisref1_In.calls ((rd_T92 l0 x11_1).f2) 0 6 true _ A14.out).mono ?_); rintro e w' ⟨rfl, ⟨nd, rfl⟩⟩; (try first | exact ⟨rfl, _, World.drewN_drewN _ _ _⟩ | exact ⟨rfl, _, Eq.trans (World.drewN_drewN _ _ _) (congrArg (World.drewN _) (Nat.add_assoc _ _ _))⟩)) | (go_at_call 15; (with_reducible refine (ephemerisref1_In.calls ((rd_T92 l0 x11_1).f3) 0 86399999 false _ A16.out).mono ?_); rintro e w' ⟨rfl, ⟨nd, rfl⟩⟩; (try first | exact ⟨rfl, _, World.drewN_drewN _ _ _⟩ | exact ⟨rfl, _, Eq.trans (World.drewN_drewN _ _ _) (congrArg (World.drewN _) (Nat.add_assoc _ _ _))⟩))); try go_wp2_with (first | (go_at_call 15; (with_reducible refine (ephemerisref1_In.calls ((rd_T92 l0 x11_1).f0) 1 12 true _ A10.out).mono ?_); rintro e w' ⟨rfl, ⟨nd, rfl⟩⟩; (try first | exact ⟨rfl, _, World.drewN_drewN _ _ _⟩ | exact ⟨rfl, _, Eq.trans (World.drewN_drewN _ _ _) (congrArg (World.drewN _) (Nat.add_assoc _ _ _))⟩)) | (go_at_call 15; (with_reducible refine (ephemerisref1_In.calls ((rd_T92 l0 x11_1).f1) 1 5 true _ A12.out).mono ?_); rintro e w' ⟨rfl, ⟨nd, rfl⟩⟩; (try first | exact ⟨rfl, _, World.drewN_drewN _ _ _⟩ | exact ⟨rfl, _, Eq.trans (World.drewN_drewN _ _ _) (congrArg (World.drewN _) (Nat.add_assoc _ _ _))⟩)) | (go_at_call 15; (with_reducible refine (ephemerisref1_In.calls ((rd_T92 l0 x11_1).f2) 0 6 true _ A14.out).mono ?_); rintro e w' ⟨rfl, ⟨nd, rfl⟩⟩; (try first | exact ⟨rfl, _, World.drewN_drewN _ _ _⟩ | exact ⟨rfl, _, Eq.trans (World.drewN_drewN _ _ _) (congrArg (World.drewN _) (Nat.add_assoc _ _ _))⟩)) | (go_at_call 15; (with_reducible refine (ephemerisref1_In.calls ((rd_T92 l0 x11_1).f3) 0 86399999 false _ A16.out).mono ?_); rintro e w' ⟨rfl, ⟨nd, rfl⟩⟩; (try first | exact ⟨rfl, _, World.drewN_drewN _ _ _⟩ | exact ⟨rfl, _, Eq.trans (World.drewN_drewN _ _ _) (congrArg (World.drewN _) (Nat.add_assoc _ _ _))⟩))))
            go_meet
            case rel => exact ⟨_, (true), rs, H', ⟨by have := HK1.out; first | omega | exact Nat.le_refl _⟩, ⟨bk BK220⟩, ⟨be⟩⟩
          ·replace c15 := Bool.eq_false_iff.mpr c15
           subst c15
           have H1 : (ephemerisref1_ZoneRulesError.j1 k1 l0 x11_1 l0 (l0.length : Int) x11_1 true ((rd_T92 l0 x11_1).f0) ((rd_T92 l0 x11_1).f1) ((rd_T92 l0 x11_1).f2) ((rd_T92 l0 x11_1).f3) ((rd_T92 l0 x11_1).f4) ((rd_T92 l0 x11_1).f5)) = some r := by rw [if_neg (show ¬ (false = true) by decide)] at H; exact H
           clear H
           have H := H1
           clear H1
           have H' := Aside0.mk H
           clear H
           obtain ⟨hcz21_0, hcz21_1, hcz21_2, hcz21_3, hcz21_4, hcz21_5, hfz21_0, hfz21_1, hfz21_2, hfz21_3, hfz21_4, hfz21_5⟩ := bc6 BK220
           go_wp2_with (first | (go_at_call 15; (with_reducible refine (ephemerisref1_In.calls ((rd_T92 l0 x11_1).f0) 1 12 true _ A10.out).mono ?_); rintro e w' ⟨rfl, ⟨nd, rfl⟩⟩; (try first | exact ⟨rfl, _, World.drewN_drewN _ _ _⟩ | exact ⟨rfl, _, Eq.trans (World.drewN_drewN _ _ _) (congrArg (World.drewN _) (Nat.add_assoc _ _ _))⟩)) | (go_at_call 15; (with_reducible refine (ephemerisref1_In.calls ((rd_T92 l0 x11_1).f1) 1 5 true _ A12.out).mono ?_); rintro e w' ⟨rfl, ⟨nd, rfl⟩⟩; (try first | exact ⟨rfl, _, World.drewN_drewN _ _ _⟩ | exact ⟨rfl, _, Eq.trans (World.drewN_drewN _ _ _) (congrArg (World.drewN _) (Nat.add_assoc _ _ _))⟩)) | (go_at_call 15; (with_reducible refine (ephemerisref1_In.calls ((rd_T92 l0 x11_1).f2) 0 6 false _ A14.out).mono ?_); rintro e w' ⟨rfl, ⟨nd, rfl⟩⟩; (try first | exact ⟨rfl, _, World.drewN_drewN _ _ _⟩ | exact ⟨rfl, _, Eq.trans (World.drewN_drewN _ _ _) (congrArg (World.drewN _) (Nat.add_assoc _ _ _))⟩)))
           repeat (go_quiet (first | (go_at_call 15; (with_reducible refine (ephemerisref1_In.calls ((rd_T92 l0 x11_1).f0) 1 12 true _ A10.out).mono ?_); rintro e w' ⟨rfl, ⟨nd, rfl⟩⟩; (try first | exact ⟨rfl, _, World.drewN_drewN _ _ _⟩ | exact ⟨rfl, _, Eq.trans (World.drewN_drewN _ _ _) (congrArg (World.drewN _) (Nat.add_assoc _ _ _))⟩)) | (go_at_call 15; (with_reducible refine (ephemerisref1_In.calls ((rd_T92 l0 x11_1).f1) 1 5 true _ A12.out).mono ?_); rintro e w' ⟨rfl, ⟨nd, rfl⟩⟩; (try first | exact ⟨rfl, _, World.drewN_drewN _ _ _⟩ | exact ⟨rfl, _, Eq.trans (World.drewN_drewN _ _ _) (congrArg (World.drewN _) (Nat.add_assoc _ _ _))⟩)) | (go_at_call 15; (with_reducible refine (ephemerisref1_In.calls ((rd_T92 l0 x11_1).f2) 0 6 false _ A14.out).mono ?_); rintro e w' ⟨rfl, ⟨nd, rfl⟩⟩; (try first | exact ⟨rfl, _, World.drewN_drewN _ _ _⟩ | exact ⟨rfl, _, Eq.trans (World.drewN_drewN _ _ _) (congrArg (World.drewN _) (Nat.add_assoc _ _ _))⟩))); try go_wp2_with (first | (go_at_call 15; (with_reducible refine (ephemerisref1_In.calls ((rd_T92 l0 x11_1).f0) 1 12 true _ A10.out).mono ?_); rintro e w' ⟨rfl, ⟨nd, rfl⟩⟩; (try first | exact ⟨rfl, _, World.drewN_drewN _ _ _⟩ | exact ⟨rfl, _, Eq.trans (World.drewN_drewN _ _ _) (congrArg (World.drewN _) (Nat.add_assoc _ _ _))⟩)) | (go_at_call 15; (with_reducible refine (ephemerisref1_In.calls ((rd_T92 l0 x11_1).f1) 1 5 true _ A12.out).mono ?_); rintro e w' ⟨rfl, ⟨nd, rfl⟩⟩; (try first | exact ⟨rfl, _, World.drewN_drewN _ _ _⟩ | exact ⟨rfl, _, Eq.trans (World.drewN_drewN _ _ _) (congrArg (World.drewN _) (Nat.add_assoc _ _ _))⟩)) | (go_at_call 15; (with_reducible refine (ephemerisref1_In.calls ((rd_T92 l0 x11_1).f2) 0 6 false _ A14.out).mono ?_); rintro e w' ⟨rfl, ⟨nd, rfl⟩⟩; (try first | exact ⟨rfl, _, World.drewN_drewN _ _ _⟩ | exact ⟨rfl, _, Eq.trans (World.drewN_drewN _ _ _) (congrArg (World.drewN _) (Nat.add_assoc _ _ _))⟩))))
           go_meet
           case rel => exact ⟨_, (true), rs, H', ⟨by have := HK1.out; first | omega | exact Nat.le_refl _⟩, ⟨bk BK220⟩, ⟨be⟩⟩
         ·replace c13 := Bool.eq_false_iff.mpr c13
          subst c13
          have H1 : (ephemerisref1_ZoneRulesError.j1 k1 l0 x11_1 l0 (l0.length : Int) x11_1 true ((rd_T92 l0 x11_1).f0) ((rd_T92 l0 x11_1).f1) ((rd_T92 l0 x11_1).f2) ((rd_T92 l0 x11_1).f3) ((rd_T92 l0 x11_1).f4) ((rd_T92 l0 x11_1).f5)) = some r := by rw [if_neg (show ¬ (false = true) by decide)] at H; exact H
          clear H
          have H := H1
          clear H1
          have H' := Aside0.mk H
          clear H
          obtain ⟨hcz22_0, hcz22_1, hcz22_2, hcz22_3, hcz22_4, hcz22_5, hfz22_0, hfz22_1, hfz22_2, hfz22_3, hfz22_4, hfz22_5⟩ := bc6 BK220
          go_wp2_with (first | (go_at_call 15; (with_reducible refine (ephemerisref1_In.calls ((rd_T92 l0 x11_1).f0) 1 12 true _ A10.out).mono ?_); rintro e w' ⟨rfl, ⟨nd, rfl⟩⟩; (try first | exact ⟨rfl, _, World.drewN_drewN _ _ _⟩ | exact ⟨rfl, _, Eq.trans (World.drewN_drewN _ _ _) (congrArg (World.drewN _) (Nat.add_assoc _ _ _))⟩)) | (go_at_call 15; (with_reducible refine (ephemerisref1_In.calls ((rd_T92 l0 x11_1).f1) 1 5 false _ A12.out).mono ?_); rintro e w' ⟨rfl, ⟨nd, rfl⟩⟩; (try first | exact ⟨rfl, _, World.drewN_drewN _ _ _⟩ | exact ⟨rfl, _, Eq.trans (World.drewN_drewN _ _ _) (congrArg (World.drewN _) (Nat.add_assoc _ _ _))⟩)))
          repeat (go_quiet (first | (go_at_call 15; (with_reducible refine (ephemerisref1_In.calls ((rd_T92 l0 x11_1).f0) 1 12 true _ A10.out).mono ?_); rintro e w' ⟨rfl, ⟨nd, rfl⟩⟩; (try first | exact ⟨rfl, _, World.drewN_drewN _ _ _⟩ | exact ⟨rfl, _, Eq.trans (World.drewN_drewN _ _ _) (congrArg (World.drewN _) (Nat.add_assoc _ _ _))⟩)) | (go_at_call 15; (with_reducible refine (ephemerisref1_In.calls ((rd_T92 l0 x11_1).f1) 1 5 false _ A12.out).mono ?_); rintro e w' ⟨rfl, ⟨nd, rfl⟩⟩; (try first | exact ⟨rfl, _, World.drewN_drewN _ _ _⟩ | exact ⟨rfl, _, Eq.trans (World.drewN_drewN _ _ _) (congrArg (World.drewN _) (Nat.add_assoc _ _ _))⟩))); try go_wp2_with (first | (go_at_call 15; (with_reducible refine (ephemerisref1_In.calls ((rd_T92 l0 x11_1).f0) 1 12 true _ A10.out).mono ?_); rintro e w' ⟨rfl, ⟨nd, rfl⟩⟩; (try first | exact ⟨rfl, _, World.drewN_drewN _ _ _⟩ | exact ⟨rfl, _, Eq.trans (World.drewN_drewN _ _ _) (congrArg (World.drewN _) (Nat.add_assoc _ _ _))⟩)) | (go_at_call 15; (with_reducible refine (ephemerisref1_In.calls ((rd_T92 l0 x11_1).f1) 1 5 false _ A12.out).mono ?_); rintro e w' ⟨rfl, ⟨nd, rfl⟩⟩; (try first | exact ⟨rfl, _, World.drewN_drewN _ _ _⟩ | exact ⟨rfl, _, Eq.trans (World.drewN_drewN _ _ _) (congrArg (World.drewN _) (Nat.add_assoc _ _ _))⟩))))
          go_meet
          case rel => exact ⟨_, (true), rs, H', ⟨by have := HK1.out; first | omega | exact Nat.le_refl _⟩, ⟨bk BK220⟩, ⟨be⟩⟩
        ·replace c11 := Bool.eq_false_iff.mpr c11
         subst c11
         have H1 : (ephemerisref1_ZoneRulesError.j1 k1 l0 x11_1 l0 (l0.length : Int) x11_1 true ((rd_T92 l0 x11_1).f0) ((rd_T92 l0 x11_1).f1) ((rd_T92 l0 x11_1).f2) ((rd_T92 l0 x11_1).f3) ((rd_T92 l0 x11_1).f4) ((rd_T92 l0 x11_1).f5)) = some r := by rw [if_neg (show ¬ (false = true) by decide)] at H; exact H
         clear H
         have H := H1
         clear H1
         have H' := Aside0.mk H
         clear H
         obtain ⟨hcz23_0, hcz23_1, hcz23_2, hcz23_3, hcz23_4, hcz23_5, hfz23_0, hfz23_1, hfz23_2, hfz23_3, hfz23_4, hfz23_5⟩ := bc6 BK220
         go_wp2_with (first | (go_at_call 15; (with_reducible refine (ephemerisref1_In.calls ((rd_T92 l0 x11_1).f0) 1 12 false _ A10.out).mono ?_); rintro e w' ⟨rfl, ⟨nd, rfl⟩⟩; (try first | exact ⟨rfl, _, World.drewN_drewN _ _ _⟩ | exact ⟨rfl, _, Eq.trans (World.drewN_drewN _ _ _) (congrArg (World.drewN _) (Nat.add_assoc _ _ _))⟩)))
         repeat (go_quiet (first | (go_at_call 15; (with_reducible refine (ephemerisref1_In.calls ((rd_T92 l0 x11_1).f0) 1 12 false _ A10.out).mono ?_); rintro e w' ⟨rfl, ⟨nd, rfl⟩⟩; (try first | exact ⟨rfl, _, World.drewN_drewN _ _ _⟩ | exact ⟨rfl, _, Eq.trans (World.drewN_drewN _ _ _) (congrArg (World.drewN _) (Nat.add_assoc _ _ _))⟩))); try go_wp2_with (first | (go_at_call 15; (with_reducible refine (ephemerisref1_In.calls ((rd_T92 l0 x11_1).f0) 1 12 false _ A10.out).mono ?_); rintro e w' ⟨rfl, ⟨nd, rfl⟩⟩; (try first | exact ⟨rfl, _, World.drewN_drewN _ _ _⟩ | exact ⟨rfl, _, Eq.trans (World.drewN_drewN _ _ _) (congrArg (World.drewN _) (Nat.add_assoc _ _ _))⟩))))
         go_meet
         case rel => exact ⟨_, (true), rs, H', ⟨by have := HK1.out; first | omega | exact Nat.le_refl _⟩, ⟨bk BK220⟩, ⟨be⟩⟩
       case rest =>
        clear HC7
        (try clear c1); (try clear c2); (try clear p2); (try clear q2); (try clear hx2); (try clear c3); (try clear c4); (try clear c4b0); (try clear c5); (try clear c5b0); (try clear c6); (try clear c6b0); (try clear c11); (try clear c13); (try clear c15); (try clear c17); (try clear c20); (try clear p21); (try clear q21); (try clear hx21); (try clear hcz19_0); (try clear hcz19_1); (try clear hcz19_2); (try clear hcz19_3); (try clear hcz19_4); (try clear hcz19_5); (try clear hcz20_0); (try clear hcz20_1); (try clear hcz20_2); (try clear hcz20_3); (try clear hcz20_4); (try clear hcz20_5); (try clear hcz21_0); (try clear hcz21_1); (try clear hcz21_2); (try clear hcz21_3); (try clear hcz21_4); (try clear hcz21_5); (try clear hcz22_0); (try clear hcz22_1); (try clear hcz22_2); (try clear hcz22_3); (try clear hcz22_4); (try clear hcz22_5); (try clear hcz23_0); (try clear hcz23_1); (try clear hcz23_2); (try clear hcz23_3); (try clear hcz23_4); (try clear hcz23_5); (try clear hcz9_0); (try clear hcz9_1); (try clear hcz9_2); (try clear hcz9_3); (try clear hcz9_4); (try clear hcz9_5); (try clear hfz19_0); (try clear hfz19_1); (try clear hfz19_2); (try clear hfz19_3); (try clear hfz19_4); (try clear hfz19_5); (try clear hfz20_0); (try clear hfz20_1); (try clear hfz20_2); (try clear hfz20_3); (try clear hfz20_4); (try clear hfz20_5); (try clear hfz21_0); (try clear hfz21_1); (try clear hfz21_2); (try clear hfz21_3); (try clear hfz21_4); (try clear hfz21_5); (try clear hfz22_0); (try clear hfz22_1); (try clear hfz22_2); (try clear hfz22_3); (try clear hfz22_4); (try clear hfz22_5); (try clear hfz23_0); (try clear hfz23_1); (try clear hfz23_2); (try clear hfz23_3); (try clear hfz23_4); (try clear hfz23_5); (try clear hfz9_0); (try clear hfz9_1); (try clear hfz9_2); (try clear hfz9_3); (try clear hfz9_4); (try clear hfz9_5); (try clear hx219_0); (try clear hx219_1); (try clear hx219_2); (try clear hx219_3); (try clear hx219_4); (try clear hx219_5); (try clear p2); (try clear p219); (try clear q219)
        obtain ⟨kq, x43_6, rfl, HA, HJ6, BK220, HB⟩ := hcut
        cases kq with
        | zero => exact absurd HA.out (by simp [ephemerisref1_ZoneRulesError.j1])
        | succ kj6 =>
         have H := HA.out
         clear HA
         simp only [ephemerisref1_ZoneRulesError.j1] at H
         by_cases c24 : x43_6 = true
         ·subst c24
          have H1 : (some 3) = some r := by rw [if_pos rfl] at H; exact H
          clear H
          have H := H1
          clear H1
          obtain rfl := Option.some.inj H
          go_wp2
          repeat (go_quiet (fail); try go_wp2)
          go_ret
          exact ⟨by first | rfl | (simp [errW_none, errW_some] <;> rfl) | (simp [*, errW_none, errW_some] <;> rfl), be⟩
         ·replace c24 := Bool.eq_false_iff.mpr c24
          subst c24
          have H1 : ((ephemerisref1_Label.f ((rd_T92 l0 x11_1).f5)).bind fun t226 => (if t226 = true then (if x11_1 > 0 then (if 0 ≤ (wrap64 (x11_1 - 1)) then (if (wrap64 (x11_1 - 1)) < (l0.length : Int) then (if ((rd_T92 l0 (wrap64 (x11_1 - 1))).f0) ≥ ((rd_T92 l0 x11_1).f0) then (some 9) else (ephemerisref1_ZoneRulesError.l0 kj6 l0 l0 (l0.length : Int) (wrap64 (x11_1 + 1)))) else (none)) else (none)) else (ephemerisref1_ZoneRulesError.l0 kj6 l0 l0 (l0.length : Int) (wrap64 (x11_1 + 1)))) else (some 8))) = some r := by rw [if_neg (show ¬ (false = true) by decide)] at H; exact H
          clear H
          have H := H1
          clear H1
          replace H := Option.bind_eq_some_iff.mp H
          obtain ⟨t226, A250, H⟩ := H
          replace H : (if t226 = true then (if x11_1 > 0 then (if 0 ≤ (wrap64 (x11_1 - 1)) then (if (wrap64 (x11_1 - 1)) < (l0.length : Int) then (if ((rd_T92 l0 (wrap64 (x11_1 - 1))).f0) ≥ ((rd_T92 l0 x11_1).f0) then (some 9) else (ephemerisref1_ZoneRulesError.l0 kj6 l0 l0 (l0.length : Int) (wrap64 (x11_1 + 1)))) else (none)) else (none)) else (ephemerisref1_ZoneRulesError.l0 kj6 l0 l0 (l0.length : Int) (wrap64 (x11_1 + 1)))) else (some 8)) = some r := H
          have A25 := Aside0.mk A250
          clear A250
          by_cases c26 : t226 = true
          ·subst c26
           have H1 : (if x11_1 > 0 then (if 0 ≤ (wrap64 (x11_1 - 1)) then (if (wrap64 (x11_1 - 1)) < (l0.length : Int) then (if ((rd_T92 l0 (wrap64 (x11_1 - 1))).f0) ≥ ((rd_T92 l0 x11_1).f0) then (some 9) else (ephemerisref1_ZoneRulesError.l0 kj6 l0 l0 (l0.length : Int) (wrap64 (x11_1 + 1)))) else (none)) else (none)) else (ephemerisref1_ZoneRulesError.l0 kj6 l0 l0 (l0.length : Int) (wrap64 (x11_1 + 1)))) = some r := by rw [if_pos rfl] at H; exact H
           clear H
           have H := H1
           clear H1
           by_cases c27 : x11_1 > 0
           ·rw [if_pos c27] at H
            have c27b0 : decide (0 < x11_1) = true := decide_eq_true c27
            clear c27
            obtain ⟨ji28, hji28⟩ : ∃ j_ : Int, (wrap64 (x11_1 - 1)) = j_ := ⟨_, rfl⟩
            replace H : (if 0 ≤ (ji28) then (if (ji28) < (l0.length : Int) then (if ((rd_T92 l0 (ji28)).f0) ≥ ((rd_T92 l0 x11_1).f0) then (some 9) else (ephemerisref1_ZoneRulesError.l0 kj6 l0 l0 (l0.length : Int) (wrap64 (x11_1 + 1)))) else (none)) else (none)) = some r := by first | (rw [hji28] at H; exact H) | (simp only [hji28] at H ⊢; exact H)
            (try rw [hji28] at A25)
            have hji28w : (IntKind.i64.wrap (x11_1 - 1)) = ji28 := (i64_w _).trans hji28
            by_cases c29 : 0 ≤ (ji28)
            ·rw [if_pos c29] at H
             have c29b0 : decide (0 ≤ (ji28)) = true := decide_eq_true c29
             clear c29
             by_cases c30 : (ji28) < (l0.length : Int)
             ·rw [if_pos c30] at H
              have c30b0 : decide ((ji28) < (l0.length : Int)) = true := decide_eq_true c30
              clear c30
              by_cases c31 : ((rd_T92 l0 (ji28)).f0) ≥ ((rd_T92 l0 x11_1).f0)
              ·rw [if_pos c31] at H
               have c31b0 : decide (((rd_T92 l0 x11_1).f0) ≤ ((rd_T92 l0 (ji28)).f0)) = true := decide_eq_true c31
               clear c31
               obtain rfl := Option.some.inj H
               obtain ⟨hcz32_0, hcz32_1, hcz32_2, hcz32_3, hcz32_4, hcz32_5, hfz32_0, hfz32_1, hfz32_2, hfz32_3, hfz32_4, hfz32_5⟩ := bc6 BK220
               go_wp2_with (first | (go_at_call 45; (with_reducible refine (ephemerisref1_Label.calls ((rd_T92 l0 x11_1).f5) true _ A25.out).mono ?_); rintro e w33 ⟨rfl, hb⟩; have n0_ := bb BK220 hb; have n1_ := Aside0.mk (below_step be hb); clear BK220; clear HB; have BK220 := n0_; have HB := n1_; clear n0_ n1_; (try clear hb); (try clear hb2); (try clear hk); (try clear hi); have p227 : 0 ≤ ((ji28) : Int) := of_decide_eq_true ka; have q227 : (ji28) < (l0.length : Int) := of_decide_eq_true ka; obtain ⟨ad227, e227, hx227_0, hx227_1, hx227_2, hx227_3, hx227_4, hx227_5⟩ := at_T92 HR0.out (ji28) p227 q227; obtain rfl : ad219 = ad227 := (by injection e227); replace hx227_0 := (HB.out.cell (World.block_lt_of_cell? w _ hx227_0)).trans hx227_0; replace hx227_1 := (HB.out.cell (World.block_lt_of_cell? w _ hx227_1)).trans hx227_1; replace hx227_2 := (HB.out.cell (World.block_lt_of_cell? w _ hx227_2)).trans hx227_2; replace hx227_3 := (HB.out.cell (World.block_lt_of_cell? w _ hx227_3)).trans hx227_3; replace hx227_4 := (HB.out.cell (World.block_lt_of_cell? w _ hx227_4)).trans hx227_4; replace hx227_5 := (HB.out.cell (World.block_lt_of_cell? w _ hx227_5)).trans hx227_5; replace p227 := eq_true p227; replace q227 := eq_true q227; obtain ⟨hcz34_0, hcz34_1, hcz34_2, hcz34_3, hcz34_4, hcz34_5, hfz34_0, hfz34_1, hfz34_2, hfz34_3, hfz34_4, hfz34_5⟩ := bc6 BK220))
               repeat (go_quiet (first | (go_at_call 45; (with_reducible refine (ephemerisref1_Label.calls ((rd_T92 l0 x11_1).f5) true _ A25.out).mono ?_); rintro e w33 ⟨rfl, hb⟩; have n0_ := bb BK220 hb; have n1_ := Aside0.mk (below_step be hb); clear BK220; clear HB; have BK220 := n0_; have HB := n1_; clear n0_ n1_; (try clear hb); (try clear hb2); (try clear hk); (try clear hi); have p227 : 0 ≤ ((ji28) : Int) := of_decide_eq_true ka; have q227 : (ji28) < (l0.length : Int) := of_decide_eq_true ka; obtain ⟨ad227, e227, hx227_0, hx227_1, hx227_2, hx227_3, hx227_4, hx227_5⟩ := at_T92 HR0.out (ji28) p227 q227; obtain rfl : ad219 = ad227 := (by injection e227); replace hx227_0 := (HB.out.cell (World.block_lt_of_cell? w _ hx227_0)).trans hx227_0; replace hx227_1 := (HB.out.cell (World.block_lt_of_cell? w _ hx227_1)).trans hx227_1; replace hx227_2 := (HB.out.cell (World.block_lt_of_cell? w _ hx227_2)).trans hx227_2; replace hx227_3 := (HB.out.cell (World.block_lt_of_cell? w _ hx227_3)).trans hx227_3; replace hx227_4 := (HB.out.cell (World.block_lt_of_cell? w _ hx227_4)).trans hx227_4; replace hx227_5 := (HB.out.cell (World.block_lt_of_cell? w _ hx227_5)).trans hx227_5; replace p227 := eq_true p227; replace q227 := eq_true q227; obtain ⟨hcz34_0, hcz34_1, hcz34_2, hcz34_3, hcz34_4, hcz34_5, hfz34_0, hfz34_1, hfz34_2, hfz34_3, hfz34_4, hfz34_5⟩ := bc6 BK220)); try go_wp2_with (first | (go_at_call 45; (with_reducible refine (ephemerisref1_Label.calls ((rd_T92 l0 x11_1).f5) true _ A25.out).mono ?_); rintro e w33 ⟨rfl, hb⟩; have n0_ := bb BK220 hb; have n1_ := Aside0.mk (below_step be hb); clear BK220; clear HB; have BK220 := n0_; have HB := n1_; clear n0_ n1_; (try clear hb); (try clear hb2); (try clear hk); (try clear hi); have p227 : 0 ≤ ((ji28) : Int) := of_decide_eq_true ka; have q227 : (ji28) < (l0.length : Int) := of_decide_eq_true ka; obtain ⟨ad227, e227, hx227_0, hx227_1, hx227_2, hx227_3, hx227_4, hx227_5⟩ := at_T92 HR0.out (ji28) p227 q227; obtain rfl : ad219 = ad227 := (by injection e227); replace hx227_0 := (HB.out.cell (World.block_lt_of_cell? w _ hx227_0)).trans hx227_0; replace hx227_1 := (HB.out.cell (World.block_lt_of_cell? w _ hx227_1)).trans hx227_1; replace hx227_2 := (HB.out.cell (World.block_lt_of_cell? w _ hx227_2)).trans hx227_2; replace hx227_3 := (HB.out.cell (World.block_lt_of_cell? w _ hx227_3)).trans hx227_3; replace hx227_4 := (HB.out.cell (World.block_lt_of_cell? w _ hx227_4)).trans hx227_4; replace hx227_5 := (HB.out.cell (World.block_lt_of_cell? w _ hx227_5)).trans hx227_5; replace p227 := eq_true p227; replace q227 := eq_true q227; obtain ⟨hcz34_0, hcz34_1, hcz34_2, hcz34_3, hcz34_4, hcz34_5, hfz34_0, hfz34_1, hfz34_2, hfz34_3, hfz34_4, hfz34_5⟩ := bc6 BK220)))
               go_ret
               exact ⟨by first | rfl | (simp [errW_none, errW_some] <;> rfl) | (simp only [← hji28]; first | rfl | (simp [errW_none, errW_some] <;> rfl)) | (simp [*, errW_none, errW_some] <;> rfl), be⟩
              ·rw [if_neg c31] at H
               have c31b0 : decide (((rd_T92 l0 x11_1).f0) ≤ ((rd_T92 l0 (ji28)).f0)) = false := decide_eq_false c31
               clear c31
               have H' := Aside0.mk H
               clear H
               obtain ⟨hcz35_0, hcz35_1, hcz35_2, hcz35_3, hcz35_4, hcz35_5, hfz35_0, hfz35_1, hfz35_2, hfz35_3, hfz35_4, hfz35_5⟩ := bc6 BK220
               go_wp2_with (first | (go_at_call 45; (with_reducible refine (ephemerisref1_Label.calls ((rd_T92 l0 x11_1).f5) true _ A25.out).mono ?_); rintro e w36 ⟨rfl, hb⟩; have n0_ := bb BK220 hb; have n1_ := Aside0.mk (below_step be hb); clear BK220; clear HB; have BK220 := n0_; have HB := n1_; clear n0_ n1_; (try clear hb); (try clear hb2); (try clear hk); (try clear hi); have p227 : 0 ≤ ((ji28) : Int) := of_decide_eq_true ka; have q227 : (ji28) < (l0.length : Int) := of_decide_eq_true ka; obtain ⟨ad227, e227, hx227_0, hx227_1, hx227_2, hx227_3, hx227_4, hx227_5⟩ := at_T92 HR0.out (ji28) p227 q227; obtain rfl : ad219 = ad227 := (by injection e227); replace hx227_0 := (HB.out.cell (World.block_lt_of_cell? w _ hx227_0)).trans hx227_0; replace hx227_1 := (HB.out.cell (World.block_lt_of_cell? w _ hx227_1)).trans hx227_1; replace hx227_2 := (HB.out.cell (World.block_lt_of_cell? w _ hx227_2)).trans hx227_2; replace hx227_3 := (HB.out.cell (World.block_lt_of_cell? w _ hx227_3)).trans hx227_3; replace hx227_4 := (HB.out.cell (World.block_lt_of_cell? w _ hx227_4)).trans hx227_4; replace hx227_5 := (HB.out.cell (World.block_lt_of_cell? w _ hx227_5)).trans hx227_5; replace p227 := eq_true p227; replace q227 := eq_true q227; obtain ⟨hcz37_0, hcz37_1, hcz37_2, hcz37_3, hcz37_4, hcz37_5, hfz37_0, hfz37_1, hfz37_2, hfz37_3, hfz37_4, hfz37_5⟩ := bc6 BK220))
               repeat (go_quiet (first | (go_at_call 45; (with_reducible refine (ephemerisref1_Label.calls ((rd_T92 l0 x11_1).f5) true _ A25.out).mono ?_); rintro e w36 ⟨rfl, hb⟩; have n0_ := bb BK220 hb; have n1_ := Aside0.mk (below_step be hb); clear BK220; clear HB; have BK220 := n0_; have HB := n1_; clear n0_ n1_; (try clear hb); (try clear hb2); (try clear hk); (try clear hi); have p227 : 0 ≤ ((ji28) : Int) := of_decide_eq_true ka; have q227 : (ji28) < (l0.length : Int) := of_decide_eq_true ka; obtain ⟨ad227, e227, hx227_0, hx227_1, hx227_2, hx227_3, hx227_4, hx227_5⟩ := at_T92 HR0.out (ji28) p227 q227; obtain rfl : ad219 = ad227 := (by injection e227); replace hx227_0 := (HB.out.cell (World.block_lt_of_cell? w _ hx227_0)).trans hx227_0; replace hx227_1 := (HB.out.cell (World.block_lt_of_cell? w _ hx227_1)).trans hx227_1; replace hx227_2 := (HB.out.cell (World.block_lt_of_cell? w _ hx227_2)).trans hx227_2; replace hx227_3 := (HB.out.cell (World.block_lt_of_cell? w _ hx227_3)).trans hx227_3; replace hx227_4 := (HB.out.cell (World.block_lt_of_cell? w _ hx227_4)).trans hx227_4; replace hx227_5 := (HB.out.cell (World.block_lt_of_cell? w _ hx227_5)).trans hx227_5; replace p227 := eq_true p227; replace q227 := eq_true q227; obtain ⟨hcz37_0, hcz37_1, hcz37_2, hcz37_3, hcz37_4, hcz37_5, hfz37_0, hfz37_1, hfz37_2, hfz37_3, hfz37_4, hfz37_5⟩ := bc6 BK220)); try go_wp2_with (first | (go_at_call 45; (with_reducible refine (ephemerisref1_Label.calls ((rd_T92 l0 x11_1).f5) true _ A25.out).mono ?_); rintro e w36 ⟨rfl, hb⟩; have n0_ := bb BK220 hb; have n1_ := Aside0.mk (below_step be hb); clear BK220; clear HB; have BK220 := n0_; have HB := n1_; clear n0_ n1_; (try clear hb); (try clear hb2); (try clear hk); (try clear hi); have p227 : 0 ≤ ((ji28) : Int) := of_decide_eq_true ka; have q227 : (ji28) < (l0.length : Int) := of_decide_eq_true ka; obtain ⟨ad227, e227, hx227_0, hx227_1, hx227_2, hx227_3, hx227_4, hx227_5⟩ := at_T92 HR0.out (ji28) p227 q227; obtain rfl : ad219 = ad227 := (by injection e227); replace hx227_0 := (HB.out.cell (World.block_lt_of_cell? w _ hx227_0)).trans hx227_0; replace hx227_1 := (HB.out.cell (World.block_lt_of_cell? w _ hx227_1)).trans hx227_1; replace hx227_2 := (HB.out.cell (World.block_lt_of_cell? w _ hx227_2)).trans hx227_2; replace hx227_3 := (HB.out.cell (World.block_lt_of_cell? w _ hx227_3)).trans hx227_3; replace hx227_4 := (HB.out.cell (World.block_lt_of_cell? w _ hx227_4)).trans hx227_4; replace hx227_5 := (HB.out.cell (World.block_lt_of_cell? w _ hx227_5)).trans hx227_5; replace p227 := eq_true p227; replace q227 := eq_true q227; obtain ⟨hcz37_0, hcz37_1, hcz37_2, hcz37_3, hcz37_4, hcz37_5, hfz37_0, hfz37_1, hfz37_2, hfz37_3, hfz37_4, hfz37_5⟩ := bc6 BK220)))
               go_roundg kj6
               case measure => have := HK1.out; have := HJ6.out; omega
               case rel => exact ⟨(wrap64 (x11_1 + 1)), rs, H', ⟨by have := HK1.out; have := HJ6.out; omega⟩, ⟨be⟩⟩
             ·rw [if_neg c30] at H
              exact absurd H (by simp)
            ·rw [if_neg c29] at H
             exact absurd H (by simp)
           ·rw [if_neg c27] at H
            have c27b0 : decide (0 < x11_1) = false := decide_eq_false c27
            clear c27
            have H' := Aside0.mk H
            clear H
            obtain ⟨hcz38_0, hcz38_1, hcz38_2, hcz38_3, hcz38_4, hcz38_5, hfz38_0, hfz38_1, hfz38_2, hfz38_3, hfz38_4, hfz38_5⟩ := bc6 BK220
            go_wp2_with (first | (go_at_call 45; (with_reducible refine (ephemerisref1_Label.calls ((rd_T92 l0 x11_1).f5) true _ A25.out).mono ?_); rintro e w39 ⟨rfl, hb⟩; have n0_ := bb BK220 hb; have n1_ := Aside0.mk (below_step be hb); clear BK220; clear HB; have BK220 := n0_; have HB := n1_; clear n0_ n1_; (try clear hb); (try clear hb2); (try clear hk); (try clear hi)))
            repeat (go_quiet (first | (go_at_call 45; (with_reducible refine (ephemerisref1_Label.calls ((rd_T92 l0 x11_1).f5) true _ A25.out).mono ?_); rintro e w39 ⟨rfl, hb⟩; have n0_ := bb BK220 hb; have n1_ := Aside0.mk (below_step be hb); clear BK220; clear HB; have BK220 := n0_; have HB := n1_; clear n0_ n1_; (try clear hb); (try clear hb2); (try clear hk); (try clear hi))); try go_wp2_with (first | (go_at_call 45; (with_reducible refine (ephemerisref1_Label.calls ((rd_T92 l0 x11_1).f5) true _ A25.out).mono ?_); rintro e w39 ⟨rfl, hb⟩; have n0_ := bb BK220 hb; have n1_ := Aside0.mk (below_step be hb); clear BK220; clear HB; have BK220 := n0_; have HB := n1_; clear n0_ n1_; (try clear hb); (try clear hb2); (try clear hk); (try clear hi))))
            go_roundg kj6
            case measure => have := HK1.out; have := HJ6.out; omega
            case rel => exact ⟨(wrap64 (x11_1 + 1)), rs, H', ⟨by have := HK1.out; have := HJ6.out; omega⟩, ⟨be⟩⟩
          ·replace c26 := Bool.eq_false_iff.mpr c26
           subst c26
           have H1 : (some 8) = some r := by rw [if_neg (show ¬ (false = true) by decide)] at H; exact H
           clear H
           have H := H1
           clear H1
           obtain rfl := Option.some.inj H
           obtain ⟨hcz40_0, hcz40_1, hcz40_2, hcz40_3, hcz40_4, hcz40_5, hfz40_0, hfz40_1, hfz40_2, hfz40_3, hfz40_4, hfz40_5⟩ := bc6 BK220
           go_wp2_with (first | (go_at_call 45; (with_reducible refine (ephemerisref1_Label.calls ((rd_T92 l0 x11_1).f5) false _ A25.out).mono ?_); rintro e w41 ⟨rfl, hb⟩; have n0_ := bb BK220 hb; have n1_ := Aside0.mk (below_step be hb); clear BK220; clear HB; have BK220 := n0_; have HB := n1_; clear n0_ n1_; (try clear hb); (try clear hb2); (try clear hk); (try clear hi)))
           repeat (go_quiet (first | (go_at_call 45; (with_reducible refine (ephemerisref1_Label.calls ((rd_T92 l0 x11_1).f5) false _ A25.out).mono ?_); rintro e w41 ⟨rfl, hb⟩; have n0_ := bb BK220 hb; have n1_ := Aside0.mk (below_step be hb); clear BK220; clear HB; have BK220 := n0_; have HB := n1_; clear n0_ n1_; (try clear hb); (try clear hb2); (try clear hk); (try clear hi))); try go_wp2_with (first | (go_at_call 45; (with_reducible refine (ephemerisref1_Label.calls ((rd_T92 l0 x11_1).f5) false _ A25.out).mono ?_); rintro e w41 ⟨rfl, hb⟩; have n0_ := bb BK220 hb; have n1_ := Aside0.mk (below_step be hb); clear BK220; clear HB; have BK220 := n0_; have HB := n1_; clear n0_ n1_; (try clear hb); (try clear hb2); (try clear hk); (try clear hi))))
           go_ret
           exact ⟨by first | rfl | (simp [errW_none, errW_some] <;> rfl) | (simp [*, errW_none, errW_some] <;> rfl), be⟩
      ·rw [if_neg c6] at H
       exact absurd H (by simp)
     ·rw [if_neg c5] at H
      exact absurd H (by simp)
    ·rw [if_neg c4] at H
     have c4b0 : decide (x11_1 < (l0.length : Int)) = false := decide_eq_false c4
     clear c4
     obtain rfl := Option.some.inj H
     go_wp2
     repeat (go_quiet (fail); try go_wp2)
     go_ret
     exact ⟨by first | rfl | (simp [errW_none, errW_some] <;> rfl) | (simp [*, errW_none, errW_some] <;> rfl), be⟩
 ·replace c3 := Bool.eq_false_iff.mpr c3
  subst c3
  have H1 : (some 2) = some r := by rw [if_neg (show ¬ (false = true) by decide)] at H; exact H
  clear H
  have H := H1
  clear H1
  obtain rfl := Option.some.inj H
  go_enter Tryd.func20, Tryd.ntmps20
  go_wp2_with (first | (go_at_call 15; (with_reducible refine (ephemerisref1_In.calls (l0.length : Int) 1 4 false _ A2.out).mono ?_); rintro e w' ⟨rfl, ⟨nd, rfl⟩⟩; (try first | exact ⟨rfl, _, World.drewN_drewN _ _ _⟩ | exact ⟨rfl, _, Eq.trans (World.drewN_drewN _ _ _) (congrArg (World.drewN _) (Nat.add_assoc _ _ _))⟩)))
  repeat (go_quiet (first | (go_at_call 15; (with_reducible refine (ephemerisref1_In.calls (l0.length : Int) 1 4 false _ A2.out).mono ?_); rintro e w' ⟨rfl, ⟨nd, rfl⟩⟩; (try first | exact ⟨rfl, _, World.drewN_drewN _ _ _⟩ | exact ⟨rfl, _, Eq.trans (World.drewN_drewN _ _ _) (congrArg (World.drewN _) (Nat.add_assoc _ _ _))⟩))); try go_wp2_with (first | (go_at_call 15; (with_reducible refine (ephemerisref1_In.calls (l0.length : Int) 1 4 false _ A2.out).mono ?_); rintro e w' ⟨rfl, ⟨nd, rfl⟩⟩; (try first | exact ⟨rfl, _, World.drewN_drewN _ _ _⟩ | exact ⟨rfl, _, Eq.trans (World.drewN_drewN _ _ _) (congrArg (World.drewN _) (Nat.add_assoc _ _ _))⟩))))
  go_ret
  exact ⟨by first | rfl | (simp [errW_none, errW_some] <;> rfl) | (simp [*, errW_none, errW_some] <;> rfl), be⟩

end Go.Proofs.YtolhlaadhfilnaaDoor.PForecastExtends
