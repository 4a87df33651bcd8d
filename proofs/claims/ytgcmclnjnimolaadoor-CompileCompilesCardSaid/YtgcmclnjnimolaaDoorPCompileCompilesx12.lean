/- The walks of the functions of this part. The proof of ephemerisref1_Eval (in part) is written by hand; the other ones are as the kit's print tells them. -/
-- The walks of the law's functions, told by a program.
import Derived.Test.YtgcmclnjnimolaaDoorY
import Derived.Test.YtgcmclnjnimolaaDoorPCompileCompilesx0
import Derived.Test.YtgcmclnjnimolaaDoorPCompileCompilesx10
import Derived.Test.YtgcmclnjnimolaaDoorPCompileCompilesx11
namespace Go.Proofs.YtgcmclnjnimolaaDoor.PCompileCompiles
open Go.RowKit Go.Proofs.YtgcmclnjnimolaaDoorW.PrintWords Go.Proofs.YtgcmclnjnimolaaDoorW.PrintLast Go.Proofs.YtgcmclnjnimolaaDoorW.PrintMore Go.Proofs.YtgcmclnjnimolaaDoor.Y
attribute [local go_sem] max2_int min2_int max_two min_two max_three min_three max_four min_four   -- for this text's walks alone
set_option linter.unusedVariables false
set_option linter.unusedSimpArgs false

/-! ### ephemerisref1_Eval: function 13 -/
mutual
def ephemerisref1_Eval.j0 : Nat → Int → Int → Int → Int → Int → Int → List (S24) → Option (Int × Int)
 | 0, _, _, _, _, _, _, _ => none
 | k + 1, x1, x6, x7, x8, x233000, x233001, x233002 => if (x233002.length : Int) > 1 then (if 1 < (x233002.length : Int) then ((ephemerisref1_Eval.f k ((rd_T24 x233002 1).f0) ((rd_T24 x233002 1).f1) ((rd_T24 x233002 1).f2) x1).bind fun bt237 => (if bt237.2 = 0 then (ephemerisref1_Eval.j1 k x1 x6 bt237.1 bt237.2 x233000 x233001 x233002) else (some (0, bt237.2)))) else (none)) else (ephemerisref1_Eval.j1 k x1 x6 x7 x8 x233000 x233001 x233002)
def ephemerisref1_Eval.j1 : Nat → Int → Int → Int → Int → Int → Int → List (S24) → Option (Int × Int)
 | 0, _, _, _, _, _, _, _ => none
 | k + 1, x1, x6, x7, x8, x233000, x233001, x233002 => if x233000 = 1 then (ephemerisref1_Eval.j2 k x8 x233001) else (if x233000 = 2 then (ephemerisref1_Eval.j2 k x8 x1) else (if x233000 = 3 then (ephemerisref1_Eval.j2 k x8 (wrap64 (-x6))) else (if x233000 = 4 then (ephemerisref1_Eval.j2 k x8 (wrap64 (x6 + x7))) else (if x233000 = 5 then (ephemerisref1_Eval.j2 k x8 (wrap64 (x6 - x7))) else (if x233000 = 6 then ((ephemerisref1_Mul.f k x6 x7).bind fun bt239 => (ephemerisref1_Eval.j2 k x8 bt239.1)) else (if x233000 = 7 then ((ephemerisref1_Div.f k x6 x7).bind fun bt241 => (ephemerisref1_Eval.j2 k bt241.2.2 bt241.1)) else (if x233000 = 8 then ((ephemerisref1_Div.f k x6 x7).bind fun bt244 => (ephemerisref1_Eval.j2 k bt244.2.2 bt244.2.1)) else (if x233000 = 9 then ((ephemerisref1_yes.f (decide ((wrap64 (x6 - x7)) < 0))).bind fun t247 => (ephemerisref1_Eval.j2 k x8 t247)) else (if x233000 = 10 then ((ephemerisref1_yes.f ((wrap64 (x6 - x7)) == 0)).bind fun t248 => (ephemerisref1_Eval.j2 k x8 t248)) else (if x233000 = 11 then ((ephemerisref1_yes.f (x6 != 0)).bind fun t249 => (ephemerisref1_Eval.j2 k x8 (wrap64 (1 - t249)))) else (if x233000 = 12 then ((ephemerisref1_yes.f (x6 != 0)).bind fun t250 => ((ephemerisref1_yes.f (x7 != 0)).bind fun t251 => (ephemerisref1_Eval.j2 k x8 (wrap64 (t250 * t251))))) else (if x233000 = 13 then ((ephemerisref1_yes.f (x6 != 0)).bind fun t252 => ((ephemerisref1_yes.f (x7 != 0)).bind fun t253 => (ephemerisref1_Eval.j2 k x8 (mx t252 t253)))) else (ephemerisref1_Eval.j2 k x8 0)))))))))))))
def ephemerisref1_Eval.j2 : Nat → Int → Int → Option (Int × Int)
 | 0, _, _ => none
 | k + 1, x8, x9 => if x8 = 0 then ((ephemerisref1_Num.f x9).bind fun t254 => (if t254 = true then (some (x9, 0)) else (some (0, 14)))) else (some (0, x8))
def ephemerisref1_Eval.f : Nat → Int → Int → List (S24) → Int → Option (Int × Int)
 | 0, _, _, _, _ => none
 | k + 1, a0_0, a0_1, l0_2, a1 => if (l0_2.length : Int) > 0 then (if 0 < (l0_2.length : Int) then ((ephemerisref1_Eval.f k ((rd_T24 l0_2 0).f0) ((rd_T24 l0_2 0).f1) ((rd_T24 l0_2 0).f2) a1).bind fun bt234 => (if bt234.2 = 0 then (ephemerisref1_Eval.j0 k a1 bt234.1 0 bt234.2 a0_0 a0_1 l0_2) else (some (0, bt234.2)))) else (none)) else (ephemerisref1_Eval.j0 k a1 0 0 0 a0_0 a0_1 l0_2)
end
theorem ephemerisref1_Eval.mono_l : ∀ k, (∀ y0 y1 y2 y3, LeO (ephemerisref1_Eval.f k y0 y1 y2 y3) (ephemerisref1_Eval.f (k + 1) y0 y1 y2 y3)) ∧ (∀ y0 y1 y2 y3 y4 y5 y6, LeO (ephemerisref1_Eval.j0 k y0 y1 y2 y3 y4 y5 y6) (ephemerisref1_Eval.j0 (k + 1) y0 y1 y2 y3 y4 y5 y6)) ∧ (∀ y0 y1 y2 y3 y4 y5 y6, LeO (ephemerisref1_Eval.j1 k y0 y1 y2 y3 y4 y5 y6) (ephemerisref1_Eval.j1 (k + 1) y0 y1 y2 y3 y4 y5 y6)) ∧ (∀ y0 y1, LeO (ephemerisref1_Eval.j2 k y0 y1) (ephemerisref1_Eval.j2 (k + 1) y0 y1))
 | 0 => ⟨fun _ _ _ _ r h => by simp [ephemerisref1_Eval.f] at h, fun _ _ _ _ _ _ _ r h => by simp [ephemerisref1_Eval.j0] at h, fun _ _ _ _ _ _ _ r h => by simp [ephemerisref1_Eval.j1] at h, fun _ _ r h => by simp [ephemerisref1_Eval.j2] at h⟩
 | k + 1 => by
  obtain ⟨ih0, ih1, ih2, ih3⟩ := ephemerisref1_Eval.mono_l k
  refine ⟨?_, ?_, ?_, ?_⟩
  ·intro y0 y1 y2 y3
   unfold ephemerisref1_Eval.f
   repeat' first
   | (with_reducible exact ih0 _ _ _ _)
   | (with_reducible exact ih1 _ _ _ _ _ _ _)
   | (with_reducible exact ih2 _ _ _ _ _ _ _)
   | (with_reducible exact ih3 _ _)
   | (with_reducible exact ephemerisref1_Div.mono _ _ _)
   | (with_reducible exact ephemerisref1_Mul.mono _ _ _)
   | (with_reducible exact LeO.refl _)
   | (with_reducible exact LeO.none _)
   | (with_reducible refine LeO.ite ?_ ?_)
   | (with_reducible refine LeO.bind ?_ (fun _ => ?_))
   | exact ih0 _ _ _ _
   | exact ih1 _ _ _ _ _ _ _
   | exact ih2 _ _ _ _ _ _ _
   | exact ih3 _ _
   | exact ephemerisref1_Div.mono _ _ _
   | exact ephemerisref1_Mul.mono _ _ _
   | exact LeO.none _
   | refine LeO.ite ?_ ?_
   | refine LeO.bind ?_ (fun _ => ?_)
  ·intro y0 y1 y2 y3 y4 y5 y6
   unfold ephemerisref1_Eval.j0
   repeat' first
   | (with_reducible exact ih0 _ _ _ _)
   | (with_reducible exact ih1 _ _ _ _ _ _ _)
   | (with_reducible exact ih2 _ _ _ _ _ _ _)
   | (with_reducible exact ih3 _ _)
   | (with_reducible exact ephemerisref1_Div.mono _ _ _)
   | (with_reducible exact ephemerisref1_Mul.mono _ _ _)
   | (with_reducible exact LeO.refl _)
   | (with_reducible exact LeO.none _)
   | (with_reducible refine LeO.ite ?_ ?_)
   | (with_reducible refine LeO.bind ?_ (fun _ => ?_))
   | exact ih0 _ _ _ _
   | exact ih1 _ _ _ _ _ _ _
   | exact ih2 _ _ _ _ _ _ _
   | exact ih3 _ _
   | exact ephemerisref1_Div.mono _ _ _
   | exact ephemerisref1_Mul.mono _ _ _
   | exact LeO.none _
   | refine LeO.ite ?_ ?_
   | refine LeO.bind ?_ (fun _ => ?_)
  ·intro y0 y1 y2 y3 y4 y5 y6
   unfold ephemerisref1_Eval.j1
   repeat' first
   | (with_reducible exact ih0 _ _ _ _)
   | (with_reducible exact ih1 _ _ _ _ _ _ _)
   | (with_reducible exact ih2 _ _ _ _ _ _ _)
   | (with_reducible exact ih3 _ _)
   | (with_reducible exact ephemerisref1_Div.mono _ _ _)
   | (with_reducible exact ephemerisref1_Mul.mono _ _ _)
   | (with_reducible exact LeO.refl _)
   | (with_reducible exact LeO.none _)
   | (with_reducible refine LeO.ite ?_ ?_)
   | (with_reducible refine LeO.bind ?_ (fun _ => ?_))
   | exact ih0 _ _ _ _
   | exact ih1 _ _ _ _ _ _ _
   | exact ih2 _ _ _ _ _ _ _
   | exact ih3 _ _
   | exact ephemerisref1_Div.mono _ _ _
   | exact ephemerisref1_Mul.mono _ _ _
   | exact LeO.none _
   | refine LeO.ite ?_ ?_
   | refine LeO.bind ?_ (fun _ => ?_)
  ·intro y0 y1
   unfold ephemerisref1_Eval.j2
   repeat' first
   | (with_reducible exact ih0 _ _ _ _)
   | (with_reducible exact ih1 _ _ _ _ _ _ _)
   | (with_reducible exact ih2 _ _ _ _ _ _ _)
   | (with_reducible exact ih3 _ _)
   | (with_reducible exact ephemerisref1_Div.mono _ _ _)
   | (with_reducible exact ephemerisref1_Mul.mono _ _ _)
   | (with_reducible exact LeO.refl _)
   | (with_reducible exact LeO.none _)
   | (with_reducible refine LeO.ite ?_ ?_)
   | (with_reducible refine LeO.bind ?_ (fun _ => ?_))
   | exact ih0 _ _ _ _
   | exact ih1 _ _ _ _ _ _ _
   | exact ih2 _ _ _ _ _ _ _
   | exact ih3 _ _
   | exact ephemerisref1_Div.mono _ _ _
   | exact ephemerisref1_Mul.mono _ _ _
   | exact LeO.none _
   | refine LeO.ite ?_ ?_
   | refine LeO.bind ?_ (fun _ => ?_)
theorem ephemerisref1_Eval.mono : ∀ a0 a1 a2 a3 k, LeO (ephemerisref1_Eval.f k a0 a1 a2 a3) (ephemerisref1_Eval.f (k + 1) a0 a1 a2 a3) := by
 intro a0 a1 a2 a3 k
 obtain ⟨ih0, ih1, ih2, ih3⟩ := ephemerisref1_Eval.mono_l k
 exact ih0 a0 a1 a2 a3
set_option maxHeartbeats 8000000 in
set_option maxRecDepth 100000 in
theorem ephemerisref1_Eval.calls (k : Nat) : ∀ (a0_0 : Int) (a0_1 : Int) (A0_2 : Option Addr) (c0_2 : Nat) (l0_2 : List (S24)) (a1 : Int) (r1 : Int) (r2 : Int) (w : World) (hr0_2 : Kd.C k24 w A0_2 l0_2.length l0_2) (hc0_2 : l0_2.length ≤ c0_2) (h : ephemerisref1_Eval.f k a0_0 a0_1 l0_2 a1 = some (r1, r2)),
  Calls Tryd.prog 13 #[.agg #[.int .i64 a0_0, .int .i64 a0_1, .slice A0_2 l0_2.length c0_2], .int .i64 a1] w fun e w' => e = .returned (.tuple #[.int .i64 r1, .int .i64 r2]) ∧ Below w.heap.size w w' := by
 induction k using Nat.strongRecOn with
 | _ k ih =>
 intro a0_0 a0_1 A0_2 c0_2 l0_2 a1 r1 r2 w hr0_2 hc0_2 h
 cases k with
 | zero => exact absurd h (by simp [ephemerisref1_Eval.f])
 | succ k =>
 simp only [ephemerisref1_Eval.f] at h
 have hu24 := Tryd.underlying24
 have HR0_2 := Aside0.mk hr0_2
 have HC0_2 := Aside0.mk hc0_2
 clear hr0_2 hc0_2
 have HB := Aside0.mk (Below.refl w.heap.size w)
 have H : (if (l0_2.length : Int) > 0 then (if 0 < (l0_2.length : Int) then ((ephemerisref1_Eval.f k ((rd_T24 l0_2 0).f0) ((rd_T24 l0_2 0).f1) ((rd_T24 l0_2 0).f2) a1).bind fun bt234 => (if bt234.2 = 0 then (ephemerisref1_Eval.j0 k a1 bt234.1 0 bt234.2 a0_0 a0_1 l0_2) else (some (0, bt234.2)))) else (none)) else (ephemerisref1_Eval.j0 k a1 0 0 0 a0_0 a0_1 l0_2)) = some (r1, r2) := h
 clear h
 have HC3 := Aside0.mk H
 clear H
 go_enter Tryd.func13, Tryd.ntmps13
 go_upto_if 13 with (first | ((with_reducible refine gate_dst (N := 2) rfl ?_); refine box_event ?hg (N := 2) ?hd (cs := #[.int .i64 a0_0, .int .i64 a0_1, .slice A0_2 l0_2.length c0_2]) (t := 24) ?hr ?_; (case hd => rfl); (case hg => rfl); (case hr => first | (go_simp; done) | (go_simp; rfl)); intro gb232 hg w4 hbox hb; have n0_ := Aside0.mk (below_step be hb); have n1_ := Aside0.mk (hbox); have n2_ := gs hg HB; have n3_ := n2_; clear HB; have HB := n0_; have BK232 := n1_; have GW232 := n2_; have GE232 := n3_; clear n0_ n1_ n2_ n3_; clear hb hbox hg; obtain ⟨hcz5_0, hcz5_1, hcz5_2, hfz5_0, hfz5_1, hfz5_2⟩ := bc3 BK232))
 (try simp only [Act.put, List.setIfInBounds_toArray, List.set_cons_zero, List.set_cons_succ])
 go_cut [6, 8] (fun v6 v8 wc => ∃ (kq : Nat) (x6_2 : Int) (x8_2 : Int), v6 = .int .i64 x6_2 ∧ v8 = .int .i64 x8_2 ∧ Aside0 (ephemerisref1_Eval.j0 kq a1 x6_2 0 x8_2 a0_0 a0_1 l0_2 = some (r1, r2)) ∧ Aside0 (kq ≤ k) ∧ Aside0 (wc.heap[gb232]? = some (.cells #[.int .i64 a0_0, .int .i64 a0_1, (.slice A0_2 l0_2.length c0_2)] 24 (0, 0))) ∧ Aside0 (Below w.heap.size w wc))
 case first =>
  have H := HC3.out
  clear HC3
  by_cases c6 : (l0_2.length : Int) > 0
  ·rw [if_pos c6] at H
   have c6b0 : decide (0 < (l0_2.length : Int)) = true := decide_eq_true c6
   have c6n0 : decide (0 < l0_2.length) = true := decide_eq_true (by omega)
   have c6b1 : decide (0 < l0_2.length) = true := decide_eq_true (by omega)
   clear c6
   (first | rw [c6b0] | rw [c6n0] | (simp only [i64_w, i32_w]; rw [c6b0]) | skip)
   by_cases c7 : 0 < (l0_2.length : Int)
   ·rw [if_pos c7] at H
    have c7b0 : decide (0 < (l0_2.length : Int)) = true := decide_eq_true c7
    have c7n0 : decide (0 < l0_2.length) = true := decide_eq_true (by omega)
    have c7b1 : decide (0 < l0_2.length) = true := decide_eq_true (by omega)
    clear c7
    replace H := Option.bind_eq_some_iff.mp H
    obtain ⟨⟨t234, t235⟩, A80, H⟩ := H
    replace H : (if t235 = 0 then (ephemerisref1_Eval.j0 k a1 t234 0 t235 a0_0 a0_1 l0_2) else (some (0, t235))) = some (r1, r2) := H
    have A8 := Aside0.mk A80
    clear A80
    by_cases c9 : t235 = 0
    ·rw [if_pos c9] at H
     have c9b0 : (t235 == 0) = true := beq_iff_eq.mpr c9
     have c9b1 : (t235 != 0) = false := bne_eq_false_iff_eq.mpr c9
     clear c9
     have H' := Aside0.mk H
     clear H
     obtain ⟨hcz10_0, hcz10_1, hcz10_2, hfz10_0, hfz10_1, hfz10_2⟩ := bc3 BK232
     have p233 : 0 ≤ (0 : Int) := (by omega)
     have q233 : 0 < (l0_2.length : Int) := of_decide_eq_true ka
     obtain ⟨ad233, A233_2, c233_2, e233, hx233_0, hx233_1, hx233_2, hl233_2, hi233_2⟩ := at_T24 HR0_2.out 0 p233 q233
     cases e233
     have qi233 : (0 < l0_2.length) = True := eq_true (by omega)
     (try rw [show ((0 : Int)).toNat = 0 from rfl] at hx233_0)
     (try rw [show 0 * 3 = 0 from rfl] at hx233_0)
     (try rw [Addr.add_zero'] at hx233_0)
     (try rw [show ((0 : Int)).toNat = 0 from rfl] at hx233_1)
     (try rw [show 0 * 3 = 0 from rfl] at hx233_1)
     (try rw [Addr.add_zero'] at hx233_1)
     (try rw [show ((0 : Int)).toNat = 0 from rfl] at hx233_2)
     (try rw [show 0 * 3 = 0 from rfl] at hx233_2)
     (try rw [Addr.add_zero'] at hx233_2)
     replace hx233_0 := (HB.out.cell (World.block_lt_of_cell? w _ hx233_0)).trans hx233_0
     replace hx233_1 := (HB.out.cell (World.block_lt_of_cell? w _ hx233_1)).trans hx233_1
     replace hx233_2 := (HB.out.cell (World.block_lt_of_cell? w _ hx233_2)).trans hx233_2
     have HR233_2 := Aside0.mk hi233_2
     have HC233_2 := Aside0.mk hl233_2
     clear hi233_2 hl233_2
     replace p233 := eq_true p233
     replace q233 := eq_true q233
     go_wp2_with (first | ((with_reducible refine gate_callee (f := 13) rfl ?_); refine goesL_ (some 20) rfl rfl Tryd.func13 kx rfl #[.agg #[.int .i64 ((rd_T24 l0_2 0).f0), .int .i64 ((rd_T24 l0_2 0).f1), .slice A233_2 ((rd_T24 l0_2 0).f2).length c233_2], .int .i64 a1] rfl aa ?_; (with_reducible refine (ih k (by omega) ((rd_T24 l0_2 0).f0) ((rd_T24 l0_2 0).f1) _ _ ((rd_T24 l0_2 0).f2) a1 t234 t235 _ ?side1 ?side2 A8.out).mono ?_); (case side1 => exact kc (Kd.C_below HR233_2.out HB.out)); (case side2 => exact HC233_2.out); rintro e w11 ⟨rfl, hb⟩; refine ⟨_, rfl, ?_⟩; have n0_ := bb BK232 hb; have n1_ := Aside0.mk (below_step be hb); clear BK232; clear HB; have BK232 := n0_; have HB := n1_; clear n0_ n1_; (try clear hb); (try clear hb2); (try clear hk); (try clear hi)))
     go_meet
     case rel => exact ⟨_, (t234), (t235), rs, rs, H', ⟨by first | omega | exact Nat.le_refl _⟩, ⟨bk BK232⟩, ⟨be⟩⟩
    ·rw [if_neg c9] at H
     have c9b0 : (t235 == 0) = false := beq_eq_false_iff_ne.mpr c9
     have c9b1 : (t235 != 0) = true := bne_iff_ne.mpr c9
     simp only [Option.some.injEq, Prod.mk.injEq] at H
     obtain ⟨rfl, rfl⟩ := H
     obtain ⟨hcz12_0, hcz12_1, hcz12_2, hfz12_0, hfz12_1, hfz12_2⟩ := bc3 BK232
     have p233 : 0 ≤ (0 : Int) := (by omega)
     have q233 : 0 < (l0_2.length : Int) := of_decide_eq_true ka
     obtain ⟨ad233, A233_2, c233_2, e233, hx233_0, hx233_1, hx233_2, hl233_2, hi233_2⟩ := at_T24 HR0_2.out 0 p233 q233
     cases e233
     have qi233 : (0 < l0_2.length) = True := eq_true (by omega)
     (try rw [show ((0 : Int)).toNat = 0 from rfl] at hx233_0)
     (try rw [show 0 * 3 = 0 from rfl] at hx233_0)
     (try rw [Addr.add_zero'] at hx233_0)
     (try rw [show ((0 : Int)).toNat = 0 from rfl] at hx233_1)
     (try rw [show 0 * 3 = 0 from rfl] at hx233_1)
     (try rw [Addr.add_zero'] at hx233_1)
     (try rw [show ((0 : Int)).toNat = 0 from rfl] at hx233_2)
     (try rw [show 0 * 3 = 0 from rfl] at hx233_2)
     (try rw [Addr.add_zero'] at hx233_2)
     replace hx233_0 := (HB.out.cell (World.block_lt_of_cell? w _ hx233_0)).trans hx233_0
     replace hx233_1 := (HB.out.cell (World.block_lt_of_cell? w _ hx233_1)).trans hx233_1
     replace hx233_2 := (HB.out.cell (World.block_lt_of_cell? w _ hx233_2)).trans hx233_2
     have HR233_2 := Aside0.mk hi233_2
     have HC233_2 := Aside0.mk hl233_2
     clear hi233_2 hl233_2
     replace p233 := eq_true p233
     replace q233 := eq_true q233
     go_wp2_with (first | ((with_reducible refine gate_callee (f := 13) rfl ?_); refine goesL_ (some 20) rfl rfl Tryd.func13 kx rfl #[.agg #[.int .i64 ((rd_T24 l0_2 0).f0), .int .i64 ((rd_T24 l0_2 0).f1), .slice A233_2 ((rd_T24 l0_2 0).f2).length c233_2], .int .i64 a1] rfl aa ?_; (with_reducible refine (ih k (by omega) ((rd_T24 l0_2 0).f0) ((rd_T24 l0_2 0).f1) _ _ ((rd_T24 l0_2 0).f2) a1 t234 t235 _ ?side1 ?side2 A8.out).mono ?_); (case side1 => exact kc (Kd.C_below HR233_2.out HB.out)); (case side2 => exact HC233_2.out); rintro e w13 ⟨rfl, hb⟩; refine ⟨_, rfl, ?_⟩; have n0_ := bb BK232 hb; have n1_ := Aside0.mk (below_step be hb); clear BK232; clear HB; have BK232 := n0_; have HB := n1_; clear n0_ n1_; (try clear hb); (try clear hb2); (try clear hk); (try clear hi)))
     go_ret2
     exact ⟨by first | rfl | (simp [errW_none, errW_some] <;> rfl) | (simp [*, errW_none, errW_some] <;> rfl), be⟩
   ·rw [if_neg c7] at H
    exact absurd H (by simp)
  ·rw [if_neg c6] at H
   have c6b0 : decide (0 < (l0_2.length : Int)) = false := decide_eq_false c6
   have c6n0 : decide (0 < l0_2.length) = false := decide_eq_false (by omega)
   have c6b1 : decide (0 < l0_2.length) = false := decide_eq_false (by omega)
   clear c6
   (first | rw [c6b0] | rw [c6n0] | (simp only [i64_w, i32_w]; rw [c6b0]) | skip)
   have H' := Aside0.mk H
   clear H
   go_wp2
   go_meet
   case rel => exact ⟨_, (0), (0), rs, rs, H', ⟨by first | omega | exact Nat.le_refl _⟩, ⟨bk BK232⟩, ⟨be⟩⟩
 case rest =>
  clear HC3
  (try clear c1); (try clear c2); (try clear p2); (try clear q2); (try clear hx2); (try clear qi2); (try clear c6); (try clear c6b0); (try clear c6b1); (try clear c7); (try clear c7b0); (try clear c7b1); (try clear c9); (try clear c9b0); (try clear c9b1); (try clear c13); (try clear hcz10_0); (try clear hcz10_1); (try clear hcz10_2); (try clear hcz12_0); (try clear hcz12_1); (try clear hcz12_2); (try clear hcz5_0); (try clear hcz5_1); (try clear hcz5_2); (try clear hfz10_0); (try clear hfz10_1); (try clear hfz10_2); (try clear hfz12_0); (try clear hfz12_1); (try clear hfz12_2); (try clear hfz5_0); (try clear hfz5_1); (try clear hfz5_2); (try clear hx233_0); (try clear hx233_1); (try clear hx233_2); (try clear p233); (try clear q233)
  obtain ⟨kq, x6_2, x8_2, rfl, rfl, HA, HJ2, BK232, HB⟩ := hcut
  cases kq with
  | zero => exact absurd HA.out (by simp [ephemerisref1_Eval.j0])
  | succ kj2 =>
   have H := HA.out
   clear HA
   simp only [ephemerisref1_Eval.j0] at H
   have HC14 := Aside0.mk H
   clear H
   obtain ⟨hcz15_0, hcz15_1, hcz15_2, hfz15_0, hfz15_1, hfz15_2⟩ := bc3 BK232
   go_upto_if 29 with (fail)
   go_cut [7, 8] (fun v7 v8 wc => ∃ (kq : Nat) (x7_13 : Int) (x8_13 : Int), v7 = .int .i64 x7_13 ∧ v8 = .int .i64 x8_13 ∧ Aside0 (ephemerisref1_Eval.j1 kq a1 x6_2 x7_13 x8_13 a0_0 a0_1 l0_2 = some (r1, r2)) ∧ Aside0 (kq ≤ kj2) ∧ Aside0 (wc.heap[gb232]? = some (.cells #[.int .i64 a0_0, .int .i64 a0_1, (.slice A0_2 l0_2.length c0_2)] 24 (0, 0))) ∧ Aside0 (Below w.heap.size w wc))
   case first =>
    have H := HC14.out
    clear HC14
    by_cases c16 : (l0_2.length : Int) > 1
    ·rw [if_pos c16] at H
     have c16b0 : decide (1 < (l0_2.length : Int)) = true := decide_eq_true c16
     have c16n0 : decide (1 < l0_2.length) = true := decide_eq_true (by omega)
     have c16b1 : decide (1 < l0_2.length) = true := decide_eq_true (by omega)
     clear c16
     (first | rw [c16b0] | rw [c16n0] | (simp only [i64_w, i32_w]; rw [c16b0]) | skip)
     by_cases c17 : 1 < (l0_2.length : Int)
     ·rw [if_pos c17] at H
      have c17b0 : decide (1 < (l0_2.length : Int)) = true := decide_eq_true c17
      have c17n0 : decide (1 < l0_2.length) = true := decide_eq_true (by omega)
      have c17b1 : decide (1 < l0_2.length) = true := decide_eq_true (by omega)
      clear c17
      replace H := Option.bind_eq_some_iff.mp H
      obtain ⟨⟨t237, t238⟩, A180, H⟩ := H
      replace H : (if t238 = 0 then (ephemerisref1_Eval.j1 kj2 a1 x6_2 t237 t238 a0_0 a0_1 l0_2) else (some (0, t238))) = some (r1, r2) := H
      have A18 := Aside0.mk A180
      clear A180
      by_cases c19 : t238 = 0
      ·rw [if_pos c19] at H
       have c19b0 : (t238 == 0) = true := beq_iff_eq.mpr c19
       have c19b1 : (t238 != 0) = false := bne_eq_false_iff_eq.mpr c19
       clear c19
       have H' := Aside0.mk H
       clear H
       obtain ⟨hcz20_0, hcz20_1, hcz20_2, hfz20_0, hfz20_1, hfz20_2⟩ := bc3 BK232
       have p236 : 0 ≤ (1 : Int) := (by omega)
       have q236 : 1 < (l0_2.length : Int) := of_decide_eq_true ka
       obtain ⟨ad236, A236_2, c236_2, e236, hx236_0, hx236_1, hx236_2, hl236_2, hi236_2⟩ := at_T24 HR0_2.out 1 p236 q236
       cases e236
       (try simp only [show (1 : Int).toNat = 1 from rfl, Nat.reduceMul, Nat.reduceEqDiff, Go.Addr.add, ↓reduceIte] at hx236_0)
       (try simp only [show (1 : Int).toNat = 1 from rfl, Nat.reduceMul, Nat.reduceEqDiff, Go.Addr.add, ↓reduceIte] at hx236_1)
       (try simp only [show (1 : Int).toNat = 1 from rfl, Nat.reduceMul, Nat.reduceEqDiff, Go.Addr.add, ↓reduceIte] at hx236_2)
       have qi236 : (1 < l0_2.length) = True := eq_true (by omega)
       (try rw [show ((1 : Int)).toNat = 1 from rfl] at hx236_0)
       (try rw [show 1 * 3 = 3 from rfl] at hx236_0)
       (try rw [show ((1 : Int)).toNat = 1 from rfl] at hx236_1)
       (try rw [show 1 * 3 = 3 from rfl] at hx236_1)
       (try rw [show ((1 : Int)).toNat = 1 from rfl] at hx236_2)
       (try rw [show 1 * 3 = 3 from rfl] at hx236_2)
       replace hx236_0 := (HB.out.cell (World.block_lt_of_cell? w _ hx236_0)).trans hx236_0
       replace hx236_1 := (HB.out.cell (World.block_lt_of_cell? w _ hx236_1)).trans hx236_1
       replace hx236_2 := (HB.out.cell (World.block_lt_of_cell? w _ hx236_2)).trans hx236_2
       have HR236_2 := Aside0.mk hi236_2
       have HC236_2 := Aside0.mk hl236_2
       clear hi236_2 hl236_2
       replace p236 := eq_true p236
       replace q236 := eq_true q236
       go_wp2_with (first | ((with_reducible refine gate_callee (f := 13) rfl ?_); refine goesL_ (some 36) rfl rfl Tryd.func13 kx rfl #[.agg #[.int .i64 ((rd_T24 l0_2 1).f0), .int .i64 ((rd_T24 l0_2 1).f1), .slice A236_2 ((rd_T24 l0_2 1).f2).length c236_2], .int .i64 a1] rfl aa ?_; (with_reducible refine (ih kj2 (by have := HJ2.out; omega) ((rd_T24 l0_2 1).f0) ((rd_T24 l0_2 1).f1) _ _ ((rd_T24 l0_2 1).f2) a1 t237 t238 _ ?side1 ?side2 A18.out).mono ?_); (case side1 => exact kc (Kd.C_below HR236_2.out HB.out)); (case side2 => exact HC236_2.out); rintro e w21 ⟨rfl, hb⟩; refine ⟨_, rfl, ?_⟩; have n0_ := bb BK232 hb; have n1_ := Aside0.mk (below_step be hb); clear BK232; clear HB; have BK232 := n0_; have HB := n1_; clear n0_ n1_; (try clear hb); (try clear hb2); (try clear hk); (try clear hi)))
       go_meet
       case rel => exact ⟨_, (t237), (t238), rs, rs, H', ⟨by have := HJ2.out; first | omega | exact Nat.le_refl _⟩, ⟨bk BK232⟩, ⟨be⟩⟩
      ·rw [if_neg c19] at H
       have c19b0 : (t238 == 0) = false := beq_eq_false_iff_ne.mpr c19
       have c19b1 : (t238 != 0) = true := bne_iff_ne.mpr c19
       simp only [Option.some.injEq, Prod.mk.injEq] at H
       obtain ⟨rfl, rfl⟩ := H
       obtain ⟨hcz22_0, hcz22_1, hcz22_2, hfz22_0, hfz22_1, hfz22_2⟩ := bc3 BK232
       have p236 : 0 ≤ (1 : Int) := (by omega)
       have q236 : 1 < (l0_2.length : Int) := of_decide_eq_true ka
       obtain ⟨ad236, A236_2, c236_2, e236, hx236_0, hx236_1, hx236_2, hl236_2, hi236_2⟩ := at_T24 HR0_2.out 1 p236 q236
       cases e236
       (try simp only [show (1 : Int).toNat = 1 from rfl, Nat.reduceMul, Nat.reduceEqDiff, Go.Addr.add, ↓reduceIte] at hx236_0)
       (try simp only [show (1 : Int).toNat = 1 from rfl, Nat.reduceMul, Nat.reduceEqDiff, Go.Addr.add, ↓reduceIte] at hx236_1)
       (try simp only [show (1 : Int).toNat = 1 from rfl, Nat.reduceMul, Nat.reduceEqDiff, Go.Addr.add, ↓reduceIte] at hx236_2)
       have qi236 : (1 < l0_2.length) = True := eq_true (by omega)
       (try rw [show ((1 : Int)).toNat = 1 from rfl] at hx236_0)
       (try rw [show 1 * 3 = 3 from rfl] at hx236_0)
       (try rw [show ((1 : Int)).toNat = 1 from rfl] at hx236_1)
       (try rw [show 1 * 3 = 3 from rfl] at hx236_1)
       (try rw [show ((1 : Int)).toNat = 1 from rfl] at hx236_2)
       (try rw [show 1 * 3 = 3 from rfl] at hx236_2)
       replace hx236_0 := (HB.out.cell (World.block_lt_of_cell? w _ hx236_0)).trans hx236_0
       replace hx236_1 := (HB.out.cell (World.block_lt_of_cell? w _ hx236_1)).trans hx236_1
       replace hx236_2 := (HB.out.cell (World.block_lt_of_cell? w _ hx236_2)).trans hx236_2
       have HR236_2 := Aside0.mk hi236_2
       have HC236_2 := Aside0.mk hl236_2
       clear hi236_2 hl236_2
       replace p236 := eq_true p236
       replace q236 := eq_true q236
       go_wp2_with (first | ((with_reducible refine gate_callee (f := 13) rfl ?_); refine goesL_ (some 36) rfl rfl Tryd.func13 kx rfl #[.agg #[.int .i64 ((rd_T24 l0_2 1).f0), .int .i64 ((rd_T24 l0_2 1).f1), .slice A236_2 ((rd_T24 l0_2 1).f2).length c236_2], .int .i64 a1] rfl aa ?_; (with_reducible refine (ih kj2 (by have := HJ2.out; omega) ((rd_T24 l0_2 1).f0) ((rd_T24 l0_2 1).f1) _ _ ((rd_T24 l0_2 1).f2) a1 t237 t238 _ ?side1 ?side2 A18.out).mono ?_); (case side1 => exact kc (Kd.C_below HR236_2.out HB.out)); (case side2 => exact HC236_2.out); rintro e w23 ⟨rfl, hb⟩; refine ⟨_, rfl, ?_⟩; have n0_ := bb BK232 hb; have n1_ := Aside0.mk (below_step be hb); clear BK232; clear HB; have BK232 := n0_; have HB := n1_; clear n0_ n1_; (try clear hb); (try clear hb2); (try clear hk); (try clear hi)))
       go_ret2
       exact ⟨by first | rfl | (simp [errW_none, errW_some] <;> rfl) | (simp [*, errW_none, errW_some] <;> rfl), be⟩
     ·rw [if_neg c17] at H
      exact absurd H (by simp)
    ·rw [if_neg c16] at H
     have c16b0 : decide (1 < (l0_2.length : Int)) = false := decide_eq_false c16
     have c16n0 : decide (1 < l0_2.length) = false := decide_eq_false (by omega)
     have c16b1 : decide (1 < l0_2.length) = false := decide_eq_false (by omega)
     clear c16
     (first | rw [c16b0] | rw [c16n0] | (simp only [i64_w, i32_w]; rw [c16b0]) | skip)
     have H' := Aside0.mk H
     clear H
     go_wp2
     go_meet
     case rel => exact ⟨_, (0), (x8_2), rs, rs, H', ⟨by have := HJ2.out; first | omega | exact Nat.le_refl _⟩, ⟨bk BK232⟩, ⟨be⟩⟩
   case rest =>
    clear HC14
    (try clear c1); (try clear c2); (try clear p2); (try clear q2); (try clear hx2); (try clear qi2); (try clear c6); (try clear c6b0); (try clear c6b1); (try clear c7); (try clear c7b0); (try clear c7b1); (try clear c9); (try clear c9b0); (try clear c9b1); (try clear c13); (try clear c16); (try clear c16b0); (try clear c16b1); (try clear c17); (try clear c17b0); (try clear c17b1); (try clear c19); (try clear c19b0); (try clear c19b1); (try clear c23); (try clear p23); (try clear q23); (try clear hx23); (try clear qi23); (try clear hcz10_0); (try clear hcz10_1); (try clear hcz10_2); (try clear hcz12_0); (try clear hcz12_1); (try clear hcz12_2); (try clear hcz15_0); (try clear hcz15_1); (try clear hcz15_2); (try clear hcz20_0); (try clear hcz20_1); (try clear hcz20_2); (try clear hcz22_0); (try clear hcz22_1); (try clear hcz22_2); (try clear hcz5_0); (try clear hcz5_1); (try clear hcz5_2); (try clear hfz10_0); (try clear hfz10_1); (try clear hfz10_2); (try clear hfz12_0); (try clear hfz12_1); (try clear hfz12_2); (try clear hfz15_0); (try clear hfz15_1); (try clear hfz15_2); (try clear hfz20_0); (try clear hfz20_1); (try clear hfz20_2); (try clear hfz22_0); (try clear hfz22_1); (try clear hfz22_2); (try clear hfz5_0); (try clear hfz5_1); (try clear hfz5_2); (try clear hx233_0); (try clear hx233_1); (try clear hx233_2); (try clear hx236_0); (try clear hx236_1); (try clear hx236_2); (try clear p2); (try clear p233); (try clear p236); (try clear q2); (try clear q233); (try clear q236)
    obtain ⟨kq, x7_13, x8_13, rfl, rfl, HA, HJ13, BK232, HB⟩ := hcut
    cases kq with
    | zero => exact absurd HA.out (by simp [ephemerisref1_Eval.j1])
    | succ kj13 =>
     have H := HA.out
     clear HA
     simp only [ephemerisref1_Eval.j1] at H
     have HC24 := Aside0.mk H
     clear H
     obtain ⟨hcz25_0, hcz25_1, hcz25_2, hfz25_0, hfz25_1, hfz25_2⟩ := bc3 BK232
     go_upto_block 0 with (fail)
     go_cut [8, 9] (fun v8 v9 wc => ∃ (kq : Nat) (x8_23 : Int) (x9_23 : Int), v8 = .int .i64 x8_23 ∧ v9 = .int .i64 x9_23 ∧ Aside0 (ephemerisref1_Eval.j2 kq x8_23 x9_23 = some (r1, r2)) ∧ Aside0 (kq ≤ kj13) ∧ Aside0 (wc.heap[gb232]? = some (.cells #[.int .i64 a0_0, .int .i64 a0_1, (.slice A0_2 l0_2.length c0_2)] 24 (0, 0))) ∧ Aside0 (Below w.heap.size w wc))
     case first =>
      have H := HC24.out
      clear HC24
      by_cases c26 : a0_0 = 1
      ·rw [if_pos c26] at H
       have c26b0 : (a0_0 == 1) = true := beq_iff_eq.mpr c26
       have c26b1 : (a0_0 != 1) = false := bne_eq_false_iff_eq.mpr c26
       clear c26
       (first | rw [c26b0] | (simp only [i64_w, i32_w]; rw [c26b0]) | skip)
       have H' := Aside0.mk H
       clear H
       obtain ⟨hcz27_0, hcz27_1, hcz27_2, hfz27_0, hfz27_1, hfz27_2⟩ := bc3 BK232
       go_wp2
       go_meet
       case rel => exact ⟨_, (x8_13), (a0_1), rs, rs, H', ⟨by have := HJ2.out; have := HJ13.out; first | omega | exact Nat.le_refl _⟩, ⟨bk BK232⟩, ⟨be⟩⟩
      ·rw [if_neg c26] at H
       have c26b0 : (a0_0 == 1) = false := beq_eq_false_iff_ne.mpr c26
       have c26b1 : (a0_0 != 1) = true := bne_iff_ne.mpr c26
       (first | rw [c26b0] | (simp only [i64_w, i32_w]; rw [c26b0]) | skip)
       by_cases c28 : a0_0 = 2
       ·rw [if_pos c28] at H
        have c28b0 : (a0_0 == 2) = true := beq_iff_eq.mpr c28
        have c28b1 : (a0_0 != 2) = false := bne_eq_false_iff_eq.mpr c28
        clear c28
        have H' := Aside0.mk H
        clear H
        go_wp2
        go_meet
        case rel => exact ⟨_, (x8_13), (a1), rs, rs, H', ⟨by have := HJ2.out; have := HJ13.out; first | omega | exact Nat.le_refl _⟩, ⟨bk BK232⟩, ⟨be⟩⟩
       ·rw [if_neg c28] at H
        have c28b0 : (a0_0 == 2) = false := beq_eq_false_iff_ne.mpr c28
        have c28b1 : (a0_0 != 2) = true := bne_iff_ne.mpr c28
        by_cases c29 : a0_0 = 3
        ·rw [if_pos c29] at H
         have c29b0 : (a0_0 == 3) = true := beq_iff_eq.mpr c29
         have c29b1 : (a0_0 != 3) = false := bne_eq_false_iff_eq.mpr c29
         clear c29
         have H' := Aside0.mk H
         clear H
         go_wp2
         go_meet
         case rel => exact ⟨_, (x8_13), (wrap64 (-x6_2)), rs, rs, H', ⟨by have := HJ2.out; have := HJ13.out; first | omega | exact Nat.le_refl _⟩, ⟨bk BK232⟩, ⟨be⟩⟩
        ·rw [if_neg c29] at H
         have c29b0 : (a0_0 == 3) = false := beq_eq_false_iff_ne.mpr c29
         have c29b1 : (a0_0 != 3) = true := bne_iff_ne.mpr c29
         by_cases c30 : a0_0 = 4
         ·rw [if_pos c30] at H
          have c30b0 : (a0_0 == 4) = true := beq_iff_eq.mpr c30
          have c30b1 : (a0_0 != 4) = false := bne_eq_false_iff_eq.mpr c30
          clear c30
          have H' := Aside0.mk H
          clear H
          go_wp2
          go_meet
          case rel => exact ⟨_, (x8_13), (wrap64 (x6_2 + x7_13)), rs, rs, H', ⟨by have := HJ2.out; have := HJ13.out; first | omega | exact Nat.le_refl _⟩, ⟨bk BK232⟩, ⟨be⟩⟩
         ·rw [if_neg c30] at H
          have c30b0 : (a0_0 == 4) = false := beq_eq_false_iff_ne.mpr c30
          have c30b1 : (a0_0 != 4) = true := bne_iff_ne.mpr c30
          by_cases c31 : a0_0 = 5
          ·rw [if_pos c31] at H
           have c31b0 : (a0_0 == 5) = true := beq_iff_eq.mpr c31
           have c31b1 : (a0_0 != 5) = false := bne_eq_false_iff_eq.mpr c31
           clear c31
           have H' := Aside0.mk H
           clear H
           go_wp2
           go_meet
           case rel => exact ⟨_, (x8_13), (wrap64 (x6_2 - x7_13)), rs, rs, H', ⟨by have := HJ2.out; have := HJ13.out; first | omega | exact Nat.le_refl _⟩, ⟨bk BK232⟩, ⟨be⟩⟩
          ·rw [if_neg c31] at H
           have c31b0 : (a0_0 == 5) = false := beq_eq_false_iff_ne.mpr c31
           have c31b1 : (a0_0 != 5) = true := bne_iff_ne.mpr c31
           by_cases c32 : a0_0 = 6
           ·rw [if_pos c32] at H
            have c32b0 : (a0_0 == 6) = true := beq_iff_eq.mpr c32
            have c32b1 : (a0_0 != 6) = false := bne_eq_false_iff_eq.mpr c32
            clear c32
            replace H := Option.bind_eq_some_iff.mp H
            obtain ⟨⟨t239, t240⟩, A330, H⟩ := H
            replace H : (ephemerisref1_Eval.j2 kj13 x8_13 t239) = some (r1, r2) := H
            have A33 := Aside0.mk A330
            clear A330
            have H' := Aside0.mk H
            clear H
            go_wp2_with (first | ((with_reducible refine gate_callee (f := 31) rfl ?_); refine goesL_ (some 70) rfl rfl Tryd.func31 kx rfl #[.int .i64 x6_2, .int .i64 x7_13] rfl aa ?_; (with_reducible refine (ephemerisref1_Mul.calls kj13 x6_2 x7_13 t239 t240 _ A33.out).mono ?_); rintro e w' ⟨rfl, ⟨nd, rfl⟩⟩; refine ⟨_, rfl, ?_⟩))
            go_meet
            case rel => exact ⟨_, (x8_13), (t239), rs, rs, H', ⟨by have := HJ2.out; have := HJ13.out; first | omega | exact Nat.le_refl _⟩, ⟨bk BK232⟩, ⟨be⟩⟩
           ·rw [if_neg c32] at H
            have c32b0 : (a0_0 == 6) = false := beq_eq_false_iff_ne.mpr c32
            have c32b1 : (a0_0 != 6) = true := bne_iff_ne.mpr c32
            by_cases c34 : a0_0 = 7
            ·rw [if_pos c34] at H
             have c34b0 : (a0_0 == 7) = true := beq_iff_eq.mpr c34
             have c34b1 : (a0_0 != 7) = false := bne_eq_false_iff_eq.mpr c34
             clear c34
             replace H := Option.bind_eq_some_iff.mp H
             obtain ⟨⟨t241, t242, t243⟩, A350, H⟩ := H
             replace H : (ephemerisref1_Eval.j2 kj13 t243 t241) = some (r1, r2) := H
             have A35 := Aside0.mk A350
             clear A350
             have H' := Aside0.mk H
             clear H
             go_wp2_with (first | ((with_reducible refine gate_callee (f := 32) rfl ?_); refine goesL_ (some 78) rfl rfl Tryd.func32 kx rfl #[.int .i64 x6_2, .int .i64 x7_13] rfl aa ?_; (with_reducible refine (ephemerisref1_Div.calls kj13 x6_2 x7_13 t241 t242 t243 _ A35.out).mono ?_); rintro e w' ⟨rfl, ⟨nd, rfl⟩⟩; refine ⟨_, rfl, ?_⟩))
             go_meet
             case rel => exact ⟨_, (t243), (t241), rs, rs, H', ⟨by have := HJ2.out; have := HJ13.out; first | omega | exact Nat.le_refl _⟩, ⟨bk BK232⟩, ⟨be⟩⟩
            ·rw [if_neg c34] at H
             have c34b0 : (a0_0 == 7) = false := beq_eq_false_iff_ne.mpr c34
             have c34b1 : (a0_0 != 7) = true := bne_iff_ne.mpr c34
             by_cases c36 : a0_0 = 8
             ·rw [if_pos c36] at H
              have c36b0 : (a0_0 == 8) = true := beq_iff_eq.mpr c36
              have c36b1 : (a0_0 != 8) = false := bne_eq_false_iff_eq.mpr c36
              clear c36
              replace H := Option.bind_eq_some_iff.mp H
              obtain ⟨⟨t244, t245, t246⟩, A370, H⟩ := H
              replace H : (ephemerisref1_Eval.j2 kj13 t246 t245) = some (r1, r2) := H
              have A37 := Aside0.mk A370
              clear A370
              have H' := Aside0.mk H
              clear H
              go_wp2_with (first | ((with_reducible refine gate_callee (f := 32) rfl ?_); refine goesL_ (some 87) rfl rfl Tryd.func32 kx rfl #[.int .i64 x6_2, .int .i64 x7_13] rfl aa ?_; (with_reducible refine (ephemerisref1_Div.calls kj13 x6_2 x7_13 t244 t245 t246 _ A37.out).mono ?_); rintro e w' ⟨rfl, ⟨nd, rfl⟩⟩; refine ⟨_, rfl, ?_⟩))
              go_meet
              case rel => exact ⟨_, (t246), (t245), rs, rs, H', ⟨by have := HJ2.out; have := HJ13.out; first | omega | exact Nat.le_refl _⟩, ⟨bk BK232⟩, ⟨be⟩⟩
             ·rw [if_neg c36] at H
              have c36b0 : (a0_0 == 8) = false := beq_eq_false_iff_ne.mpr c36
              have c36b1 : (a0_0 != 8) = true := bne_iff_ne.mpr c36
              by_cases c38 : a0_0 = 9
              ·rw [if_pos c38] at H
               have c38b0 : (a0_0 == 9) = true := beq_iff_eq.mpr c38
               have c38b1 : (a0_0 != 9) = false := bne_eq_false_iff_eq.mpr c38
               clear c38
               replace H := Option.bind_eq_some_iff.mp H
               obtain ⟨t247, A390, H⟩ := H
               replace H : (ephemerisref1_Eval.j2 kj13 x8_13 t247) = some (r1, r2) := H
               have A39 := Aside0.mk A390
               clear A390
               have H' := Aside0.mk H
               clear H
               go_wp2_with (first | ((with_reducible refine gate_callee (f := 33) rfl ?_); refine goesL_ (some 97) rfl rfl Tryd.func33 kx rfl #[.bool (decide ((wrap64 (x6_2 - x7_13)) < 0))] rfl aa ?_; (with_reducible refine (ephemerisref1_yes.calls (decide ((wrap64 (x6_2 - x7_13)) < 0)) t247 _ A39.out).mono ?_); rintro e w' ⟨rfl, ⟨nd, rfl⟩⟩; refine ⟨_, rfl, ?_⟩))
               go_meet
               case rel => exact ⟨_, (x8_13), (t247), rs, rs, H', ⟨by have := HJ2.out; have := HJ13.out; first | omega | exact Nat.le_refl _⟩, ⟨bk BK232⟩, ⟨be⟩⟩
              ·rw [if_neg c38] at H
               have c38b0 : (a0_0 == 9) = false := beq_eq_false_iff_ne.mpr c38
               have c38b1 : (a0_0 != 9) = true := bne_iff_ne.mpr c38
               by_cases c40 : a0_0 = 10
               ·rw [if_pos c40] at H
                have c40b0 : (a0_0 == 10) = true := beq_iff_eq.mpr c40
                have c40b1 : (a0_0 != 10) = false := bne_eq_false_iff_eq.mpr c40
                clear c40
                replace H := Option.bind_eq_some_iff.mp H
                obtain ⟨t248, A410, H⟩ := H
                replace H : (ephemerisref1_Eval.j2 kj13 x8_13 t248) = some (r1, r2) := H
                have A41 := Aside0.mk A410
                clear A410
                have H' := Aside0.mk H
                clear H
                go_wp2_with (first | ((with_reducible refine gate_callee (f := 33) rfl ?_); refine goesL_ (some 104) rfl rfl Tryd.func33 kx rfl #[.bool ((wrap64 (x6_2 - x7_13)) == 0)] rfl aa ?_; (with_reducible refine (ephemerisref1_yes.calls ((wrap64 (x6_2 - x7_13)) == 0) t248 _ A41.out).mono ?_); rintro e w' ⟨rfl, ⟨nd, rfl⟩⟩; refine ⟨_, rfl, ?_⟩))
                go_meet
                case rel => exact ⟨_, (x8_13), (t248), rs, rs, H', ⟨by have := HJ2.out; have := HJ13.out; first | omega | exact Nat.le_refl _⟩, ⟨bk BK232⟩, ⟨be⟩⟩
               ·rw [if_neg c40] at H
                have c40b0 : (a0_0 == 10) = false := beq_eq_false_iff_ne.mpr c40
                have c40b1 : (a0_0 != 10) = true := bne_iff_ne.mpr c40
                by_cases c42 : a0_0 = 11
                ·rw [if_pos c42] at H
                 have c42b0 : (a0_0 == 11) = true := beq_iff_eq.mpr c42
                 have c42b1 : (a0_0 != 11) = false := bne_eq_false_iff_eq.mpr c42
                 clear c42
                 replace H := Option.bind_eq_some_iff.mp H
                 obtain ⟨t249, A430, H⟩ := H
                 replace H : (ephemerisref1_Eval.j2 kj13 x8_13 (wrap64 (1 - t249))) = some (r1, r2) := H
                 have A43 := Aside0.mk A430
                 clear A430
                 have H' := Aside0.mk H
                 clear H
                 go_wp2_with (first | ((with_reducible refine gate_callee (f := 33) rfl ?_); refine goesL_ (some 109) rfl rfl Tryd.func33 kx rfl #[.bool (x6_2 != 0)] rfl aa ?_; (with_reducible refine (ephemerisref1_yes.calls (x6_2 != 0) t249 _ A43.out).mono ?_); rintro e w' ⟨rfl, ⟨nd, rfl⟩⟩; refine ⟨_, rfl, ?_⟩))
                 go_meet
                 case rel => exact ⟨_, (x8_13), (wrap64 (1 - t249)), rs, rs, H', ⟨by have := HJ2.out; have := HJ13.out; first | omega | exact Nat.le_refl _⟩, ⟨bk BK232⟩, ⟨be⟩⟩
                ·rw [if_neg c42] at H
                 have c42b0 : (a0_0 == 11) = false := beq_eq_false_iff_ne.mpr c42
                 have c42b1 : (a0_0 != 11) = true := bne_iff_ne.mpr c42
                 by_cases c44 : a0_0 = 12
                 ·rw [if_pos c44] at H
                  have c44b0 : (a0_0 == 12) = true := beq_iff_eq.mpr c44
                  have c44b1 : (a0_0 != 12) = false := bne_eq_false_iff_eq.mpr c44
                  clear c44
                  replace H := Option.bind_eq_some_iff.mp H
                  obtain ⟨t250, A450, H⟩ := H
                  replace H : ((ephemerisref1_yes.f (x7_13 != 0)).bind fun t251 => (ephemerisref1_Eval.j2 kj13 x8_13 (wrap64 (t250 * t251)))) = some (r1, r2) := H
                  have A45 := Aside0.mk A450
                  clear A450
                  replace H := Option.bind_eq_some_iff.mp H
                  obtain ⟨t251, A460, H⟩ := H
                  replace H : (ephemerisref1_Eval.j2 kj13 x8_13 (wrap64 (t250 * t251))) = some (r1, r2) := H
                  have A46 := Aside0.mk A460
                  clear A460
                  have H' := Aside0.mk H
                  clear H
                  go_wp2_with (first | ((with_reducible refine gate_callee (f := 33) rfl ?_); refine goesL_ (some 115) rfl rfl Tryd.func33 kx rfl #[.bool (x6_2 != 0)] rfl aa ?_; (with_reducible refine (ephemerisref1_yes.calls (x6_2 != 0) t250 _ A45.out).mono ?_); rintro e w' ⟨rfl, ⟨nd, rfl⟩⟩; refine ⟨_, rfl, ?_⟩) | ((with_reducible refine gate_callee (f := 33) rfl ?_); refine goesL_ (some 118) rfl rfl Tryd.func33 kx rfl #[.bool (x7_13 != 0)] rfl aa ?_; (with_reducible refine (ephemerisref1_yes.calls (x7_13 != 0) t251 _ A46.out).mono ?_); rintro e w' ⟨rfl, ⟨nd, rfl⟩⟩; refine ⟨_, rfl, ?_⟩))
                  go_meet
                  case rel => exact ⟨_, (x8_13), (wrap64 (t250 * t251)), rs, rs, H', ⟨by have := HJ2.out; have := HJ13.out; first | omega | exact Nat.le_refl _⟩, ⟨bk BK232⟩, ⟨be⟩⟩
                 ·rw [if_neg c44] at H
                  have c44b0 : (a0_0 == 12) = false := beq_eq_false_iff_ne.mpr c44
                  have c44b1 : (a0_0 != 12) = true := bne_iff_ne.mpr c44
                  by_cases c47 : a0_0 = 13
                  ·rw [if_pos c47] at H
                   have c47b0 : (a0_0 == 13) = true := beq_iff_eq.mpr c47
                   have c47b1 : (a0_0 != 13) = false := bne_eq_false_iff_eq.mpr c47
                   clear c47
                   replace H := Option.bind_eq_some_iff.mp H
                   obtain ⟨t252, A480, H⟩ := H
                   replace H : ((ephemerisref1_yes.f (x7_13 != 0)).bind fun t253 => (ephemerisref1_Eval.j2 kj13 x8_13 (mx t252 t253))) = some (r1, r2) := H
                   have A48 := Aside0.mk A480
                   clear A480
                   replace H := Option.bind_eq_some_iff.mp H
                   obtain ⟨t253, A490, H⟩ := H
                   replace H : (ephemerisref1_Eval.j2 kj13 x8_13 (mx t252 t253)) = some (r1, r2) := H
                   have A49 := Aside0.mk A490
                   clear A490
                   obtain ⟨ji50, hji50⟩ : ∃ j_ : Int, (mx t252 t253) = j_ := ⟨_, rfl⟩
                   replace H : (ephemerisref1_Eval.j2 kj13 x8_13 ji50) = some (r1, r2) := by first | (rw [hji50] at H; exact H) | (simp only [hji50] at H ⊢; exact H)
                   (try rw [hji50] at A48)
                   (try rw [hji50] at A49)
                   have hji50_ : (if t252 < t253 then t253 else t252) = ji50 := hji50
                   have H' := Aside0.mk H
                   clear H
                   go_wp2_with (first | ((with_reducible refine gate_callee (f := 33) rfl ?_); refine goesL_ (some 124) rfl rfl Tryd.func33 kx rfl #[.bool (x6_2 != 0)] rfl aa ?_; (with_reducible refine (ephemerisref1_yes.calls (x6_2 != 0) t252 _ A48.out).mono ?_); rintro e w' ⟨rfl, ⟨nd, rfl⟩⟩; refine ⟨_, rfl, ?_⟩) | ((with_reducible refine gate_callee (f := 33) rfl ?_); refine goesL_ (some 127) rfl rfl Tryd.func33 kx rfl #[.bool (x7_13 != 0)] rfl aa ?_; (with_reducible refine (ephemerisref1_yes.calls (x7_13 != 0) t253 _ A49.out).mono ?_); rintro e w' ⟨rfl, ⟨nd, rfl⟩⟩; refine ⟨_, rfl, ?_⟩))
                   go_meet
                   case rel => exact ⟨_, (x8_13), (ji50), rs, (by first | rfl | (simp; done) | (simp only [← hji50] <;> (first | rfl | simp)) | (simp [*]; done)), H', ⟨by have := HJ2.out; have := HJ13.out; first | omega | exact Nat.le_refl _⟩, ⟨bk BK232⟩, ⟨be⟩⟩
                  ·rw [if_neg c47] at H
                   have c47b0 : (a0_0 == 13) = false := beq_eq_false_iff_ne.mpr c47
                   have c47b1 : (a0_0 != 13) = true := bne_iff_ne.mpr c47
                   have H' := Aside0.mk H
                   clear H
                   go_wp2
                   go_meet
                   case rel => exact ⟨_, (x8_13), (0), rs, rs, H', ⟨by have := HJ2.out; have := HJ13.out; first | omega | exact Nat.le_refl _⟩, ⟨bk BK232⟩, ⟨be⟩⟩
     case rest =>
      clear HC24
      (try clear c1); (try clear c2); (try clear p2); (try clear q2); (try clear hx2); (try clear qi2); (try clear c3); (try clear c4); (try clear c6); (try clear c6b0); (try clear c6b1); (try clear p6); (try clear c7); (try clear c7b0); (try clear c7b1); (try clear c9); (try clear c9b0); (try clear c9b1); (try clear c13); (try clear c16); (try clear c16b0); (try clear c16b1); (try clear c17); (try clear c17b0); (try clear c17b1); (try clear c19); (try clear c19b0); (try clear c19b1); (try clear c23); (try clear p23); (try clear q23); (try clear hx23); (try clear qi23); (try clear c26); (try clear c26b0); (try clear c26b1); (try clear c28); (try clear c28b0); (try clear c28b1); (try clear c29); (try clear c29b0); (try clear c29b1); (try clear c30); (try clear c30b0); (try clear c30b1); (try clear c31); (try clear c31b0); (try clear c31b1); (try clear c32); (try clear c32b0); (try clear c32b1); (try clear c33); (try clear c34); (try clear c34b0); (try clear c34b1); (try clear c36); (try clear c36b0); (try clear c36b1); (try clear c38); (try clear c38b0); (try clear c38b1); (try clear c40); (try clear c40b0); (try clear c40b1); (try clear c42); (try clear c42b0); (try clear c42b1); (try clear c44); (try clear c44b0); (try clear c44b1); (try clear c47); (try clear c47b0); (try clear c47b1); (try clear hcz10_0); (try clear hcz10_1); (try clear hcz10_2); (try clear hcz12_0); (try clear hcz12_1); (try clear hcz12_2); (try clear hcz15_0); (try clear hcz15_1); (try clear hcz15_2); (try clear hcz20_0); (try clear hcz20_1); (try clear hcz20_2); (try clear hcz22_0); (try clear hcz22_1); (try clear hcz22_2); (try clear hcz25_0); (try clear hcz25_1); (try clear hcz25_2); (try clear hcz27_0); (try clear hcz27_1); (try clear hcz27_2); (try clear hcz5_0); (try clear hcz5_1); (try clear hcz5_2); (try clear hfz10_0); (try clear hfz10_1); (try clear hfz10_2); (try clear hfz12_0); (try clear hfz12_1); (try clear hfz12_2); (try clear hfz15_0); (try clear hfz15_1); (try clear hfz15_2); (try clear hfz20_0); (try clear hfz20_1); (try clear hfz20_2); (try clear hfz22_0); (try clear hfz22_1); (try clear hfz22_2); (try clear hfz25_0); (try clear hfz25_1); (try clear hfz25_2); (try clear hfz27_0); (try clear hfz27_1); (try clear hfz27_2); (try clear hfz5_0); (try clear hfz5_1); (try clear hfz5_2); (try clear hx233_0); (try clear hx233_1); (try clear hx233_2); (try clear hx236_0); (try clear hx236_1); (try clear hx236_2); (try clear p2); (try clear p23); (try clear p233); (try clear p236); (try clear q2); (try clear q23); (try clear q233); (try clear q236)
      obtain ⟨kq, x8_23, x9_23, rfl, rfl, HA, HJ23, BK232, HB⟩ := hcut
      cases kq with
      | zero => exact absurd HA.out (by simp [ephemerisref1_Eval.j2])
      | succ kj23 =>
       have H := HA.out
       clear HA
       simp only [ephemerisref1_Eval.j2] at H
       by_cases c51 : x8_23 = 0
       ·rw [if_pos c51] at H
        have c51b0 : (x8_23 == 0) = true := beq_iff_eq.mpr c51
        have c51b1 : (x8_23 != 0) = false := bne_eq_false_iff_eq.mpr c51
        clear c51
        replace H := Option.bind_eq_some_iff.mp H
        obtain ⟨t254, A520, H⟩ := H
        replace H : (if t254 = true then (some (x9_23, 0)) else (some (0, 14))) = some (r1, r2) := H
        have A52 := Aside0.mk A520
        clear A520
        by_cases c53 : t254 = true
        ·subst c53
         have H1 : (some (x9_23, 0)) = some (r1, r2) := by rw [if_pos rfl] at H; exact H
         clear H
         have H := H1
         clear H1
         simp only [Option.some.injEq, Prod.mk.injEq] at H
         obtain ⟨rfl, rfl⟩ := H
         go_wp2_with (first | ((with_reducible refine gate_callee (f := 34) rfl ?_); refine goesL_ (some 133) rfl rfl Tryd.func34 kx rfl #[.int .i64 x9_23] rfl aa ?_; (with_reducible refine (ephemerisref1_Num.calls x9_23 true _ A52.out).mono ?_); rintro e w' ⟨rfl, ⟨nd, rfl⟩⟩; refine ⟨_, rfl, ?_⟩))
         go_ret2
         exact ⟨by first | rfl | (simp [errW_none, errW_some] <;> rfl) | (simp [*, errW_none, errW_some] <;> rfl), be⟩
        ·replace c53 := Bool.eq_false_iff.mpr c53
         subst c53
         have H1 : (some (0, 14)) = some (r1, r2) := by rw [if_neg (show ¬ (false = true) by decide)] at H; exact H
         clear H
         have H := H1
         clear H1
         simp only [Option.some.injEq, Prod.mk.injEq] at H
         obtain ⟨rfl, rfl⟩ := H
         go_wp2_with (first | ((with_reducible refine gate_callee (f := 34) rfl ?_); refine goesL_ (some 133) rfl rfl Tryd.func34 kx rfl #[.int .i64 x9_23] rfl aa ?_; (with_reducible refine (ephemerisref1_Num.calls x9_23 false _ A52.out).mono ?_); rintro e w' ⟨rfl, ⟨nd, rfl⟩⟩; refine ⟨_, rfl, ?_⟩))
         go_ret2
         exact ⟨by first | rfl | (simp [errW_none, errW_some] <;> rfl) | (simp [*, errW_none, errW_some] <;> rfl), be⟩
       ·rw [if_neg c51] at H
        have c51b0 : (x8_23 == 0) = false := beq_eq_false_iff_ne.mpr c51
        have c51b1 : (x8_23 != 0) = true := bne_iff_ne.mpr c51
        simp only [Option.some.injEq, Prod.mk.injEq] at H
        obtain ⟨rfl, rfl⟩ := H
        go_wp2
        go_ret2
        exact ⟨by first | rfl | (simp [errW_none, errW_some] <;> rfl) | (simp [*, errW_none, errW_some] <;> rfl), be⟩

end Go.Proofs.YtgcmclnjnimolaaDoor.PCompileCompiles
