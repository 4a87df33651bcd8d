/- The walks of the functions of this part, laid closer by a program of mine. -/
-- The walks of the law's functions, told by a program.
import Derived.Test.YtlfammlboncmeaaY
import Derived.Test.YtlfammlboncmeaaPArithLatersx0
import Derived.Test.YtlfammlboncmeaaPArithLatersx5
import Derived.Test.YtlfammlboncmeaaPArithLatersx7
import Derived.Test.YtlfammlboncmeaaPArithLatersx8
import Derived.Test.YtlfammlboncmeaaPArithLatersx11
namespace Go.Proofs.Ytlfammlboncmeaa.PArithLaters
open Go.RowKit Go.Proofs.YtlfammlboncmeaaW.PrintWords Go.Proofs.YtlfammlboncmeaaW.PrintLast Go.Proofs.YtlfammlboncmeaaW.PrintMore Go.Proofs.Ytlfammlboncmeaa.Y
attribute [local go_sem] max2_int min2_int max_two min_two max_three min_three max_four min_four   -- for this text's walks alone
set_option linter.unusedVariables false
set_option linter.unusedSimpArgs false

/-! ### ephemerislaw1_ArithLaters: function 5 -/
mutual
def ephemerislaw1_ArithLaters.j0 : Nat → Int → Int → Int → Bool → ByteArray → Int → Int → List (S125) → List Int → Option (Bool)
 | 0, _, _, _, _, _, _, _, _, _ => none
 | k + 1, x1, x2, x3, x26, x278000, x278001, x278002, x278003, x278004 => if x26 = true then (some false) else ((ephemerisref1_In.f x3 (-10000) 10000).bind fun t289 => (if t289 = true then (ephemerislaw1_ArithLaters.j1 k x1 x2 (Int.tmod x3 200) x278000 x278001 x278002 x278003 x278004) else (ephemerislaw1_ArithLaters.j1 k x1 x2 x3 x278000 x278001 x278002 x278003 x278004)))
def ephemerislaw1_ArithLaters.j1 : Nat → Int → Int → Int → ByteArray → Int → Int → List (S125) → List Int → Option (Bool)
 | 0, _, _, _, _, _, _, _, _ => none
 | k + 1, x1, x2, x3, x278000, x278001, x278002, x278003, x278004 => (arith_Later.f k x278000 x278001 x278002 x278003 x278004 x1 x2 x3).bind fun bt290 => ((ephemerisref1_CalendarError.f k x278000 x278001 x278002 x278003 x278004).bind fun t292 => (if t292 = 0 then ((ephemerisref1_Apart.f k x278000 x278001 x278002 x278003 x278004).bind fun bt293 => ((ephemerisref1_Years_Later.f k bt293.1 bt293.2.1 bt293.2.2.1 bt293.2.2.2.1 bt293.2.2.2.2.1 bt293.2.2.2.2.2.1 bt293.2.2.2.2.2.2.1 bt293.2.2.2.2.2.2.2.1 bt293.2.2.2.2.2.2.2.2 x1 x2 x3).bind fun bt308 => (if bt290.1 = bt308.1 then (some (bt290.2 == bt308.2)) else (some false)))) else (if bt290.1 = 0 then (some (bt290.2 == t292)) else (some false))))
end
def ephemerislaw1_ArithLaters.f (k : Nat) (a0_0 : ByteArray) (a0_1 : Int) (a0_2 : Int) (l0_3 : List (S125)) (l0_4 : List Int) (a1 : Int) (a2 : Int) (a3 : Int) : Option (Bool) := (ephemerislaw1_four.f).bind fun bt278 => ((arith_Later.f k bt278.1 bt278.2.1 bt278.2.2.1 bt278.2.2.2.1 bt278.2.2.2.2 31 3 1).bind fun bt287 => (if bt287.1 = 237 then (ephemerislaw1_ArithLaters.j0 k a1 a2 a3 (bt287.2 != 0) a0_0 a0_1 a0_2 l0_3 l0_4) else (ephemerislaw1_ArithLaters.j0 k a1 a2 a3 true a0_0 a0_1 a0_2 l0_3 l0_4)))
theorem ephemerislaw1_ArithLaters.mono_l : ∀ k, (∀ y0 y1 y2 y3 y4 y5 y6 y7 y8, LeO (ephemerislaw1_ArithLaters.j0 k y0 y1 y2 y3 y4 y5 y6 y7 y8) (ephemerislaw1_ArithLaters.j0 (k + 1) y0 y1 y2 y3 y4 y5 y6 y7 y8)) ∧ (∀ y0 y1 y2 y3 y4 y5 y6 y7, LeO (ephemerislaw1_ArithLaters.j1 k y0 y1 y2 y3 y4 y5 y6 y7) (ephemerislaw1_ArithLaters.j1 (k + 1) y0 y1 y2 y3 y4 y5 y6 y7))
 | 0 => ⟨fun _ _ _ _ _ _ _ _ _ r h => by simp [ephemerislaw1_ArithLaters.j0] at h, fun _ _ _ _ _ _ _ _ r h => by simp [ephemerislaw1_ArithLaters.j1] at h⟩
 | k + 1 => by
  obtain ⟨ih0, ih1⟩ := ephemerislaw1_ArithLaters.mono_l k
  refine ⟨?_, ?_⟩
  ·intro y0 y1 y2 y3 y4 y5 y6 y7 y8
   unfold ephemerislaw1_ArithLaters.j0
   repeat' first
   | (with_reducible exact ih0 _ _ _ _ _ _ _ _ _)
   | (with_reducible exact ih1 _ _ _ _ _ _ _ _)
   | (with_reducible exact arith_Later.mono _ _ _ _ _ _ _ _ _)
   | (with_reducible exact ephemerisref1_Apart.mono _ _ _ _ _ _)
   | (with_reducible exact ephemerisref1_CalendarError.mono _ _ _ _ _ _)
   | (with_reducible exact ephemerisref1_Years_Later.mono _ _ _ _ _ _ _ _ _ _ _ _ _)
   | (with_reducible exact LeO.refl _)
   | (with_reducible exact LeO.none _)
   | (with_reducible refine LeO.ite ?_ ?_)
   | (with_reducible refine LeO.bind ?_ (fun _ => ?_))
   | exact ih0 _ _ _ _ _ _ _ _ _
   | exact ih1 _ _ _ _ _ _ _ _
   | exact arith_Later.mono _ _ _ _ _ _ _ _ _
   | exact ephemerisref1_Apart.mono _ _ _ _ _ _
   | exact ephemerisref1_CalendarError.mono _ _ _ _ _ _
   | exact ephemerisref1_Years_Later.mono _ _ _ _ _ _ _ _ _ _ _ _ _
   | exact LeO.none _
   | refine LeO.ite ?_ ?_
   | refine LeO.bind ?_ (fun _ => ?_)
  ·intro y0 y1 y2 y3 y4 y5 y6 y7
   unfold ephemerislaw1_ArithLaters.j1
   repeat' first
   | (with_reducible exact ih0 _ _ _ _ _ _ _ _ _)
   | (with_reducible exact ih1 _ _ _ _ _ _ _ _)
   | (with_reducible exact arith_Later.mono _ _ _ _ _ _ _ _ _)
   | (with_reducible exact ephemerisref1_Apart.mono _ _ _ _ _ _)
   | (with_reducible exact ephemerisref1_CalendarError.mono _ _ _ _ _ _)
   | (with_reducible exact ephemerisref1_Years_Later.mono _ _ _ _ _ _ _ _ _ _ _ _ _)
   | (with_reducible exact LeO.refl _)
   | (with_reducible exact LeO.none _)
   | (with_reducible refine LeO.ite ?_ ?_)
   | (with_reducible refine LeO.bind ?_ (fun _ => ?_))
   | exact ih0 _ _ _ _ _ _ _ _ _
   | exact ih1 _ _ _ _ _ _ _ _
   | exact arith_Later.mono _ _ _ _ _ _ _ _ _
   | exact ephemerisref1_Apart.mono _ _ _ _ _ _
   | exact ephemerisref1_CalendarError.mono _ _ _ _ _ _
   | exact ephemerisref1_Years_Later.mono _ _ _ _ _ _ _ _ _ _ _ _ _
   | exact LeO.none _
   | refine LeO.ite ?_ ?_
   | refine LeO.bind ?_ (fun _ => ?_)
theorem ephemerislaw1_ArithLaters.mono : ∀ a0 a1 a2 a3 a4 a5 a6 a7 k, LeO (ephemerislaw1_ArithLaters.f k a0 a1 a2 a3 a4 a5 a6 a7) (ephemerislaw1_ArithLaters.f (k + 1) a0 a1 a2 a3 a4 a5 a6 a7) := by
 intro a0 a1 a2 a3 a4 a5 a6 a7 k
 obtain ⟨ih0, ih1⟩ := ephemerislaw1_ArithLaters.mono_l k
 unfold ephemerislaw1_ArithLaters.f
 repeat' first
   | (with_reducible exact ih0 _ _ _ _ _ _ _ _ _)
   | (with_reducible exact ih1 _ _ _ _ _ _ _ _)
   | (with_reducible exact arith_Later.mono _ _ _ _ _ _ _ _ _)
   | (with_reducible exact ephemerisref1_Apart.mono _ _ _ _ _ _)
   | (with_reducible exact ephemerisref1_CalendarError.mono _ _ _ _ _ _)
   | (with_reducible exact ephemerisref1_Years_Later.mono _ _ _ _ _ _ _ _ _ _ _ _ _)
   | (with_reducible exact LeO.refl _)
   | (with_reducible exact LeO.none _)
   | (with_reducible refine LeO.ite ?_ ?_)
   | (with_reducible refine LeO.bind ?_ (fun _ => ?_))
   | exact ih0 _ _ _ _ _ _ _ _ _
   | exact ih1 _ _ _ _ _ _ _ _
   | exact arith_Later.mono _ _ _ _ _ _ _ _ _
   | exact ephemerisref1_Apart.mono _ _ _ _ _ _
   | exact ephemerisref1_CalendarError.mono _ _ _ _ _ _
   | exact ephemerisref1_Years_Later.mono _ _ _ _ _ _ _ _ _ _ _ _ _
   | exact LeO.none _
   | refine LeO.ite ?_ ?_
   | refine LeO.bind ?_ (fun _ => ?_)
set_option maxHeartbeats 8000000 in
set_option maxRecDepth 100000 in
theorem ephemerislaw1_ArithLaters.calls (k : Nat) (a0_0 : ByteArray) (a0_1 : Int) (a0_2 : Int) (A0_3 : Option Addr) (c0_3 : Nat) (l0_3 : List (S125)) (A0_4 : Option Addr) (c0_4 : Nat) (l0_4 : List Int) (a1 : Int) (a2 : Int) (a3 : Int) (r : Bool) (w : World) (hr0_3 : Kd.C k125 w A0_3 l0_3.length l0_3) (hc0_3 : l0_3.length ≤ c0_3) (hr0_4 : Kd.C (Kd.int .i64) w A0_4 l0_4.length l0_4) (hc0_4 : l0_4.length ≤ c0_4) (h : ephemerislaw1_ArithLaters.f k a0_0 a0_1 a0_2 l0_3 l0_4 a1 a2 a3 = some r) :
  Calls Try.prog 5 #[.agg #[.string a0_0, .int .i64 a0_1, .int .i64 a0_2, .slice A0_3 l0_3.length c0_3, .slice A0_4 l0_4.length c0_4], .int .i64 a1, .int .i64 a2, .int .i64 a3] w fun e w' => e = .returned (.bool r) ∧ Below w.heap.size w w' := by
 have hu44 := Try.underlying44
 have HR0_3 := Aside0.mk hr0_3
 have HC0_3 := Aside0.mk hc0_3
 clear hr0_3 hc0_3
 have HR0_4 := Aside0.mk hr0_4
 have HC0_4 := Aside0.mk hc0_4
 clear hr0_4 hc0_4
 have HB := Aside0.mk (Below.refl w.heap.size w)
 have H : ((ephemerislaw1_four.f).bind fun bt278 => ((arith_Later.f k bt278.1 bt278.2.1 bt278.2.2.1 bt278.2.2.2.1 bt278.2.2.2.2 31 3 1).bind fun bt287 => (if bt287.1 = 237 then (ephemerislaw1_ArithLaters.j0 k a1 a2 a3 (bt287.2 != 0) a0_0 a0_1 a0_2 l0_3 l0_4) else (ephemerislaw1_ArithLaters.j0 k a1 a2 a3 true a0_0 a0_1 a0_2 l0_3 l0_4)))) = some r := h
 clear h
 replace H := Option.bind_eq_some_iff.mp H
 obtain ⟨⟨t278, t279, t280, t281, t284⟩, A50, H⟩ := H
 replace H : ((arith_Later.f k t278 t279 t280 t281 t284 31 3 1).bind fun bt287 => (if bt287.1 = 237 then (ephemerislaw1_ArithLaters.j0 k a1 a2 a3 (bt287.2 != 0) a0_0 a0_1 a0_2 l0_3 l0_4) else (ephemerislaw1_ArithLaters.j0 k a1 a2 a3 true a0_0 a0_1 a0_2 l0_3 l0_4))) = some r := H
 have A5 := Aside0.mk A50
 clear A50
 replace H := Option.bind_eq_some_iff.mp H
 obtain ⟨⟨t287, t288⟩, A60, H⟩ := H
 replace H : (if t287 = 237 then (ephemerislaw1_ArithLaters.j0 k a1 a2 a3 (t288 != 0) a0_0 a0_1 a0_2 l0_3 l0_4) else (ephemerislaw1_ArithLaters.j0 k a1 a2 a3 true a0_0 a0_1 a0_2 l0_3 l0_4)) = some r := H
 have A6 := Aside0.mk A60
 clear A60
 have HC7 := Aside0.mk H
 clear H
 go_enter Try.func5, Try.ntmps5
 go_upto_region 2 with (first | ((with_reducible refine gate_dst (N := 4) rfl ?_); refine box_event ?hg (N := 4) ?hd (cs := #[.string a0_0, .int .i64 a0_1, .int .i64 a0_2, .slice A0_3 l0_3.length c0_3, .slice A0_4 l0_4.length c0_4]) (t := 44) ?hr ?_; (case hd => rfl); (case hg => rfl); (case hr => first | (go_simp; done) | (go_simp; rfl)); intro gb277 hg w8 hbox hb; have n0_ := Aside0.mk (below_step be hb); have n1_ := Aside0.mk (hbox); have n2_ := gs hg HB; have n3_ := n2_; clear HB; have HB := n0_; have BK277 := n1_; have GW277 := n2_; have GE277 := n3_; clear n0_ n1_ n2_ n3_; clear hb hbox hg) | ((with_reducible refine gate_callee (f := 20) rfl ?_); refine goesL_ (some 17) rfl rfl Try.func20 kx rfl #[] rfl aa ?_; (with_reducible refine (ephemerislaw1_four.calls  t278 t279 t280 t281 t284 _ A5.out).mono ?_); rintro e w9 ⟨v282, v285, rfl, ho0, ho1, hb⟩; refine ⟨_, rfl, ?_⟩; have n0_ := Aside0.mk (Kd.R_lower ho0 (below_size be)); have n1_ := Aside0.mk (Kd.R_lower ho1 (below_size be)); have n2_ := bb BK277 hb; have n3_ := Aside0.mk (below_step be hb); clear BK277; clear HB; have HO283 := n0_; have HO286 := n1_; have BK277 := n2_; have HB := n3_; clear n0_ n1_ n2_ n3_; (try clear hb); (try clear hb2); (try clear hk); (try clear hi); (try clear ho0); (try clear ho1); obtain ⟨Ao10, co10, eo10⟩ := Kd.R_slice HO283.out; subst eo10; obtain ⟨Ao11, co11, eo11⟩ := Kd.R_slice HO286.out; subst eo11) | ((with_reducible refine gate_callee (f := 19) rfl ?_); refine goesL_ (some 18) rfl rfl Try.func19 kx rfl #[.agg #[.string t278, .int .i64 t279, .int .i64 t280, .slice Ao10 t281.length co10, .slice Ao11 t284.length co11], .int .i64 31, .int .i64 3, .int .i64 1] rfl aa ?_; (with_reducible refine (arith_Later.calls k t278 t279 t280 _ _ t281 _ _ t284 31 3 1 t287 t288 _ ?side1 ?side2 ?side3 ?side4 A6.out).mono ?_); (case side1 => repeat (first | exact (Kd.R_reads' HO283.out).2.2 | (with_reducible refine Kd.C_alloc ?_ _) | (with_reducible refine Kd.C_drewN ?_ _) | (with_reducible refine Kd.C_drew ?_))); (case side2 => exact (Kd.R_reads' HO283.out).2.1); (case side3 => repeat (first | exact (Kd.R_reads' HO286.out).2.2 | (with_reducible refine Kd.C_alloc ?_ _) | (with_reducible refine Kd.C_drewN ?_ _) | (with_reducible refine Kd.C_drew ?_))); (case side4 => exact (Kd.R_reads' HO286.out).2.1); rintro e w12 ⟨rfl, hb⟩; refine ⟨_, rfl, ?_⟩; have n0_ := Aside0.mk (Kd.R_below (by (with_reducible repeat (first | apply Kd.R_alloc | apply Kd.R_drewN | apply Kd.R_drew)); exact HO283.out) hb); have n1_ := Aside0.mk (Kd.R_below (by (with_reducible repeat (first | apply Kd.R_alloc | apply Kd.R_drewN | apply Kd.R_drew)); exact HO286.out) hb); have n2_ := bb BK277 hb; have n3_ := Aside0.mk (below_step be hb); clear HO283; clear HO286; clear BK277; clear HB; have HO283 := n0_; have HO286 := n1_; have BK277 := n2_; have HB := n3_; clear n0_ n1_ n2_ n3_; (try clear hb); (try clear hb2); (try clear hk); (try clear hi)))
 (try simp only [Act.put, List.setIfInBounds_toArray, List.set_cons_zero, List.set_cons_succ])
 go_cut [26] (fun v26 wc => ∃ (kq : Nat) (x26_6 : Bool), v26 = .bool x26_6 ∧ Aside0 (ephemerislaw1_ArithLaters.j0 kq a1 a2 a3 x26_6 a0_0 a0_1 a0_2 l0_3 l0_4 = some r) ∧ Aside0 (kq ≤ k) ∧ Aside0 (wc.heap[gb277]? = some (.cells #[.string a0_0, .int .i64 a0_1, .int .i64 a0_2, (.slice A0_3 l0_3.length c0_3), (.slice A0_4 l0_4.length c0_4)] 44 (0, 0))) ∧ Aside0 (Below w.heap.size w wc))
 case first =>
  have H := HC7.out
  clear HC7
  by_cases c13 : t287 = 237
  ·rw [if_pos c13] at H
   have c13b0 : (t287 == 237) = true := beq_iff_eq.mpr c13
   have c13b1 : (t287 != 237) = false := bne_eq_false_iff_eq.mpr c13
   clear c13
   (first | rw [c13b0] | (simp only [i64_w, i32_w]; rw [c13b0]) | skip)
   have H' := Aside0.mk H
   clear H
   go_wp2
   go_meet
   case rel => exact ⟨_, ((t288 != 0)), rs, H', ⟨by first | omega | exact Nat.le_refl _⟩, ⟨bk BK277⟩, ⟨be⟩⟩
  ·rw [if_neg c13] at H
   have c13b0 : (t287 == 237) = false := beq_eq_false_iff_ne.mpr c13
   have c13b1 : (t287 != 237) = true := bne_iff_ne.mpr c13
   (first | rw [c13b0] | (simp only [i64_w, i32_w]; rw [c13b0]) | skip)
   have H' := Aside0.mk H
   clear H
   go_wp2
   go_meet
   case rel => exact ⟨_, (true), rs, H', ⟨by first | omega | exact Nat.le_refl _⟩, ⟨bk BK277⟩, ⟨be⟩⟩
 case rest =>
  clear HC7
  (try clear c1); (try clear c2); (try clear p2); (try clear c5); (try clear c13); (try clear c13b0); (try clear c13b1)
  obtain ⟨kq, x26_6, rfl, HA, HJ6, BK277, HB⟩ := hcut
  cases kq with
  | zero => exact absurd HA.out (by simp [ephemerislaw1_ArithLaters.j0])
  | succ kj6 =>
   have H := HA.out
   clear HA
   simp only [ephemerislaw1_ArithLaters.j0] at H
   by_cases c14 : x26_6 = true
   ·subst c14
    have H1 : (some false) = some r := by rw [if_pos rfl] at H; exact H
    clear H
    have H := H1
    clear H1
    obtain rfl := Option.some.inj H
    go_wp2
    go_ret
    exact ⟨by first | rfl | (simp [errW_none, errW_some] <;> rfl) | (simp [*, errW_none, errW_some] <;> rfl), be⟩
   ·replace c14 := Bool.eq_false_iff.mpr c14
    subst c14
    have H1 : ((ephemerisref1_In.f a3 (-10000) 10000).bind fun t289 => (if t289 = true then (ephemerislaw1_ArithLaters.j1 kj6 a1 a2 (Int.tmod a3 200) a0_0 a0_1 a0_2 l0_3 l0_4) else (ephemerislaw1_ArithLaters.j1 kj6 a1 a2 a3 a0_0 a0_1 a0_2 l0_3 l0_4))) = some r := by rw [if_neg (show ¬ (false = true) by decide)] at H; exact H
    clear H
    have H := H1
    clear H1
    replace H := Option.bind_eq_some_iff.mp H
    obtain ⟨t289, A150, H⟩ := H
    replace H : (if t289 = true then (ephemerislaw1_ArithLaters.j1 kj6 a1 a2 (Int.tmod a3 200) a0_0 a0_1 a0_2 l0_3 l0_4) else (ephemerislaw1_ArithLaters.j1 kj6 a1 a2 a3 a0_0 a0_1 a0_2 l0_3 l0_4)) = some r := H
    have A15 := Aside0.mk A150
    clear A150
    have HC16 := Aside0.mk H
    clear H
    go_upto_if 28 with (first | ((with_reducible refine gate_callee (f := 21) rfl ?_); refine goesL_ (some 28) rfl rfl Try.func21 kx rfl #[.int .i64 a3, .int .i64 (-10000), .int .i64 10000] rfl aa ?_; (with_reducible refine (ephemerisref1_In.calls a3 (-10000) 10000 t289 _ A15.out).mono ?_); rintro e w' ⟨rfl, ⟨nd, rfl⟩⟩; refine ⟨_, rfl, ?_⟩))
    (try simp only [Act.put, List.setIfInBounds_toArray, List.set_cons_zero, List.set_cons_succ])
    go_cut [3] (fun v3 wc => ∃ (kq : Nat) (x3_15 : Int), v3 = .int .i64 x3_15 ∧ Aside0 (ephemerislaw1_ArithLaters.j1 kq a1 a2 x3_15 a0_0 a0_1 a0_2 l0_3 l0_4 = some r) ∧ Aside0 (kq ≤ kj6) ∧ Aside0 (wc.heap[gb277]? = some (.cells #[.string a0_0, .int .i64 a0_1, .int .i64 a0_2, (.slice A0_3 l0_3.length c0_3), (.slice A0_4 l0_4.length c0_4)] 44 (0, 0))) ∧ Aside0 (Below w.heap.size w wc))
    case first =>
     have H := HC16.out
     clear HC16
     by_cases c17 : t289 = true
     ·subst c17
      have H1 : (ephemerislaw1_ArithLaters.j1 kj6 a1 a2 (Int.tmod a3 200) a0_0 a0_1 a0_2 l0_3 l0_4) = some r := by rw [if_pos rfl] at H; exact H
      clear H
      have H := H1
      clear H1
      have H' := Aside0.mk H
      clear H
      go_wp2
      go_meet
      case rel => exact ⟨_, (Int.tmod a3 200), rs, H', ⟨by have := HJ6.out; first | omega | exact Nat.le_refl _⟩, ⟨bk BK277⟩, ⟨be⟩⟩
     ·replace c17 := Bool.eq_false_iff.mpr c17
      subst c17
      have H1 : (ephemerislaw1_ArithLaters.j1 kj6 a1 a2 a3 a0_0 a0_1 a0_2 l0_3 l0_4) = some r := by rw [if_neg (show ¬ (false = true) by decide)] at H; exact H
      clear H
      have H := H1
      clear H1
      have H' := Aside0.mk H
      clear H
      go_wp2
      go_meet
      case rel => exact ⟨_, (a3), rs, H', ⟨by have := HJ6.out; first | omega | exact Nat.le_refl _⟩, ⟨bk BK277⟩, ⟨be⟩⟩
    case rest =>
     clear HC16
     (try clear c1); (try clear c2); (try clear p2); (try clear c5); (try clear c13); (try clear c13b0); (try clear c13b1); (try clear c14); (try clear c17); (try clear p2)
     obtain ⟨kq, x3_15, rfl, HA, HJ15, BK277, HB⟩ := hcut
     cases kq with
     | zero => exact absurd HA.out (by simp [ephemerislaw1_ArithLaters.j1])
     | succ kj15 =>
      have H := HA.out
      clear HA
      simp only [ephemerislaw1_ArithLaters.j1] at H
      replace H := Option.bind_eq_some_iff.mp H
      obtain ⟨⟨t290, t291⟩, A180, H⟩ := H
      replace H : ((ephemerisref1_CalendarError.f kj15 a0_0 a0_1 a0_2 l0_3 l0_4).bind fun t292 => (if t292 = 0 then ((ephemerisref1_Apart.f kj15 a0_0 a0_1 a0_2 l0_3 l0_4).bind fun bt293 => ((ephemerisref1_Years_Later.f kj15 bt293.1 bt293.2.1 bt293.2.2.1 bt293.2.2.2.1 bt293.2.2.2.2.1 bt293.2.2.2.2.2.1 bt293.2.2.2.2.2.2.1 bt293.2.2.2.2.2.2.2.1 bt293.2.2.2.2.2.2.2.2 a1 a2 x3_15).bind fun bt308 => (if t290 = bt308.1 then (some (t291 == bt308.2)) else (some false)))) else (if t290 = 0 then (some (t291 == t292)) else (some false)))) = some r := H
      have A18 := Aside0.mk A180
      clear A180
      replace H := Option.bind_eq_some_iff.mp H
      obtain ⟨t292, A190, H⟩ := H
      replace H : (if t292 = 0 then ((ephemerisref1_Apart.f kj15 a0_0 a0_1 a0_2 l0_3 l0_4).bind fun bt293 => ((ephemerisref1_Years_Later.f kj15 bt293.1 bt293.2.1 bt293.2.2.1 bt293.2.2.2.1 bt293.2.2.2.2.1 bt293.2.2.2.2.2.1 bt293.2.2.2.2.2.2.1 bt293.2.2.2.2.2.2.2.1 bt293.2.2.2.2.2.2.2.2 a1 a2 x3_15).bind fun bt308 => (if t290 = bt308.1 then (some (t291 == bt308.2)) else (some false)))) else (if t290 = 0 then (some (t291 == t292)) else (some false))) = some r := H
      have A19 := Aside0.mk A190
      clear A190
      by_cases c20 : t292 = 0
      ·rw [if_pos c20] at H
       have c20b0 : (t292 == 0) = true := beq_iff_eq.mpr c20
       have c20b1 : (t292 != 0) = false := bne_eq_false_iff_eq.mpr c20
       clear c20
       replace H := Option.bind_eq_some_iff.mp H
       obtain ⟨⟨t293, t294, t295, t296, t299, t302, t305, t306, t307⟩, A210, H⟩ := H
       replace H : ((ephemerisref1_Years_Later.f kj15 t293 t294 t295 t296 t299 t302 t305 t306 t307 a1 a2 x3_15).bind fun bt308 => (if t290 = bt308.1 then (some (t291 == bt308.2)) else (some false))) = some r := H
       have A21 := Aside0.mk A210
       clear A210
       replace H := Option.bind_eq_some_iff.mp H
       obtain ⟨⟨t308, t309⟩, A220, H⟩ := H
       replace H : (if t290 = t308 then (some (t291 == t309)) else (some false)) = some r := H
       have A22 := Aside0.mk A220
       clear A220
       by_cases c23 : t290 = t308
       ·rw [if_pos c23] at H
        have c23b0 : (t290 == t308) = true := beq_iff_eq.mpr c23
        have c23b1 : (t290 != t308) = false := bne_eq_false_iff_eq.mpr c23
        clear c23
        obtain rfl := Option.some.inj H
        obtain ⟨hcz24_0, hcz24_1, hcz24_2, hcz24_3, hcz24_4, hfz24_0, hfz24_1, hfz24_2, hfz24_3, hfz24_4⟩ := bc5 BK277
        go_wp2_with (first | ((with_reducible refine gate_callee (f := 19) rfl ?_); refine goesL_ (some 36) rfl rfl Try.func19 kx rfl #[.agg #[.string a0_0, .int .i64 a0_1, .int .i64 a0_2, .slice A0_3 l0_3.length c0_3, .slice A0_4 l0_4.length c0_4], .int .i64 a1, .int .i64 a2, .int .i64 x3_15] rfl aa ?_; (with_reducible refine (arith_Later.calls kj15 a0_0 a0_1 a0_2 _ _ l0_3 _ _ l0_4 a1 a2 x3_15 t290 t291 _ ?side1 ?side2 ?side3 ?side4 A18.out).mono ?_); (case side1 => exact kc (Kd.C_below HR0_3.out HB.out)); (case side2 => exact HC0_3.out); (case side3 => exact kc (Kd.C_below HR0_4.out HB.out)); (case side4 => exact HC0_4.out); rintro e w25 ⟨rfl, hb⟩; refine ⟨_, rfl, ?_⟩; have n0_ := bb BK277 hb; have n1_ := Aside0.mk (below_step be hb); clear BK277; clear HB; have BK277 := n0_; have HB := n1_; clear n0_ n1_; (try clear hb); (try clear hb2); (try clear hk); (try clear hi); obtain ⟨hcz26_0, hcz26_1, hcz26_2, hcz26_3, hcz26_4, hfz26_0, hfz26_1, hfz26_2, hfz26_3, hfz26_4⟩ := bc5 BK277) | ((with_reducible refine gate_callee (f := 22) rfl ?_); refine goesL_ (some 40) rfl rfl Try.func22 kx rfl #[.agg #[.string a0_0, .int .i64 a0_1, .int .i64 a0_2, .slice A0_3 l0_3.length c0_3, .slice A0_4 l0_4.length c0_4]] rfl aa ?_; (with_reducible refine (ephemerisref1_CalendarError.calls kj15 a0_0 a0_1 a0_2 _ _ l0_3 _ _ l0_4 t292 _ ?side1 ?side2 ?side3 ?side4 A19.out).mono ?_); (case side1 => exact kc (Kd.C_below HR0_3.out HB.out)); (case side2 => exact HC0_3.out); (case side3 => exact kc (Kd.C_below HR0_4.out HB.out)); (case side4 => exact HC0_4.out); rintro e w27 ⟨rfl, hb⟩; refine ⟨_, rfl, ?_⟩; have n0_ := bb BK277 hb; have n1_ := Aside0.mk (below_step be hb); clear BK277; clear HB; have BK277 := n0_; have HB := n1_; clear n0_ n1_; (try clear hb); (try clear hb2); (try clear hk); (try clear hi); obtain ⟨hcz28_0, hcz28_1, hcz28_2, hcz28_3, hcz28_4, hfz28_0, hfz28_1, hfz28_2, hfz28_3, hfz28_4⟩ := bc5 BK277) | ((with_reducible refine gate_callee (f := 23) rfl ?_); refine goesL_ (some 52) rfl rfl Try.func23 kx rfl #[.agg #[.string a0_0, .int .i64 a0_1, .int .i64 a0_2, .slice A0_3 l0_3.length c0_3, .slice A0_4 l0_4.length c0_4]] rfl aa ?_; (with_reducible refine (ephemerisref1_Apart.calls kj15 a0_0 a0_1 a0_2 (fun k_ => k_ < w.heap.size) _ _ l0_3 (fun k_ => k_ < w.heap.size) _ _ l0_4 t293 t294 t295 t296 t299 t302 t305 t306 t307 _ ?side1 ?side2 A21.out).mono ?_); (case side1 => exact Kd.V_mk HC0_3.out (Kd.F_below (Kd.C_F k125_heap HR0_3.out) be)); (case side2 => exact Kd.V_mk HC0_4.out (Kd.F_below (Kd.C_F (Kd.heap_int .i64) HR0_4.out) be)); rintro e w29 ⟨v297, v300, v303, rfl, ho0, ho1, ho2, hb⟩; refine ⟨_, rfl, ?_⟩; have n0_ := Aside0.mk (Kd.V_lower (Kd.V_mono (ok' := fun k_ => some k_ ≠ (v303 : Value).ownBlock ∧ k_ ≠ gb277) ho0 (fun k_ hk_ => ⟨hk_.2, Or.elim hk_.1 (fun hs_ => Or.elim hs_ (fun hs_ => fun e_ => Nat.not_le.2 hs_ (by rw [e_]; exact GW277.out)) (fun hs_ => fun e_ => Nat.not_le.2 hs_ (by rw [e_]; exact GW277.out))) (fun hn_ => (Kd.freshB (g := gb277) (o := .cells #[.string a0_0, .int .i64 a0_1, .int .i64 a0_2, .slice A0_3 l0_3.length c0_3, .slice A0_4 l0_4.length c0_4] 44 (0, 0)) (bk BK277) k_ hn_))⟩)) (below_size be)); have n1_ := Aside0.mk (Kd.V_lower (Kd.V_mono (ok' := fun k_ => some k_ ≠ (v303 : Value).ownBlock ∧ k_ ≠ gb277) ho1 (fun k_ hk_ => ⟨hk_.2, Or.elim hk_.1 (fun hs_ => Or.elim hs_ (fun hs_ => fun e_ => Nat.not_le.2 hs_ (by rw [e_]; exact GW277.out)) (fun hs_ => fun e_ => Nat.not_le.2 hs_ (by rw [e_]; exact GW277.out))) (fun hn_ => (Kd.freshB (g := gb277) (o := .cells #[.string a0_0, .int .i64 a0_1, .int .i64 a0_2, .slice A0_3 l0_3.length c0_3, .slice A0_4 l0_4.length c0_4] 44 (0, 0)) (bk BK277) k_ hn_))⟩)) (below_size be)); have n2_ := Aside0.mk (Kd.R_lower (Kd.R_mono (ok' := fun k_ => True) ho2 (fun _ hk_ => trivial)) (below_size be)); have n3_ := bb BK277 hb; have n4_ := Aside0.mk (below_step be hb); clear BK277; clear HB; have HO298 := n0_; have HO301 := n1_; have HO304 := n2_; have BK277 := n3_; have HB := n4_; clear n0_ n1_ n2_ n3_ n4_; (try clear hb); (try clear hb2); (try clear hk); (try clear hi); (try clear ho0); (try clear ho1); (try clear ho2); obtain ⟨Ao30, co30, eo30⟩ := Kd.V_slice HO298.out; subst eo30; obtain ⟨Ao31, co31, eo31⟩ := Kd.V_slice HO301.out; subst eo31; obtain ⟨Ao32, co32, eo32⟩ := Kd.R_slice HO304.out; subst eo32) | ((with_reducible refine gate_callee (f := 24) rfl ?_); refine goesL_ (some 56) rfl rfl Try.func24 kx rfl #[.agg #[.string t293, .int .i64 t294, .int .i64 t295, .slice Ao30 t296.length co30, .slice Ao31 t299.length co31, .slice Ao32 t302.length co32, .int .i64 t305, .int .i64 t306, .int .i64 t307], .int .i64 a1, .int .i64 a2, .int .i64 x3_15] rfl aa ?_; (with_reducible refine (ephemerisref1_Years_Later.calls kj15 t293 t294 t295 _ _ t296 _ _ t299 _ _ t302 t305 t306 t307 a1 a2 x3_15 t308 t309 _ ?side1 ?side2 ?side3 ?side4 ?side5 ?side6 A22.out).mono ?_); (case side1 => repeat (first | exact (Kd.V_reads' HO298.out).2.2 | (with_reducible refine Kd.C_alloc ?_ _) | (with_reducible refine Kd.C_drewN ?_ _) | (with_reducible refine Kd.C_drew ?_))); (case side2 => exact (Kd.V_reads' HO298.out).2.1); (case side3 => repeat (first | exact (Kd.V_reads' HO301.out).2.2 | (with_reducible refine Kd.C_alloc ?_ _) | (with_reducible refine Kd.C_drewN ?_ _) | (with_reducible refine Kd.C_drew ?_))); (case side4 => exact (Kd.V_reads' HO301.out).2.1); (case side5 => repeat (first | exact (Kd.R_reads' HO304.out).2.2 | (with_reducible refine Kd.C_alloc ?_ _) | (with_reducible refine Kd.C_drewN ?_ _) | (with_reducible refine Kd.C_drew ?_))); (case side6 => exact (Kd.R_reads' HO304.out).2.1); rintro e w33 ⟨rfl, hb⟩; refine ⟨_, rfl, ?_⟩; have n0_ := Aside0.mk (Kd.V_below (by (with_reducible repeat (first | apply Kd.V_alloc | apply Kd.V_drewN | apply Kd.V_drew)); exact HO298.out) hb); have n1_ := Aside0.mk (Kd.V_below (by (with_reducible repeat (first | apply Kd.V_alloc | apply Kd.V_drewN | apply Kd.V_drew)); exact HO301.out) hb); have n2_ := Aside0.mk (Kd.R_below (by (with_reducible repeat (first | apply Kd.R_alloc | apply Kd.R_drewN | apply Kd.R_drew)); exact HO304.out) hb); have n3_ := bb BK277 hb; have n4_ := Aside0.mk (below_step be hb); clear HO298; clear HO301; clear HO304; clear BK277; clear HB; have HO298 := n0_; have HO301 := n1_; have HO304 := n2_; have BK277 := n3_; have HB := n4_; clear n0_ n1_ n2_ n3_ n4_; (try clear hb); (try clear hb2); (try clear hk); (try clear hi)))
        go_ret
        exact ⟨by first | rfl | (simp [errW_none, errW_some] <;> rfl) | (simp [*, errW_none, errW_some] <;> rfl), be⟩
       ·rw [if_neg c23] at H
        have c23b0 : (t290 == t308) = false := beq_eq_false_iff_ne.mpr c23
        have c23b1 : (t290 != t308) = true := bne_iff_ne.mpr c23
        obtain rfl := Option.some.inj H
        obtain ⟨hcz34_0, hcz34_1, hcz34_2, hcz34_3, hcz34_4, hfz34_0, hfz34_1, hfz34_2, hfz34_3, hfz34_4⟩ := bc5 BK277
        go_wp2_with (first | ((with_reducible refine gate_callee (f := 19) rfl ?_); refine goesL_ (some 36) rfl rfl Try.func19 kx rfl #[.agg #[.string a0_0, .int .i64 a0_1, .int .i64 a0_2, .slice A0_3 l0_3.length c0_3, .slice A0_4 l0_4.length c0_4], .int .i64 a1, .int .i64 a2, .int .i64 x3_15] rfl aa ?_; (with_reducible refine (arith_Later.calls kj15 a0_0 a0_1 a0_2 _ _ l0_3 _ _ l0_4 a1 a2 x3_15 t290 t291 _ ?side1 ?side2 ?side3 ?side4 A18.out).mono ?_); (case side1 => exact kc (Kd.C_below HR0_3.out HB.out)); (case side2 => exact HC0_3.out); (case side3 => exact kc (Kd.C_below HR0_4.out HB.out)); (case side4 => exact HC0_4.out); rintro e w35 ⟨rfl, hb⟩; refine ⟨_, rfl, ?_⟩; have n0_ := bb BK277 hb; have n1_ := Aside0.mk (below_step be hb); clear BK277; clear HB; have BK277 := n0_; have HB := n1_; clear n0_ n1_; (try clear hb); (try clear hb2); (try clear hk); (try clear hi); obtain ⟨hcz36_0, hcz36_1, hcz36_2, hcz36_3, hcz36_4, hfz36_0, hfz36_1, hfz36_2, hfz36_3, hfz36_4⟩ := bc5 BK277) | ((with_reducible refine gate_callee (f := 22) rfl ?_); refine goesL_ (some 40) rfl rfl Try.func22 kx rfl #[.agg #[.string a0_0, .int .i64 a0_1, .int .i64 a0_2, .slice A0_3 l0_3.length c0_3, .slice A0_4 l0_4.length c0_4]] rfl aa ?_; (with_reducible refine (ephemerisref1_CalendarError.calls kj15 a0_0 a0_1 a0_2 _ _ l0_3 _ _ l0_4 t292 _ ?side1 ?side2 ?side3 ?side4 A19.out).mono ?_); (case side1 => exact kc (Kd.C_below HR0_3.out HB.out)); (case side2 => exact HC0_3.out); (case side3 => exact kc (Kd.C_below HR0_4.out HB.out)); (case side4 => exact HC0_4.out); rintro e w37 ⟨rfl, hb⟩; refine ⟨_, rfl, ?_⟩; have n0_ := bb BK277 hb; have n1_ := Aside0.mk (below_step be hb); clear BK277; clear HB; have BK277 := n0_; have HB := n1_; clear n0_ n1_; (try clear hb); (try clear hb2); (try clear hk); (try clear hi); obtain ⟨hcz38_0, hcz38_1, hcz38_2, hcz38_3, hcz38_4, hfz38_0, hfz38_1, hfz38_2, hfz38_3, hfz38_4⟩ := bc5 BK277) | ((with_reducible refine gate_callee (f := 23) rfl ?_); refine goesL_ (some 52) rfl rfl Try.func23 kx rfl #[.agg #[.string a0_0, .int .i64 a0_1, .int .i64 a0_2, .slice A0_3 l0_3.length c0_3, .slice A0_4 l0_4.length c0_4]] rfl aa ?_; (with_reducible refine (ephemerisref1_Apart.calls kj15 a0_0 a0_1 a0_2 (fun k_ => k_ < w.heap.size) _ _ l0_3 (fun k_ => k_ < w.heap.size) _ _ l0_4 t293 t294 t295 t296 t299 t302 t305 t306 t307 _ ?side1 ?side2 A21.out).mono ?_); (case side1 => exact Kd.V_mk HC0_3.out (Kd.F_below (Kd.C_F k125_heap HR0_3.out) be)); (case side2 => exact Kd.V_mk HC0_4.out (Kd.F_below (Kd.C_F (Kd.heap_int .i64) HR0_4.out) be)); rintro e w39 ⟨v297, v300, v303, rfl, ho0, ho1, ho2, hb⟩; refine ⟨_, rfl, ?_⟩; have n0_ := Aside0.mk (Kd.V_lower (Kd.V_mono (ok' := fun k_ => some k_ ≠ (v303 : Value).ownBlock ∧ k_ ≠ gb277) ho0 (fun k_ hk_ => ⟨hk_.2, Or.elim hk_.1 (fun hs_ => Or.elim hs_ (fun hs_ => fun e_ => Nat.not_le.2 hs_ (by rw [e_]; exact GW277.out)) (fun hs_ => fun e_ => Nat.not_le.2 hs_ (by rw [e_]; exact GW277.out))) (fun hn_ => (Kd.freshB (g := gb277) (o := .cells #[.string a0_0, .int .i64 a0_1, .int .i64 a0_2, .slice A0_3 l0_3.length c0_3, .slice A0_4 l0_4.length c0_4] 44 (0, 0)) (bk BK277) k_ hn_))⟩)) (below_size be)); have n1_ := Aside0.mk (Kd.V_lower (Kd.V_mono (ok' := fun k_ => some k_ ≠ (v303 : Value).ownBlock ∧ k_ ≠ gb277) ho1 (fun k_ hk_ => ⟨hk_.2, Or.elim hk_.1 (fun hs_ => Or.elim hs_ (fun hs_ => fun e_ => Nat.not_le.2 hs_ (by rw [e_]; exact GW277.out)) (fun hs_ => fun e_ => Nat.not_le.2 hs_ (by rw [e_]; exact GW277.out))) (fun hn_ => (Kd.freshB (g := gb277) (o := .cells #[.string a0_0, .int .i64 a0_1, .int .i64 a0_2, .slice A0_3 l0_3.length c0_3, .slice A0_4 l0_4.length c0_4] 44 (0, 0)) (bk BK277) k_ hn_))⟩)) (below_size be)); have n2_ := Aside0.mk (Kd.R_lower (Kd.R_mono (ok' := fun k_ => True) ho2 (fun _ hk_ => trivial)) (below_size be)); have n3_ := bb BK277 hb; have n4_ := Aside0.mk (below_step be hb); clear BK277; clear HB; have HO298 := n0_; have HO301 := n1_; have HO304 := n2_; have BK277 := n3_; have HB := n4_; clear n0_ n1_ n2_ n3_ n4_; (try clear hb); (try clear hb2); (try clear hk); (try clear hi); (try clear ho0); (try clear ho1); (try clear ho2); obtain ⟨Ao40, co40, eo40⟩ := Kd.V_slice HO298.out; subst eo40; obtain ⟨Ao41, co41, eo41⟩ := Kd.V_slice HO301.out; subst eo41; obtain ⟨Ao42, co42, eo42⟩ := Kd.R_slice HO304.out; subst eo42) | ((with_reducible refine gate_callee (f := 24) rfl ?_); refine goesL_ (some 56) rfl rfl Try.func24 kx rfl #[.agg #[.string t293, .int .i64 t294, .int .i64 t295, .slice Ao40 t296.length co40, .slice Ao41 t299.length co41, .slice Ao42 t302.length co42, .int .i64 t305, .int .i64 t306, .int .i64 t307], .int .i64 a1, .int .i64 a2, .int .i64 x3_15] rfl aa ?_; (with_reducible refine (ephemerisref1_Years_Later.calls kj15 t293 t294 t295 _ _ t296 _ _ t299 _ _ t302 t305 t306 t307 a1 a2 x3_15 t308 t309 _ ?side1 ?side2 ?side3 ?side4 ?side5 ?side6 A22.out).mono ?_); (case side1 => repeat (first | exact (Kd.V_reads' HO298.out).2.2 | (with_reducible refine Kd.C_alloc ?_ _) | (with_reducible refine Kd.C_drewN ?_ _) | (with_reducible refine Kd.C_drew ?_))); (case side2 => exact (Kd.V_reads' HO298.out).2.1); (case side3 => repeat (first | exact (Kd.V_reads' HO301.out).2.2 | (with_reducible refine Kd.C_alloc ?_ _) | (with_reducible refine Kd.C_drewN ?_ _) | (with_reducible refine Kd.C_drew ?_))); (case side4 => exact (Kd.V_reads' HO301.out).2.1); (case side5 => repeat (first | exact (Kd.R_reads' HO304.out).2.2 | (with_reducible refine Kd.C_alloc ?_ _) | (with_reducible refine Kd.C_drewN ?_ _) | (with_reducible refine Kd.C_drew ?_))); (case side6 => exact (Kd.R_reads' HO304.out).2.1); rintro e w43 ⟨rfl, hb⟩; refine ⟨_, rfl, ?_⟩; have n0_ := Aside0.mk (Kd.V_below (by (with_reducible repeat (first | apply Kd.V_alloc | apply Kd.V_drewN | apply Kd.V_drew)); exact HO298.out) hb); have n1_ := Aside0.mk (Kd.V_below (by (with_reducible repeat (first | apply Kd.V_alloc | apply Kd.V_drewN | apply Kd.V_drew)); exact HO301.out) hb); have n2_ := Aside0.mk (Kd.R_below (by (with_reducible repeat (first | apply Kd.R_alloc | apply Kd.R_drewN | apply Kd.R_drew)); exact HO304.out) hb); have n3_ := bb BK277 hb; have n4_ := Aside0.mk (below_step be hb); clear HO298; clear HO301; clear HO304; clear BK277; clear HB; have HO298 := n0_; have HO301 := n1_; have HO304 := n2_; have BK277 := n3_; have HB := n4_; clear n0_ n1_ n2_ n3_ n4_; (try clear hb); (try clear hb2); (try clear hk); (try clear hi)))
        go_ret
        exact ⟨by first | rfl | (simp [errW_none, errW_some] <;> rfl) | (simp [*, errW_none, errW_some] <;> rfl), be⟩
      ·rw [if_neg c20] at H
       have c20b0 : (t292 == 0) = false := beq_eq_false_iff_ne.mpr c20
       have c20b1 : (t292 != 0) = true := bne_iff_ne.mpr c20
       by_cases c44 : t290 = 0
       ·rw [if_pos c44] at H
        have c44b0 : (t290 == 0) = true := beq_iff_eq.mpr c44
        have c44b1 : (t290 != 0) = false := bne_eq_false_iff_eq.mpr c44
        clear c44
        obtain rfl := Option.some.inj H
        obtain ⟨hcz45_0, hcz45_1, hcz45_2, hcz45_3, hcz45_4, hfz45_0, hfz45_1, hfz45_2, hfz45_3, hfz45_4⟩ := bc5 BK277
        go_wp2_with (first | ((with_reducible refine gate_callee (f := 19) rfl ?_); refine goesL_ (some 36) rfl rfl Try.func19 kx rfl #[.agg #[.string a0_0, .int .i64 a0_1, .int .i64 a0_2, .slice A0_3 l0_3.length c0_3, .slice A0_4 l0_4.length c0_4], .int .i64 a1, .int .i64 a2, .int .i64 x3_15] rfl aa ?_; (with_reducible refine (arith_Later.calls kj15 a0_0 a0_1 a0_2 _ _ l0_3 _ _ l0_4 a1 a2 x3_15 t290 t291 _ ?side1 ?side2 ?side3 ?side4 A18.out).mono ?_); (case side1 => exact kc (Kd.C_below HR0_3.out HB.out)); (case side2 => exact HC0_3.out); (case side3 => exact kc (Kd.C_below HR0_4.out HB.out)); (case side4 => exact HC0_4.out); rintro e w46 ⟨rfl, hb⟩; refine ⟨_, rfl, ?_⟩; have n0_ := bb BK277 hb; have n1_ := Aside0.mk (below_step be hb); clear BK277; clear HB; have BK277 := n0_; have HB := n1_; clear n0_ n1_; (try clear hb); (try clear hb2); (try clear hk); (try clear hi); obtain ⟨hcz47_0, hcz47_1, hcz47_2, hcz47_3, hcz47_4, hfz47_0, hfz47_1, hfz47_2, hfz47_3, hfz47_4⟩ := bc5 BK277) | ((with_reducible refine gate_callee (f := 22) rfl ?_); refine goesL_ (some 40) rfl rfl Try.func22 kx rfl #[.agg #[.string a0_0, .int .i64 a0_1, .int .i64 a0_2, .slice A0_3 l0_3.length c0_3, .slice A0_4 l0_4.length c0_4]] rfl aa ?_; (with_reducible refine (ephemerisref1_CalendarError.calls kj15 a0_0 a0_1 a0_2 _ _ l0_3 _ _ l0_4 t292 _ ?side1 ?side2 ?side3 ?side4 A19.out).mono ?_); (case side1 => exact kc (Kd.C_below HR0_3.out HB.out)); (case side2 => exact HC0_3.out); (case side3 => exact kc (Kd.C_below HR0_4.out HB.out)); (case side4 => exact HC0_4.out); rintro e w48 ⟨rfl, hb⟩; refine ⟨_, rfl, ?_⟩; have n0_ := bb BK277 hb; have n1_ := Aside0.mk (below_step be hb); clear BK277; clear HB; have BK277 := n0_; have HB := n1_; clear n0_ n1_; (try clear hb); (try clear hb2); (try clear hk); (try clear hi)))
        go_ret
        exact ⟨by first | rfl | (simp [errW_none, errW_some] <;> rfl) | (simp [*, errW_none, errW_some] <;> rfl), be⟩
       ·rw [if_neg c44] at H
        have c44b0 : (t290 == 0) = false := beq_eq_false_iff_ne.mpr c44
        have c44b1 : (t290 != 0) = true := bne_iff_ne.mpr c44
        obtain rfl := Option.some.inj H
        obtain ⟨hcz49_0, hcz49_1, hcz49_2, hcz49_3, hcz49_4, hfz49_0, hfz49_1, hfz49_2, hfz49_3, hfz49_4⟩ := bc5 BK277
        go_wp2_with (first | ((with_reducible refine gate_callee (f := 19) rfl ?_); refine goesL_ (some 36) rfl rfl Try.func19 kx rfl #[.agg #[.string a0_0, .int .i64 a0_1, .int .i64 a0_2, .slice A0_3 l0_3.length c0_3, .slice A0_4 l0_4.length c0_4], .int .i64 a1, .int .i64 a2, .int .i64 x3_15] rfl aa ?_; (with_reducible refine (arith_Later.calls kj15 a0_0 a0_1 a0_2 _ _ l0_3 _ _ l0_4 a1 a2 x3_15 t290 t291 _ ?side1 ?side2 ?side3 ?side4 A18.out).mono ?_); (case side1 => exact kc (Kd.C_below HR0_3.out HB.out)); (case side2 => exact HC0_3.out); (case side3 => exact kc (Kd.C_below HR0_4.out HB.out)); (case side4 => exact HC0_4.out); rintro e w50 ⟨rfl, hb⟩; refine ⟨_, rfl, ?_⟩; have n0_ := bb BK277 hb; have n1_ := Aside0.mk (below_step be hb); clear BK277; clear HB; have BK277 := n0_; have HB := n1_; clear n0_ n1_; (try clear hb); (try clear hb2); (try clear hk); (try clear hi); obtain ⟨hcz51_0, hcz51_1, hcz51_2, hcz51_3, hcz51_4, hfz51_0, hfz51_1, hfz51_2, hfz51_3, hfz51_4⟩ := bc5 BK277) | ((with_reducible refine gate_callee (f := 22) rfl ?_); refine goesL_ (some 40) rfl rfl Try.func22 kx rfl #[.agg #[.string a0_0, .int .i64 a0_1, .int .i64 a0_2, .slice A0_3 l0_3.length c0_3, .slice A0_4 l0_4.length c0_4]] rfl aa ?_; (with_reducible refine (ephemerisref1_CalendarError.calls kj15 a0_0 a0_1 a0_2 _ _ l0_3 _ _ l0_4 t292 _ ?side1 ?side2 ?side3 ?side4 A19.out).mono ?_); (case side1 => exact kc (Kd.C_below HR0_3.out HB.out)); (case side2 => exact HC0_3.out); (case side3 => exact kc (Kd.C_below HR0_4.out HB.out)); (case side4 => exact HC0_4.out); rintro e w52 ⟨rfl, hb⟩; refine ⟨_, rfl, ?_⟩; have n0_ := bb BK277 hb; have n1_ := Aside0.mk (below_step be hb); clear BK277; clear HB; have BK277 := n0_; have HB := n1_; clear n0_ n1_; (try clear hb); (try clear hb2); (try clear hk); (try clear hi)))
        go_ret
        exact ⟨by first | rfl | (simp [errW_none, errW_some] <;> rfl) | (simp [*, errW_none, errW_some] <;> rfl), be⟩

end Go.Proofs.Ytlfammlboncmeaa.PArithLaters
