/- The walks of the functions of this part, laid closer by a program of mine. -/
-- The walks of the law's functions, told by a program.
import Derived.Test.YtlfammlboncmeaaY
import Derived.Test.YtlfammlboncmeaaPArithLatersx0
import Derived.Test.YtlfammlboncmeaaPArithLatersx5
import Derived.Test.YtlfammlboncmeaaPArithLatersx6
namespace Go.Proofs.Ytlfammlboncmeaa.PArithLaters
open Go.RowKit Go.Proofs.YtlfammlboncmeaaW.PrintWords Go.Proofs.YtlfammlboncmeaaW.PrintLast Go.Proofs.YtlfammlboncmeaaW.PrintMore Go.Proofs.Ytlfammlboncmeaa.Y
attribute [local go_sem] max2_int min2_int max_two min_two max_three min_three max_four min_four   -- for this text's walks alone
set_option linter.unusedVariables false
set_option linter.unusedSimpArgs false

/-! ### ephemerisref1_CalendarError: function 22 -/
mutual
def ephemerisref1_CalendarError.j0 : Nat → Bool → ByteArray → Int → Int → List (S125) → List Int → Option (Int)
 | 0, _, _, _, _, _, _ => none
 | k + 1, x19, x210000, x210001, x210002, x210003, x210004 => if x19 = true then (some 3) else ((ephemerisref1_MonthsError.f k x210003).bind fun t213 => (if t213 = 0 then (ephemerisref1_CalendarError.l0 k x210004 (x210004.length : Int) 0 x210000 x210001 x210002 x210003 x210004) else (some t213)))
def ephemerisref1_CalendarError.l0 : Nat → List Int → Int → Int → ByteArray → Int → Int → List (S125) → List Int → Option (Int)
 | 0, _, _, _, _, _, _, _, _ => none
 | k + 1, x27, x28, x29, x210000, x210001, x210002, x210003, x210004 => if x29 < x28 then (if 0 ≤ x29 then (if x29 < (x27.length : Int) then ((ephemerisref1_In.f (rd x27 x29) 1 x210002).bind fun t215 => (if t215 = true then (if x29 > 0 then (if 0 ≤ (wrap64 (x29 - 1)) then (if (wrap64 (x29 - 1)) < (x210004.length : Int) then (if (rd x210004 (wrap64 (x29 - 1))) ≥ (rd x27 x29) then (some 9) else (ephemerisref1_CalendarError.l0 k x27 x28 (wrap64 (x29 + 1)) x210000 x210001 x210002 x210003 x210004)) else (none)) else (none)) else (ephemerisref1_CalendarError.l0 k x27 x28 (wrap64 (x29 + 1)) x210000 x210001 x210002 x210003 x210004)) else (some 3))) else (none)) else (none)) else (some 0)
end
def ephemerisref1_CalendarError.f (k : Nat) (a0_0 : ByteArray) (a0_1 : Int) (a0_2 : Int) (l0_3 : List (S125)) (l0_4 : List Int) : Option (Int) := (ephemerisref1_Name.f k a0_0).bind fun t210 => (if t210 = true then ((ephemerisref1_Day.f a0_1).bind fun t211 => (if t211 = true then ((ephemerisref1_In.f a0_2 1 3000).bind fun t212 => (ephemerisref1_CalendarError.j0 k (!t212) a0_0 a0_1 a0_2 l0_3 l0_4)) else (ephemerisref1_CalendarError.j0 k true a0_0 a0_1 a0_2 l0_3 l0_4))) else (some 5))
theorem ephemerisref1_CalendarError.mono_l : ∀ k, (∀ y0 y1 y2 y3 y4 y5, LeO (ephemerisref1_CalendarError.j0 k y0 y1 y2 y3 y4 y5) (ephemerisref1_CalendarError.j0 (k + 1) y0 y1 y2 y3 y4 y5)) ∧ (∀ y0 y1 y2 y3 y4 y5 y6 y7, LeO (ephemerisref1_CalendarError.l0 k y0 y1 y2 y3 y4 y5 y6 y7) (ephemerisref1_CalendarError.l0 (k + 1) y0 y1 y2 y3 y4 y5 y6 y7))
 | 0 => ⟨fun _ _ _ _ _ _ r h => by simp [ephemerisref1_CalendarError.j0] at h, fun _ _ _ _ _ _ _ _ r h => by simp [ephemerisref1_CalendarError.l0] at h⟩
 | k + 1 => by
  obtain ⟨ih0, ih1⟩ := ephemerisref1_CalendarError.mono_l k
  refine ⟨?_, ?_⟩
  ·intro y0 y1 y2 y3 y4 y5
   unfold ephemerisref1_CalendarError.j0
   repeat' first
   | (with_reducible exact ih0 _ _ _ _ _ _)
   | (with_reducible exact ih1 _ _ _ _ _ _ _ _)
   | (with_reducible exact ephemerisref1_MonthsError.mono _ _)
   | (with_reducible exact ephemerisref1_Name.mono _ _)
   | (with_reducible exact LeO.refl _)
   | (with_reducible exact LeO.none _)
   | (with_reducible refine LeO.ite ?_ ?_)
   | (with_reducible refine LeO.bind ?_ (fun _ => ?_))
   | exact ih0 _ _ _ _ _ _
   | exact ih1 _ _ _ _ _ _ _ _
   | exact ephemerisref1_MonthsError.mono _ _
   | exact ephemerisref1_Name.mono _ _
   | exact LeO.none _
   | refine LeO.ite ?_ ?_
   | refine LeO.bind ?_ (fun _ => ?_)
  ·intro y0 y1 y2 y3 y4 y5 y6 y7
   unfold ephemerisref1_CalendarError.l0
   repeat' first
   | (with_reducible exact ih0 _ _ _ _ _ _)
   | (with_reducible exact ih1 _ _ _ _ _ _ _ _)
   | (with_reducible exact ephemerisref1_MonthsError.mono _ _)
   | (with_reducible exact ephemerisref1_Name.mono _ _)
   | (with_reducible exact LeO.refl _)
   | (with_reducible exact LeO.none _)
   | (with_reducible refine LeO.ite ?_ ?_)
   | (with_reducible refine LeO.bind ?_ (fun _ => ?_))
   | exact ih0 _ _ _ _ _ _
   | exact ih1 _ _ _ _ _ _ _ _
   | exact ephemerisref1_MonthsError.mono _ _
   | exact ephemerisref1_Name.mono _ _
   | exact LeO.none _
   | refine LeO.ite ?_ ?_
   | refine LeO.bind ?_ (fun _ => ?_)
theorem ephemerisref1_CalendarError.mono : ∀ a0 a1 a2 a3 a4 k, LeO (ephemerisref1_CalendarError.f k a0 a1 a2 a3 a4) (ephemerisref1_CalendarError.f (k + 1) a0 a1 a2 a3 a4) := by
 intro a0 a1 a2 a3 a4 k
 obtain ⟨ih0, ih1⟩ := ephemerisref1_CalendarError.mono_l k
 unfold ephemerisref1_CalendarError.f
 repeat' first
   | (with_reducible exact ih0 _ _ _ _ _ _)
   | (with_reducible exact ih1 _ _ _ _ _ _ _ _)
   | (with_reducible exact ephemerisref1_MonthsError.mono _ _)
   | (with_reducible exact ephemerisref1_Name.mono _ _)
   | (with_reducible exact LeO.refl _)
   | (with_reducible exact LeO.none _)
   | (with_reducible refine LeO.ite ?_ ?_)
   | (with_reducible refine LeO.bind ?_ (fun _ => ?_))
   | exact ih0 _ _ _ _ _ _
   | exact ih1 _ _ _ _ _ _ _ _
   | exact ephemerisref1_MonthsError.mono _ _
   | exact ephemerisref1_Name.mono _ _
   | exact LeO.none _
   | refine LeO.ite ?_ ?_
   | refine LeO.bind ?_ (fun _ => ?_)
set_option maxHeartbeats 8000000 in
set_option maxRecDepth 100000 in
theorem ephemerisref1_CalendarError.calls (k : Nat) (a0_0 : ByteArray) (a0_1 : Int) (a0_2 : Int) (A0_3 : Option Addr) (c0_3 : Nat) (l0_3 : List (S125)) (A0_4 : Option Addr) (c0_4 : Nat) (l0_4 : List Int) (r : Int) (w : World) (hr0_3 : Kd.C k125 w A0_3 l0_3.length l0_3) (hc0_3 : l0_3.length ≤ c0_3) (hr0_4 : Kd.C (Kd.int .i64) w A0_4 l0_4.length l0_4) (hc0_4 : l0_4.length ≤ c0_4) (h : ephemerisref1_CalendarError.f k a0_0 a0_1 a0_2 l0_3 l0_4 = some r) :
  Calls Try.prog 22 #[.agg #[.string a0_0, .int .i64 a0_1, .int .i64 a0_2, .slice A0_3 l0_3.length c0_3, .slice A0_4 l0_4.length c0_4]] w fun e w' => e = .returned (.int .i64 r) ∧ Below w.heap.size w w' := by
 have hu44 := Try.underlying44
 have HR0_3 := Aside0.mk hr0_3
 have HC0_3 := Aside0.mk hc0_3
 clear hr0_3 hc0_3
 have HR0_4 := Aside0.mk hr0_4
 have HC0_4 := Aside0.mk hc0_4
 clear hr0_4 hc0_4
 have HB := Aside0.mk (Below.refl w.heap.size w)
 have H : ((ephemerisref1_Name.f k a0_0).bind fun t210 => (if t210 = true then ((ephemerisref1_Day.f a0_1).bind fun t211 => (if t211 = true then ((ephemerisref1_In.f a0_2 1 3000).bind fun t212 => (ephemerisref1_CalendarError.j0 k (!t212) a0_0 a0_1 a0_2 l0_3 l0_4)) else (ephemerisref1_CalendarError.j0 k true a0_0 a0_1 a0_2 l0_3 l0_4))) else (some 5))) = some r := h
 clear h
 replace H := Option.bind_eq_some_iff.mp H
 obtain ⟨t210, A20, H⟩ := H
 replace H : (if t210 = true then ((ephemerisref1_Day.f a0_1).bind fun t211 => (if t211 = true then ((ephemerisref1_In.f a0_2 1 3000).bind fun t212 => (ephemerisref1_CalendarError.j0 k (!t212) a0_0 a0_1 a0_2 l0_3 l0_4)) else (ephemerisref1_CalendarError.j0 k true a0_0 a0_1 a0_2 l0_3 l0_4))) else (some 5)) = some r := H
 have A2 := Aside0.mk A20
 clear A20
 by_cases c3 : t210 = true
 ·subst c3
  have H1 : ((ephemerisref1_Day.f a0_1).bind fun t211 => (if t211 = true then ((ephemerisref1_In.f a0_2 1 3000).bind fun t212 => (ephemerisref1_CalendarError.j0 k (!t212) a0_0 a0_1 a0_2 l0_3 l0_4)) else (ephemerisref1_CalendarError.j0 k true a0_0 a0_1 a0_2 l0_3 l0_4))) = some r := by rw [if_pos rfl] at H; exact H
  clear H
  have H := H1
  clear H1
  have HC4 := Aside0.mk H
  clear H
  go_enter Try.func22, Try.ntmps22
  go_upto_region 3 with (first | ((with_reducible refine gate_dst (N := 1) rfl ?_); refine box_event ?hg (N := 1) ?hd (cs := #[.string a0_0, .int .i64 a0_1, .int .i64 a0_2, .slice A0_3 l0_3.length c0_3, .slice A0_4 l0_4.length c0_4]) (t := 44) ?hr ?_; (case hd => rfl); (case hg => rfl); (case hr => first | (go_simp; done) | (go_simp; rfl)); intro gb209 hg w5 hbox hb; have n0_ := Aside0.mk (below_step be hb); have n1_ := Aside0.mk (hbox); have n2_ := gs hg HB; have n3_ := n2_; clear HB; have HB := n0_; have BK209 := n1_; have GW209 := n2_; have GE209 := n3_; clear n0_ n1_ n2_ n3_; clear hb hbox hg; obtain ⟨hcz6_0, hcz6_1, hcz6_2, hcz6_3, hcz6_4, hfz6_0, hfz6_1, hfz6_2, hfz6_3, hfz6_4⟩ := bc5 BK209) | ((with_reducible refine gate_callee (f := 36) rfl ?_); refine goesL_ (some 8) rfl rfl Try.func36 kx rfl #[.string a0_0] rfl aa ?_; (with_reducible refine (ephemerisref1_Name.calls k a0_0 true _ A2.out).mono ?_); rintro e w' ⟨rfl, ⟨nd, rfl⟩⟩; refine ⟨_, rfl, ?_⟩))
  (try simp only [Act.put, List.setIfInBounds_toArray, List.set_cons_zero, List.set_cons_succ])
  go_cut [19] (fun v19 wc => ∃ (kq : Nat) (x19_3 : Bool), v19 = .bool x19_3 ∧ Aside0 (ephemerisref1_CalendarError.j0 kq x19_3 a0_0 a0_1 a0_2 l0_3 l0_4 = some r) ∧ Aside0 (kq ≤ k) ∧ Aside0 (wc.heap[gb209]? = some (.cells #[.string a0_0, .int .i64 a0_1, .int .i64 a0_2, (.slice A0_3 l0_3.length c0_3), (.slice A0_4 l0_4.length c0_4)] 44 (0, 0))) ∧ Aside0 (Below w.heap.size w wc))
  case first =>
   have H := HC4.out
   clear HC4
   replace H := Option.bind_eq_some_iff.mp H
   obtain ⟨t211, A70, H⟩ := H
   replace H : (if t211 = true then ((ephemerisref1_In.f a0_2 1 3000).bind fun t212 => (ephemerisref1_CalendarError.j0 k (!t212) a0_0 a0_1 a0_2 l0_3 l0_4)) else (ephemerisref1_CalendarError.j0 k true a0_0 a0_1 a0_2 l0_3 l0_4)) = some r := H
   have A7 := Aside0.mk A70
   clear A70
   by_cases c8 : t211 = true
   ·subst c8
    have H1 : ((ephemerisref1_In.f a0_2 1 3000).bind fun t212 => (ephemerisref1_CalendarError.j0 k (!t212) a0_0 a0_1 a0_2 l0_3 l0_4)) = some r := by rw [if_pos rfl] at H; exact H
    clear H
    have H := H1
    clear H1
    replace H := Option.bind_eq_some_iff.mp H
    obtain ⟨t212, A90, H⟩ := H
    replace H : (ephemerisref1_CalendarError.j0 k (!t212) a0_0 a0_1 a0_2 l0_3 l0_4) = some r := H
    have A9 := Aside0.mk A90
    clear A90
    have H' := Aside0.mk H
    clear H
    obtain ⟨hcz10_0, hcz10_1, hcz10_2, hcz10_3, hcz10_4, hfz10_0, hfz10_1, hfz10_2, hfz10_3, hfz10_4⟩ := bc5 BK209
    go_wp2_with (first | ((with_reducible refine gate_callee (f := 30) rfl ?_); refine goesL_ (some 12) rfl rfl Try.func30 kx rfl #[.int .i64 a0_1] rfl aa ?_; (with_reducible refine (ephemerisref1_Day.calls a0_1 true _ A7.out).mono ?_); rintro e w' ⟨rfl, ⟨nd, rfl⟩⟩; refine ⟨_, rfl, ?_⟩) | (go_at_call 21; (with_reducible refine (ephemerisref1_In.calls a0_2 1 3000 t212 _ A9.out).mono ?_); rintro e w' ⟨rfl, ⟨nd, rfl⟩⟩))
    go_meet
    case rel => exact ⟨_, (!t212), rs, H', ⟨by first | omega | exact Nat.le_refl _⟩, ⟨bk BK209⟩, ⟨be⟩⟩
   ·replace c8 := Bool.eq_false_iff.mpr c8
    subst c8
    have H1 : (ephemerisref1_CalendarError.j0 k true a0_0 a0_1 a0_2 l0_3 l0_4) = some r := by rw [if_neg (show ¬ (false = true) by decide)] at H; exact H
    clear H
    have H := H1
    clear H1
    have H' := Aside0.mk H
    clear H
    obtain ⟨hcz11_0, hcz11_1, hcz11_2, hcz11_3, hcz11_4, hfz11_0, hfz11_1, hfz11_2, hfz11_3, hfz11_4⟩ := bc5 BK209
    go_wp2_with (first | ((with_reducible refine gate_callee (f := 30) rfl ?_); refine goesL_ (some 12) rfl rfl Try.func30 kx rfl #[.int .i64 a0_1] rfl aa ?_; (with_reducible refine (ephemerisref1_Day.calls a0_1 false _ A7.out).mono ?_); rintro e w' ⟨rfl, ⟨nd, rfl⟩⟩; refine ⟨_, rfl, ?_⟩))
    go_meet
    case rel => exact ⟨_, (true), rs, H', ⟨by first | omega | exact Nat.le_refl _⟩, ⟨bk BK209⟩, ⟨be⟩⟩
  case rest =>
   clear HC4
   (try clear c2); (try clear p2); (try clear c3); (try clear c8); (try clear hcz10_0); (try clear hcz10_1); (try clear hcz10_2); (try clear hcz10_3); (try clear hcz10_4); (try clear hcz11_0); (try clear hcz11_1); (try clear hcz11_2); (try clear hcz11_3); (try clear hcz11_4); (try clear hcz6_0); (try clear hcz6_1); (try clear hcz6_2); (try clear hcz6_3); (try clear hcz6_4); (try clear hfz10_0); (try clear hfz10_1); (try clear hfz10_2); (try clear hfz10_3); (try clear hfz10_4); (try clear hfz11_0); (try clear hfz11_1); (try clear hfz11_2); (try clear hfz11_3); (try clear hfz11_4); (try clear hfz6_0); (try clear hfz6_1); (try clear hfz6_2); (try clear hfz6_3); (try clear hfz6_4)
   obtain ⟨kq, x19_3, rfl, HA, HJ3, BK209, HB⟩ := hcut
   cases kq with
   | zero => exact absurd HA.out (by simp [ephemerisref1_CalendarError.j0])
   | succ kj3 =>
    have H := HA.out
    clear HA
    simp only [ephemerisref1_CalendarError.j0] at H
    by_cases c12 : x19_3 = true
    ·subst c12
     have H1 : (some 3) = some r := by rw [if_pos rfl] at H; exact H
     clear H
     have H := H1
     clear H1
     obtain rfl := Option.some.inj H
     go_wp2
     go_ret
     exact ⟨by first | rfl | (simp [errW_none, errW_some] <;> rfl) | (simp [*, errW_none, errW_some] <;> rfl), be⟩
    ·replace c12 := Bool.eq_false_iff.mpr c12
     subst c12
     have H1 : ((ephemerisref1_MonthsError.f kj3 l0_3).bind fun t213 => (if t213 = 0 then (ephemerisref1_CalendarError.l0 kj3 l0_4 (l0_4.length : Int) 0 a0_0 a0_1 a0_2 l0_3 l0_4) else (some t213))) = some r := by rw [if_neg (show ¬ (false = true) by decide)] at H; exact H
     clear H
     have H := H1
     clear H1
     replace H := Option.bind_eq_some_iff.mp H
     obtain ⟨t213, A130, H⟩ := H
     replace H : (if t213 = 0 then (ephemerisref1_CalendarError.l0 kj3 l0_4 (l0_4.length : Int) 0 a0_0 a0_1 a0_2 l0_3 l0_4) else (some t213)) = some r := H
     have A13 := Aside0.mk A130
     clear A130
     by_cases c14 : t213 = 0
     ·rw [if_pos c14] at H
      have c14b0 : (t213 == 0) = true := beq_iff_eq.mpr c14
      have c14b1 : (t213 != 0) = false := bne_eq_false_iff_eq.mpr c14
      clear c14
      have H' := Aside0.mk H
      clear H
      obtain ⟨hcz15_0, hcz15_1, hcz15_2, hcz15_3, hcz15_4, hfz15_0, hfz15_1, hfz15_2, hfz15_3, hfz15_4⟩ := bc5 BK209
      go_wp2_with (first | ((with_reducible refine gate_callee (f := 67) rfl ?_); refine goesL_ (some 22) rfl rfl Try.func67 kx rfl #[.slice A0_3 l0_3.length c0_3] rfl aa ?_; (with_reducible refine (ephemerisref1_MonthsError.calls kj3 _ _ l0_3 t213 _ ?side1 ?side2 A13.out).mono ?_); (case side1 => exact kc (Kd.C_below HR0_3.out HB.out)); (case side2 => exact HC0_3.out); rintro e w' ⟨rfl, ⟨nd, rfl⟩⟩; refine ⟨_, rfl, ?_⟩))
      go_loopg [29] kj3 (fun kq v29 w' => ∃ (x29_2 : Int), v29 = .int .i64 x29_2 ∧ Aside0 (ephemerisref1_CalendarError.l0 kq l0_4 (l0_4.length : Int) x29_2 a0_0 a0_1 a0_2 l0_3 l0_4 = some r) ∧ Aside0 (kq ≤ kj3) ∧ Aside0 (w'.heap[gb209]? = some (.cells #[.string a0_0, .int .i64 a0_1, .int .i64 a0_2, (.slice A0_3 l0_3.length c0_3), (.slice A0_4 l0_4.length c0_4)] 44 (0, 0))) ∧ Aside0 (Below w.heap.size w w'))
      case atStart => exact ⟨(0), rs, H', ⟨Nat.le_refl _⟩, ⟨bk BK209⟩, ⟨be⟩⟩
      case round =>
       clear H'
       (try clear c1); (try clear c2); (try clear p2); (try clear c3); (try clear c6); (try clear c8); (try clear c12); (try clear c14); (try clear c14b0); (try clear c14b1); (try clear hcz10_0); (try clear hcz10_1); (try clear hcz10_2); (try clear hcz10_3); (try clear hcz10_4); (try clear hcz11_0); (try clear hcz11_1); (try clear hcz11_2); (try clear hcz11_3); (try clear hcz11_4); (try clear hcz15_0); (try clear hcz15_1); (try clear hcz15_2); (try clear hcz15_3); (try clear hcz15_4); (try clear hcz6_0); (try clear hcz6_1); (try clear hcz6_2); (try clear hcz6_3); (try clear hcz6_4); (try clear hfz10_0); (try clear hfz10_1); (try clear hfz10_2); (try clear hfz10_3); (try clear hfz10_4); (try clear hfz11_0); (try clear hfz11_1); (try clear hfz11_2); (try clear hfz11_3); (try clear hfz11_4); (try clear hfz15_0); (try clear hfz15_1); (try clear hfz15_2); (try clear hfz15_3); (try clear hfz15_4); (try clear hfz6_0); (try clear hfz6_1); (try clear hfz6_2); (try clear hfz6_3); (try clear hfz6_4); (try clear p2)
       obtain ⟨x29_2, rfl, HA, HK2, BK209, HB⟩ := hrel
       cases gk with
       | zero => exact absurd HA.out (by simp [ephemerisref1_CalendarError.l0])
       | succ k2 =>
        have H := HA.out
        clear HA
        simp only [ephemerisref1_CalendarError.l0] at H
        by_cases c16 : x29_2 < (l0_4.length : Int)
        ·rw [if_pos c16] at H
         have c16b0 : decide (x29_2 < (l0_4.length : Int)) = true := decide_eq_true c16
         clear c16
         by_cases c17 : 0 ≤ x29_2
         ·rw [if_pos c17] at H
          have c17b0 : decide (0 ≤ x29_2) = true := decide_eq_true c17
          clear c17
          by_cases c18 : x29_2 < (l0_4.length : Int)
          ·rw [if_pos c18] at H
           have c18b0 : decide (x29_2 < (l0_4.length : Int)) = true := decide_eq_true c18
           clear c18
           replace H := Option.bind_eq_some_iff.mp H
           obtain ⟨t215, A190, H⟩ := H
           replace H : (if t215 = true then (if x29_2 > 0 then (if 0 ≤ (wrap64 (x29_2 - 1)) then (if (wrap64 (x29_2 - 1)) < (l0_4.length : Int) then (if (rd l0_4 (wrap64 (x29_2 - 1))) ≥ (rd l0_4 x29_2) then (some 9) else (ephemerisref1_CalendarError.l0 k2 l0_4 (l0_4.length : Int) (wrap64 (x29_2 + 1)) a0_0 a0_1 a0_2 l0_3 l0_4)) else (none)) else (none)) else (ephemerisref1_CalendarError.l0 k2 l0_4 (l0_4.length : Int) (wrap64 (x29_2 + 1)) a0_0 a0_1 a0_2 l0_3 l0_4)) else (some 3)) = some r := H
           have A19 := Aside0.mk A190
           clear A190
           by_cases c20 : t215 = true
           ·subst c20
            have H1 : (if x29_2 > 0 then (if 0 ≤ (wrap64 (x29_2 - 1)) then (if (wrap64 (x29_2 - 1)) < (l0_4.length : Int) then (if (rd l0_4 (wrap64 (x29_2 - 1))) ≥ (rd l0_4 x29_2) then (some 9) else (ephemerisref1_CalendarError.l0 k2 l0_4 (l0_4.length : Int) (wrap64 (x29_2 + 1)) a0_0 a0_1 a0_2 l0_3 l0_4)) else (none)) else (none)) else (ephemerisref1_CalendarError.l0 k2 l0_4 (l0_4.length : Int) (wrap64 (x29_2 + 1)) a0_0 a0_1 a0_2 l0_3 l0_4)) = some r := by rw [if_pos rfl] at H; exact H
            clear H
            have H := H1
            clear H1
            by_cases c21 : x29_2 > 0
            ·rw [if_pos c21] at H
             have c21b0 : decide (0 < x29_2) = true := decide_eq_true c21
             clear c21
             obtain ⟨ji22, hji22⟩ : ∃ j_ : Int, (wrap64 (x29_2 - 1)) = j_ := ⟨_, rfl⟩
             replace H : (if 0 ≤ (ji22) then (if (ji22) < (l0_4.length : Int) then (if (rd l0_4 (ji22)) ≥ (rd l0_4 x29_2) then (some 9) else (ephemerisref1_CalendarError.l0 k2 l0_4 (l0_4.length : Int) (wrap64 (x29_2 + 1)) a0_0 a0_1 a0_2 l0_3 l0_4)) else (none)) else (none)) = some r := by first | (rw [hji22] at H; exact H) | (simp only [hji22] at H ⊢; exact H)
             (try rw [hji22] at A19)
             have hji22w : (IntKind.i64.wrap (x29_2 - 1)) = ji22 := (i64_w _).trans hji22
             by_cases c23 : 0 ≤ (ji22)
             ·rw [if_pos c23] at H
              have c23b0 : decide (0 ≤ (ji22)) = true := decide_eq_true c23
              clear c23
              by_cases c24 : (ji22) < (l0_4.length : Int)
              ·rw [if_pos c24] at H
               have c24b0 : decide ((ji22) < (l0_4.length : Int)) = true := decide_eq_true c24
               clear c24
               by_cases c25 : (rd l0_4 (ji22)) ≥ (rd l0_4 x29_2)
               ·rw [if_pos c25] at H
                have c25b0 : decide ((rd l0_4 x29_2) ≤ (rd l0_4 (ji22))) = true := decide_eq_true c25
                clear c25
                obtain rfl := Option.some.inj H
                have p214 : 0 ≤ (x29_2 : Int) := of_decide_eq_true ka
                have q214 : x29_2 < (l0_4.length : Int) := of_decide_eq_true ka
                obtain ⟨ad214, e214, hx214_0⟩ := Kd.at_int HR0_4.out x29_2 p214 q214
                cases e214
                replace hx214_0 := (HB.out.cell (World.block_lt_of_cell? w _ hx214_0)).trans hx214_0
                replace p214 := eq_true p214
                replace q214 := eq_true q214
                obtain ⟨hcz26_0, hcz26_1, hcz26_2, hcz26_3, hcz26_4, hfz26_0, hfz26_1, hfz26_2, hfz26_3, hfz26_4⟩ := bc5 BK209
                go_wp2_with (first | ((with_reducible refine gate_callee (f := 21) rfl ?_); refine goesL_ (some 37) rfl rfl Try.func21 kx rfl #[.int .i64 (rd l0_4 x29_2), .int .i64 1, .int .i64 a0_2] rfl aa ?_; (with_reducible refine (ephemerisref1_In.calls (rd l0_4 x29_2) 1 a0_2 true _ A19.out).mono ?_); rintro e w' ⟨rfl, ⟨nd, rfl⟩⟩; refine ⟨_, rfl, ?_⟩; have p216 : 0 ≤ ((ji22) : Int) := of_decide_eq_true ka; have q216 : (ji22) < (l0_4.length : Int) := of_decide_eq_true ka; obtain ⟨ad216, e216, hx216_0⟩ := Kd.at_int HR0_4.out (ji22) p216 q216; obtain rfl : ad214 = ad216 := (by injection e216); replace hx216_0 := (HB.out.cell (World.block_lt_of_cell? w _ hx216_0)).trans hx216_0; replace p216 := eq_true p216; replace q216 := eq_true q216))
                go_ret
                exact ⟨by first | rfl | (simp [errW_none, errW_some] <;> rfl) | (simp only [← hji22]; first | rfl | (simp [errW_none, errW_some] <;> rfl)) | (simp [*, errW_none, errW_some] <;> rfl), be⟩
               ·rw [if_neg c25] at H
                have c25b0 : decide ((rd l0_4 x29_2) ≤ (rd l0_4 (ji22))) = false := decide_eq_false c25
                clear c25
                have H' := Aside0.mk H
                clear H
                have p214 : 0 ≤ (x29_2 : Int) := of_decide_eq_true ka
                have q214 : x29_2 < (l0_4.length : Int) := of_decide_eq_true ka
                obtain ⟨ad214, e214, hx214_0⟩ := Kd.at_int HR0_4.out x29_2 p214 q214
                cases e214
                replace hx214_0 := (HB.out.cell (World.block_lt_of_cell? w _ hx214_0)).trans hx214_0
                replace p214 := eq_true p214
                replace q214 := eq_true q214
                obtain ⟨hcz27_0, hcz27_1, hcz27_2, hcz27_3, hcz27_4, hfz27_0, hfz27_1, hfz27_2, hfz27_3, hfz27_4⟩ := bc5 BK209
                go_wp2_with (first | ((with_reducible refine gate_callee (f := 21) rfl ?_); refine goesL_ (some 37) rfl rfl Try.func21 kx rfl #[.int .i64 (rd l0_4 x29_2), .int .i64 1, .int .i64 a0_2] rfl aa ?_; (with_reducible refine (ephemerisref1_In.calls (rd l0_4 x29_2) 1 a0_2 true _ A19.out).mono ?_); rintro e w' ⟨rfl, ⟨nd, rfl⟩⟩; refine ⟨_, rfl, ?_⟩; have p216 : 0 ≤ ((ji22) : Int) := of_decide_eq_true ka; have q216 : (ji22) < (l0_4.length : Int) := of_decide_eq_true ka; obtain ⟨ad216, e216, hx216_0⟩ := Kd.at_int HR0_4.out (ji22) p216 q216; obtain rfl : ad214 = ad216 := (by injection e216); replace hx216_0 := (HB.out.cell (World.block_lt_of_cell? w _ hx216_0)).trans hx216_0; replace p216 := eq_true p216; replace q216 := eq_true q216))
                go_roundg k2
                case measure => have := HJ3.out; have := HK2.out; omega
                case rel => exact ⟨(wrap64 (x29_2 + 1)), rs, H', ⟨by have := HJ3.out; have := HK2.out; omega⟩, ⟨bk BK209⟩, ⟨be⟩⟩
              ·rw [if_neg c24] at H
               exact absurd H (by simp)
             ·rw [if_neg c23] at H
              exact absurd H (by simp)
            ·rw [if_neg c21] at H
             have c21b0 : decide (0 < x29_2) = false := decide_eq_false c21
             clear c21
             have H' := Aside0.mk H
             clear H
             have p214 : 0 ≤ (x29_2 : Int) := of_decide_eq_true ka
             have q214 : x29_2 < (l0_4.length : Int) := of_decide_eq_true ka
             obtain ⟨ad214, e214, hx214_0⟩ := Kd.at_int HR0_4.out x29_2 p214 q214
             cases e214
             replace hx214_0 := (HB.out.cell (World.block_lt_of_cell? w _ hx214_0)).trans hx214_0
             replace p214 := eq_true p214
             replace q214 := eq_true q214
             obtain ⟨hcz28_0, hcz28_1, hcz28_2, hcz28_3, hcz28_4, hfz28_0, hfz28_1, hfz28_2, hfz28_3, hfz28_4⟩ := bc5 BK209
             go_wp2_with (first | ((with_reducible refine gate_callee (f := 21) rfl ?_); refine goesL_ (some 37) rfl rfl Try.func21 kx rfl #[.int .i64 (rd l0_4 x29_2), .int .i64 1, .int .i64 a0_2] rfl aa ?_; (with_reducible refine (ephemerisref1_In.calls (rd l0_4 x29_2) 1 a0_2 true _ A19.out).mono ?_); rintro e w' ⟨rfl, ⟨nd, rfl⟩⟩; refine ⟨_, rfl, ?_⟩))
             go_roundg k2
             case measure => have := HJ3.out; have := HK2.out; omega
             case rel => exact ⟨(wrap64 (x29_2 + 1)), rs, H', ⟨by have := HJ3.out; have := HK2.out; omega⟩, ⟨bk BK209⟩, ⟨be⟩⟩
           ·replace c20 := Bool.eq_false_iff.mpr c20
            subst c20
            have H1 : (some 3) = some r := by rw [if_neg (show ¬ (false = true) by decide)] at H; exact H
            clear H
            have H := H1
            clear H1
            obtain rfl := Option.some.inj H
            have p214 : 0 ≤ (x29_2 : Int) := of_decide_eq_true ka
            have q214 : x29_2 < (l0_4.length : Int) := of_decide_eq_true ka
            obtain ⟨ad214, e214, hx214_0⟩ := Kd.at_int HR0_4.out x29_2 p214 q214
            cases e214
            replace hx214_0 := (HB.out.cell (World.block_lt_of_cell? w _ hx214_0)).trans hx214_0
            replace p214 := eq_true p214
            replace q214 := eq_true q214
            obtain ⟨hcz29_0, hcz29_1, hcz29_2, hcz29_3, hcz29_4, hfz29_0, hfz29_1, hfz29_2, hfz29_3, hfz29_4⟩ := bc5 BK209
            go_wp2_with (first | ((with_reducible refine gate_callee (f := 21) rfl ?_); refine goesL_ (some 37) rfl rfl Try.func21 kx rfl #[.int .i64 (rd l0_4 x29_2), .int .i64 1, .int .i64 a0_2] rfl aa ?_; (with_reducible refine (ephemerisref1_In.calls (rd l0_4 x29_2) 1 a0_2 false _ A19.out).mono ?_); rintro e w' ⟨rfl, ⟨nd, rfl⟩⟩; refine ⟨_, rfl, ?_⟩))
            go_ret
            exact ⟨by first | rfl | (simp [errW_none, errW_some] <;> rfl) | (simp [*, errW_none, errW_some] <;> rfl), be⟩
          ·rw [if_neg c18] at H
           exact absurd H (by simp)
         ·rw [if_neg c17] at H
          exact absurd H (by simp)
        ·rw [if_neg c16] at H
         have c16b0 : decide (x29_2 < (l0_4.length : Int)) = false := decide_eq_false c16
         clear c16
         obtain rfl := Option.some.inj H
         go_wp2
         go_ret
         exact ⟨by first | rfl | (simp [errW_none, errW_some] <;> rfl) | (simp [*, errW_none, errW_some] <;> rfl), be⟩
     ·rw [if_neg c14] at H
      have c14b0 : (t213 == 0) = false := beq_eq_false_iff_ne.mpr c14
      have c14b1 : (t213 != 0) = true := bne_iff_ne.mpr c14
      obtain rfl := Option.some.inj H
      obtain ⟨hcz30_0, hcz30_1, hcz30_2, hcz30_3, hcz30_4, hfz30_0, hfz30_1, hfz30_2, hfz30_3, hfz30_4⟩ := bc5 BK209
      go_wp2_with (first | ((with_reducible refine gate_callee (f := 67) rfl ?_); refine goesL_ (some 22) rfl rfl Try.func67 kx rfl #[.slice A0_3 l0_3.length c0_3] rfl aa ?_; (with_reducible refine (ephemerisref1_MonthsError.calls kj3 _ _ l0_3 t213 _ ?side1 ?side2 A13.out).mono ?_); (case side1 => exact kc (Kd.C_below HR0_3.out HB.out)); (case side2 => exact HC0_3.out); rintro e w' ⟨rfl, ⟨nd, rfl⟩⟩; refine ⟨_, rfl, ?_⟩))
      go_ret
      exact ⟨by first | rfl | (simp [errW_none, errW_some] <;> rfl) | (simp [*, errW_none, errW_some] <;> rfl), be⟩
 ·replace c3 := Bool.eq_false_iff.mpr c3
  subst c3
  have H1 : (some 5) = some r := by rw [if_neg (show ¬ (false = true) by decide)] at H; exact H
  clear H
  have H := H1
  clear H1
  obtain rfl := Option.some.inj H
  go_enter Try.func22, Try.ntmps22
  go_wp2_with (first | ((with_reducible refine gate_dst (N := 1) rfl ?_); refine box_event ?hg (N := 1) ?hd (cs := #[.string a0_0, .int .i64 a0_1, .int .i64 a0_2, .slice A0_3 l0_3.length c0_3, .slice A0_4 l0_4.length c0_4]) (t := 44) ?hr ?_; (case hd => rfl); (case hg => rfl); (case hr => first | (go_simp; done) | (go_simp; rfl)); intro gb209 hg w31 hbox hb; have n0_ := Aside0.mk (below_step be hb); have n1_ := Aside0.mk (hbox); have n2_ := gs hg HB; have n3_ := n2_; clear HB; have HB := n0_; have BK209 := n1_; have GW209 := n2_; have GE209 := n3_; clear n0_ n1_ n2_ n3_; clear hb hbox hg; obtain ⟨hcz32_0, hcz32_1, hcz32_2, hcz32_3, hcz32_4, hfz32_0, hfz32_1, hfz32_2, hfz32_3, hfz32_4⟩ := bc5 BK209) | ((with_reducible refine gate_callee (f := 36) rfl ?_); refine goesL_ (some 8) rfl rfl Try.func36 kx rfl #[.string a0_0] rfl aa ?_; (with_reducible refine (ephemerisref1_Name.calls k a0_0 false _ A2.out).mono ?_); rintro e w' ⟨rfl, ⟨nd, rfl⟩⟩; refine ⟨_, rfl, ?_⟩))
  go_ret
  exact ⟨by first | rfl | (simp [errW_none, errW_some] <;> rfl) | (simp [*, errW_none, errW_some] <;> rfl), be⟩

/-! ### ephemerisref1_yes: function 68 -/
def ephemerisref1_yes.f (a0 : Bool) : Option (Int) := if a0 = true then (some 1) else (some 0)
set_option maxHeartbeats 8000000 in
set_option maxRecDepth 100000 in
theorem ephemerisref1_yes.calls (a0 : Bool) (r : Int) (w : World) (h : ephemerisref1_yes.f a0 = some r) :
  Calls Try.prog 68 #[.bool a0] w fun e w' => e = .returned (.int .i64 r) ∧ Drawn0 w w' := by
 have H : (if a0 = true then (some 1) else (some 0)) = some r := h
 clear h
 by_cases c2 : a0 = true
 ·subst c2
  have H1 : (some 1) = some r := by rw [if_pos rfl] at H; exact H
  clear H
  have H := H1
  clear H1
  obtain rfl := Option.some.inj H
  go_enter Try.func68, Try.ntmps68
  go_wp2
  go_ret
  exact ⟨by first | rfl | (simp; done) | (simp [*]; done), by repeat (first | exact Drawn0.refl _ | apply Drawn0.step)⟩
 ·replace c2 := Bool.eq_false_iff.mpr c2
  subst c2
  have H1 : (some 0) = some r := by rw [if_neg (show ¬ (false = true) by decide)] at H; exact H
  clear H
  have H := H1
  clear H1
  obtain rfl := Option.some.inj H
  go_enter Try.func68, Try.ntmps68
  go_wp2
  go_ret
  exact ⟨by first | rfl | (simp; done) | (simp [*]; done), by repeat (first | exact Drawn0.refl _ | apply Drawn0.step)⟩

end Go.Proofs.Ytlfammlboncmeaa.PArithLaters
