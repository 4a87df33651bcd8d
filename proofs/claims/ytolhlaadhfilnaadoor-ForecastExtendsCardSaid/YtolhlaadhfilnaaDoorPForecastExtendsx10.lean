/- The walks of the functions of this part. The proof of forecast_Extend (in part) is written by hand; the other ones are as the kit's print tells them. -/
-- The walks of the law's functions, told by a program.
import Derived.Test.YtolhlaadhfilnaaDoorY
import Derived.Test.YtolhlaadhfilnaaDoorPForecastExtendsx0
import Derived.Test.YtolhlaadhfilnaaDoorPForecastExtendsx5
import Derived.Test.YtolhlaadhfilnaaDoorPForecastExtendsx6
import Derived.Test.YtolhlaadhfilnaaDoorPForecastExtendsx9
namespace Go.Proofs.YtolhlaadhfilnaaDoor.PForecastExtends
open Go.RowKit Go.Proofs.YtolhlaadhfilnaaDoorW.PrintWords Go.Proofs.YtolhlaadhfilnaaDoorW.PrintLast Go.Proofs.YtolhlaadhfilnaaDoorW.PrintMore Go.Proofs.YtolhlaadhfilnaaDoor.Y
attribute [local go_sem] max2_int min2_int max_two min_two max_three min_three max_four min_four   -- for this text's walks alone
set_option linter.unusedVariables false
set_option linter.unusedSimpArgs false

/-! ### forecast_Extend: function 18 -/
mutual
def forecast_Extend.j0 : Nat → List (S92) → Int → Int → Bool → ByteArray → Int → List (S43) → Option (ByteArray × Int × (List (S43)) × Int)
 | 0, _, _, _, _, _, _, _ => none
 | k + 1, x1, x2, x3, x45, x198000, x198001, x198002 => if x45 = true then (some ((⟨#[]⟩ : ByteArray), 0, ([] : List (S43)), 3)) else (if (wrap64 (x3 - x2)) > 50 then (some ((⟨#[]⟩ : ByteArray), 0, ([] : List (S43)), 2)) else ((api_ZoneChange.f x198002).bind fun t201 => (if (x198002.length : Int) > 0 then (if 0 ≤ (wrap64 ((x198002.length : Int) - 1)) then (if (wrap64 ((x198002.length : Int) - 1)) < (x198002.length : Int) then (forecast_Extend.j1 k x1 x2 x3 ((rd_T43 x198002 (wrap64 ((x198002.length : Int) - 1))).f1) x198000 x198001 t201) else (none)) else (none)) else (forecast_Extend.j1 k x1 x2 x3 x198001 x198000 x198001 t201))))
def forecast_Extend.j1 : Nat → List (S92) → Int → Int → Int → ByteArray → Int → List (S43) → Option (ByteArray × Int × (List (S43)) × Int)
 | 0, _, _, _, _, _, _, _ => none
 | k + 1, x1, x2, x3, x13, x205000, x205001, x205002 => forecast_Extend.l0 k x1 x3 x13 x2 x205000 x205001 x205002
def forecast_Extend.l0 : Nat → List (S92) → Int → Int → Int → ByteArray → Int → List (S43) → Option (ByteArray × Int × (List (S43)) × Int)
 | 0, _, _, _, _, _, _, _ => none
 | k + 1, x1, x3, x13, x15, x205000, x205001, x205002 => if x15 ≤ x3 then ((forecast_Year.f k x1 x13 x15).bind fun bt206 => (if bt206.2 = 0 then (if x205002.length + bt206.1.length < 4398046511104 then (if 0 ≤ (wrap64 ((bt206.1.length : Int) - 1)) then (if (wrap64 ((bt206.1.length : Int) - 1)) < (bt206.1.length : Int) then (forecast_Extend.l0 k x1 x3 ((rd_T43 bt206.1 (wrap64 ((bt206.1.length : Int) - 1))).f1) (wrap64 (x15 + 1)) x205000 x205001 (x205002 ++ bt206.1)) else (none)) else (none)) else (none)) else (some ((⟨#[]⟩ : ByteArray), 0, ([] : List (S43)), bt206.2)))) else ((zone_Check.f k x205000 x205001 x205002).bind fun t214 => (if t214 = 0 then (some (x205000, x205001, x205002, 0)) else (some ((⟨#[]⟩ : ByteArray), 0, ([] : List (S43)), t214))))
end
def forecast_Extend.f (k : Nat) (a0_0 : ByteArray) (a0_1 : Int) (l0_2 : List (S43)) (l1 : List (S92)) (a2 : Int) (a3 : Int) : Option (ByteArray × Int × (List (S43)) × Int) := (forecast_Check.f k l1).bind fun t199 => (if t199 = 0 then ((zone_Check.f k a0_0 a0_1 l0_2).bind fun t200 => (if t200 = 0 then (if a2 < (-10000) then (forecast_Extend.j0 k l1 a2 a3 true a0_0 a0_1 l0_2) else (if a2 > 10000 then (forecast_Extend.j0 k l1 a2 a3 true a0_0 a0_1 l0_2) else (if a3 < a2 then (forecast_Extend.j0 k l1 a2 a3 true a0_0 a0_1 l0_2) else (forecast_Extend.j0 k l1 a2 a3 (decide (a3 > 10000)) a0_0 a0_1 l0_2)))) else (some ((⟨#[]⟩ : ByteArray), 0, ([] : List (S43)), t200)))) else (some ((⟨#[]⟩ : ByteArray), 0, ([] : List (S43)), t199)))
theorem forecast_Extend.mono_l : ∀ k, (∀ y0 y1 y2 y3 y4 y5 y6, LeO (forecast_Extend.j0 k y0 y1 y2 y3 y4 y5 y6) (forecast_Extend.j0 (k + 1) y0 y1 y2 y3 y4 y5 y6)) ∧ (∀ y0 y1 y2 y3 y4 y5 y6, LeO (forecast_Extend.j1 k y0 y1 y2 y3 y4 y5 y6) (forecast_Extend.j1 (k + 1) y0 y1 y2 y3 y4 y5 y6)) ∧ (∀ y0 y1 y2 y3 y4 y5 y6, LeO (forecast_Extend.l0 k y0 y1 y2 y3 y4 y5 y6) (forecast_Extend.l0 (k + 1) y0 y1 y2 y3 y4 y5 y6))
 | 0 => ⟨fun _ _ _ _ _ _ _ r h => by simp [forecast_Extend.j0] at h, fun _ _ _ _ _ _ _ r h => by simp [forecast_Extend.j1] at h, fun _ _ _ _ _ _ _ r h => by simp [forecast_Extend.l0] at h⟩
 | k + 1 => by
  obtain ⟨ih0, ih1, ih2⟩ := forecast_Extend.mono_l k
  refine ⟨?_, ?_, ?_⟩
  ·intro y0 y1 y2 y3 y4 y5 y6
   unfold forecast_Extend.j0
   repeat' first
   | (with_reducible exact ih0 _ _ _ _ _ _ _)
   | (with_reducible exact ih1 _ _ _ _ _ _ _)
   | (with_reducible exact ih2 _ _ _ _ _ _ _)
   | (with_reducible exact forecast_Check.mono _ _)
   | (with_reducible exact forecast_Year.mono _ _ _ _)
   | (with_reducible exact zone_Check.mono _ _ _ _)
   | (with_reducible exact LeO.refl _)
   | (with_reducible exact LeO.none _)
   | (with_reducible refine LeO.ite ?_ ?_)
   | (with_reducible refine LeO.bind ?_ (fun _ => ?_))
   | exact ih0 _ _ _ _ _ _ _
   | exact ih1 _ _ _ _ _ _ _
   | exact ih2 _ _ _ _ _ _ _
   | exact forecast_Check.mono _ _
   | exact forecast_Year.mono _ _ _ _
   | exact zone_Check.mono _ _ _ _
   | exact LeO.none _
   | refine LeO.ite ?_ ?_
   | refine LeO.bind ?_ (fun _ => ?_)
  ·intro y0 y1 y2 y3 y4 y5 y6
   unfold forecast_Extend.j1
   repeat' first
   | (with_reducible exact ih0 _ _ _ _ _ _ _)
   | (with_reducible exact ih1 _ _ _ _ _ _ _)
   | (with_reducible exact ih2 _ _ _ _ _ _ _)
   | (with_reducible exact forecast_Check.mono _ _)
   | (with_reducible exact forecast_Year.mono _ _ _ _)
   | (with_reducible exact zone_Check.mono _ _ _ _)
   | (with_reducible exact LeO.refl _)
   | (with_reducible exact LeO.none _)
   | (with_reducible refine LeO.ite ?_ ?_)
   | (with_reducible refine LeO.bind ?_ (fun _ => ?_))
   | exact ih0 _ _ _ _ _ _ _
   | exact ih1 _ _ _ _ _ _ _
   | exact ih2 _ _ _ _ _ _ _
   | exact forecast_Check.mono _ _
   | exact forecast_Year.mono _ _ _ _
   | exact zone_Check.mono _ _ _ _
   | exact LeO.none _
   | refine LeO.ite ?_ ?_
   | refine LeO.bind ?_ (fun _ => ?_)
  ·intro y0 y1 y2 y3 y4 y5 y6
   unfold forecast_Extend.l0
   repeat' first
   | (with_reducible exact ih0 _ _ _ _ _ _ _)
   | (with_reducible exact ih1 _ _ _ _ _ _ _)
   | (with_reducible exact ih2 _ _ _ _ _ _ _)
   | (with_reducible exact forecast_Check.mono _ _)
   | (with_reducible exact forecast_Year.mono _ _ _ _)
   | (with_reducible exact zone_Check.mono _ _ _ _)
   | (with_reducible exact LeO.refl _)
   | (with_reducible exact LeO.none _)
   | (with_reducible refine LeO.ite ?_ ?_)
   | (with_reducible refine LeO.bind ?_ (fun _ => ?_))
   | exact ih0 _ _ _ _ _ _ _
   | exact ih1 _ _ _ _ _ _ _
   | exact ih2 _ _ _ _ _ _ _
   | exact forecast_Check.mono _ _
   | exact forecast_Year.mono _ _ _ _
   | exact zone_Check.mono _ _ _ _
   | exact LeO.none _
   | refine LeO.ite ?_ ?_
   | refine LeO.bind ?_ (fun _ => ?_)
theorem forecast_Extend.mono : ∀ a0 a1 a2 a3 a4 a5 k, LeO (forecast_Extend.f k a0 a1 a2 a3 a4 a5) (forecast_Extend.f (k + 1) a0 a1 a2 a3 a4 a5) := by
 intro a0 a1 a2 a3 a4 a5 k
 obtain ⟨ih0, ih1, ih2⟩ := forecast_Extend.mono_l k
 unfold forecast_Extend.f
 repeat' first
   | (with_reducible exact ih0 _ _ _ _ _ _ _)
   | (with_reducible exact ih1 _ _ _ _ _ _ _)
   | (with_reducible exact ih2 _ _ _ _ _ _ _)
   | (with_reducible exact forecast_Check.mono _ _)
   | (with_reducible exact forecast_Year.mono _ _ _ _)
   | (with_reducible exact zone_Check.mono _ _ _ _)
   | (with_reducible exact LeO.refl _)
   | (with_reducible exact LeO.none _)
   | (with_reducible refine LeO.ite ?_ ?_)
   | (with_reducible refine LeO.bind ?_ (fun _ => ?_))
   | exact ih0 _ _ _ _ _ _ _
   | exact ih1 _ _ _ _ _ _ _
   | exact ih2 _ _ _ _ _ _ _
   | exact forecast_Check.mono _ _
   | exact forecast_Year.mono _ _ _ _
   | exact zone_Check.mono _ _ _ _
   | exact LeO.none _
   | refine LeO.ite ?_ ?_
   | refine LeO.bind ?_ (fun _ => ?_)
def forecast_Extend.T11 : Bool × List (List Nat × List Nat) := (true, [([], []), ([0], [0]), ([], []), ([2], [2]), ([], []), ([4], [4]), ([5], [5]), ([1, 3, 6], [1, 3, 6]), ([], []), ([8, 7, 6, 0, 1, 2, 3, 4, 5, 6, 7, 8], [7, 8])])
def forecast_Extend.B11 : List Nat := [0, 1, 0, 4, 0, 16, 48, 127, 0, 511]
theorem forecast_Extend.tab11 : rtab .any (opsOf Tryd.f18 11) = forecast_Extend.T11 := by kernel_rfl
theorem forecast_Extend.bits11 : waitsOk forecast_Extend.T11.2 forecast_Extend.B11 = true := by kernel_rfl
set_option maxHeartbeats 8000000 in
set_option maxRecDepth 100000 in
theorem forecast_Extend.calls (k : Nat) (a0_0 : ByteArray) (a0_1 : Int) (A0_2 : Option Addr) (c0_2 : Nat) (l0_2 : List (S43)) (A1 : Option Addr) (c1 : Nat) (l1 : List (S92)) (a2 : Int) (a3 : Int) (r1 : ByteArray) (r2 : Int) (r3 : List (S43)) (r4 : Int) (w : World) (hr0_2 : Kd.C k43 w A0_2 l0_2.length l0_2) (hc0_2 : l0_2.length ≤ c0_2) (hr1 : Kd.C k92 w A1 l1.length l1) (hc1 : l1.length ≤ c1) (h : forecast_Extend.f k a0_0 a0_1 l0_2 l1 a2 a3 = some (r1, r2, r3, r4)) :
  Calls Tryd.prog 18 #[.agg #[.string a0_0, .int .i64 a0_1, .slice A0_2 l0_2.length c0_2], .slice A1 l1.length c1, .int .i64 a2, .int .i64 a3] w fun e w' => ∃ v2_ : Value, e = .returned (.tuple #[.agg #[.string r1, .int .i64 r2, v2_], .int .i64 r4]) ∧ Kd.R k43 43 w' w.heap.size (fun _ => True) v2_ r3 ∧ Below w.heap.size w w' := by
 have hu24 := Tryd.underlying24
 have HR0_2 := Aside0.mk hr0_2
 have HC0_2 := Aside0.mk hc0_2
 clear hr0_2 hc0_2
 have HR1 := Aside0.mk hr1
 have HC1 := Aside0.mk hc1
 clear hr1 hc1
 have HB := Aside0.mk (Below.refl w.heap.size w)
 have H : ((forecast_Check.f k l1).bind fun t199 => (if t199 = 0 then ((zone_Check.f k a0_0 a0_1 l0_2).bind fun t200 => (if t200 = 0 then (if a2 < (-10000) then (forecast_Extend.j0 k l1 a2 a3 true a0_0 a0_1 l0_2) else (if a2 > 10000 then (forecast_Extend.j0 k l1 a2 a3 true a0_0 a0_1 l0_2) else (if a3 < a2 then (forecast_Extend.j0 k l1 a2 a3 true a0_0 a0_1 l0_2) else (forecast_Extend.j0 k l1 a2 a3 (decide (a3 > 10000)) a0_0 a0_1 l0_2)))) else (some ((⟨#[]⟩ : ByteArray), 0, ([] : List (S43)), t200)))) else (some ((⟨#[]⟩ : ByteArray), 0, ([] : List (S43)), t199)))) = some (r1, r2, r3, r4) := h
 clear h
 replace H := Option.bind_eq_some_iff.mp H
 obtain ⟨t199, A50, H⟩ := H
 replace H : (if t199 = 0 then ((zone_Check.f k a0_0 a0_1 l0_2).bind fun t200 => (if t200 = 0 then (if a2 < (-10000) then (forecast_Extend.j0 k l1 a2 a3 true a0_0 a0_1 l0_2) else (if a2 > 10000 then (forecast_Extend.j0 k l1 a2 a3 true a0_0 a0_1 l0_2) else (if a3 < a2 then (forecast_Extend.j0 k l1 a2 a3 true a0_0 a0_1 l0_2) else (forecast_Extend.j0 k l1 a2 a3 (decide (a3 > 10000)) a0_0 a0_1 l0_2)))) else (some ((⟨#[]⟩ : ByteArray), 0, ([] : List (S43)), t200)))) else (some ((⟨#[]⟩ : ByteArray), 0, ([] : List (S43)), t199))) = some (r1, r2, r3, r4) := H
 have A5 := Aside0.mk A50
 clear A50
 by_cases c6 : t199 = 0
 ·rw [if_pos c6] at H
  have c6b0 : (t199 == 0) = true := beq_iff_eq.mpr c6
  have c6b1 : (t199 != 0) = false := bne_eq_false_iff_eq.mpr c6
  clear c6
  replace H := Option.bind_eq_some_iff.mp H
  obtain ⟨t200, A70, H⟩ := H
  replace H : (if t200 = 0 then (if a2 < (-10000) then (forecast_Extend.j0 k l1 a2 a3 true a0_0 a0_1 l0_2) else (if a2 > 10000 then (forecast_Extend.j0 k l1 a2 a3 true a0_0 a0_1 l0_2) else (if a3 < a2 then (forecast_Extend.j0 k l1 a2 a3 true a0_0 a0_1 l0_2) else (forecast_Extend.j0 k l1 a2 a3 (decide (a3 > 10000)) a0_0 a0_1 l0_2)))) else (some ((⟨#[]⟩ : ByteArray), 0, ([] : List (S43)), t200))) = some (r1, r2, r3, r4) := H
  have A7 := Aside0.mk A70
  clear A70
  by_cases c8 : t200 = 0
  ·rw [if_pos c8] at H
   have c8b0 : (t200 == 0) = true := beq_iff_eq.mpr c8
   have c8b1 : (t200 != 0) = false := bne_eq_false_iff_eq.mpr c8
   clear c8
   have HC9 := Aside0.mk H
   clear H
   go_enter Tryd.func18, Tryd.ntmps18
   go_upto_region 7 with (first | ((with_reducible refine gate_dst (N := 4) rfl ?_); refine box_event ?hg (N := 4) ?hd (cs := #[.string a0_0, .int .i64 a0_1, .slice A0_2 l0_2.length c0_2]) (t := 24) ?hr ?_; (case hd => rfl); (case hg => rfl); (case hr => first | (go_simp; done) | (go_simp; rfl)); intro gb197 hg w10 hbox hb; have n0_ := Aside0.mk (below_step be hb); have n1_ := Aside0.mk (hbox); have n2_ := gs hg HB; have n3_ := n2_; clear HB; have HB := n0_; have BK197 := n1_; have GW197 := n2_; have GE197 := n3_; clear n0_ n1_ n2_ n3_; clear hb hbox hg) | ((with_reducible refine gate_dst (N := 8) rfl ?_); refine box_event ?hg (N := 8) ?hd (cs := #[.string (⟨#[]⟩ : ByteArray), .int .i64 0, .slice none 0 0]) (t := 24) ?hr ?_; (case hd => rfl); (case hg => rfl); (case hr => first | (go_simp; done) | (go_simp; rfl)); intro gb198 hg w11 hbox hb; have n0_ := bb BK197 hb; have n1_ := Aside0.mk (below_step be hb); have n2_ := Aside0.mk (hbox); have n3_ := gs hg HB; have n4_ := n3_; have n5_ := nl BK197 hg; have n6_ := ns n5_; clear BK197; clear HB; have BK197 := n0_; have HB := n1_; have BK198 := n2_; have GW198 := n3_; have GE198 := n4_; have NB197_198 := n5_; have NB198_197 := n6_; clear n0_ n1_ n2_ n3_ n4_ n5_ n6_; clear hb hbox hg) | ((with_reducible refine gate_callee (f := 47) rfl ?_); refine goesL_ (some 20) rfl rfl Tryd.func47 kx rfl #[.slice A1 l1.length c1] rfl aa ?_; (with_reducible refine (forecast_Check.calls k _ _ l1 t199 _ ?side1 ?side2 A5.out).mono ?_); (case side1 => exact kc (Kd.C_below HR1.out HB.out)); (case side2 => exact HC1.out); rintro e w12 ⟨rfl, hb⟩; refine ⟨_, rfl, ?_⟩; have n0_ := bb BK197 hb; have n1_ := bb BK198 hb; have n2_ := Aside0.mk (below_step be hb); clear BK197; clear BK198; clear HB; have BK197 := n0_; have BK198 := n1_; have HB := n2_; clear n0_ n1_ n2_; (try clear hb); (try clear hb2); (try clear hk); (try clear hi); have hnb13 := NB197_198.out; have hnc13 := NB198_197.out; obtain ⟨hcz14_0, hcz14_1, hcz14_2, hfz14_0, hfz14_1, hfz14_2⟩ := bc3 BK197) | ((with_reducible refine gate_callee (f := 40) rfl ?_); refine goesL_ (some 26) rfl rfl Tryd.func40 kx rfl #[.agg #[.string a0_0, .int .i64 a0_1, .slice A0_2 l0_2.length c0_2]] rfl aa ?_; (with_reducible refine (zone_Check.calls k a0_0 a0_1 _ _ l0_2 t200 _ ?side1 ?side2 A7.out).mono ?_); (case side1 => exact kc (Kd.C_below HR0_2.out HB.out)); (case side2 => exact HC0_2.out); rintro e w15 ⟨rfl, hb⟩; refine ⟨_, rfl, ?_⟩; have n0_ := bb BK197 hb; have n1_ := bb BK198 hb; have n2_ := Aside0.mk (below_step be hb); clear BK197; clear BK198; clear HB; have BK197 := n0_; have BK198 := n1_; have HB := n2_; clear n0_ n1_ n2_; (try clear hb); (try clear hb2); (try clear hk); (try clear hi)))
   (try simp only [Act.put, List.setIfInBounds_toArray, List.set_cons_zero, List.set_cons_succ])
   go_cut [45] (fun v45 wc => ∃ (kq : Nat) (x45_8 : Bool), v45 = .bool x45_8 ∧ Aside0 (forecast_Extend.j0 kq l1 a2 a3 x45_8 a0_0 a0_1 l0_2 = some (r1, r2, r3, r4)) ∧ Aside0 (kq ≤ k) ∧ Aside0 (wc.heap[gb197]? = some (.cells #[.string a0_0, .int .i64 a0_1, (.slice A0_2 l0_2.length c0_2)] 24 (0, 0))) ∧ Aside0 (wc.heap[gb198]? = some (.cells #[.string (⟨#[]⟩ : ByteArray), .int .i64 0, (.slice none 0 0)] 24 (0, 0))) ∧ Aside0 (Below w.heap.size w wc))
   case first =>
    have H := HC9.out
    clear HC9
    by_cases c16 : a2 < (-10000)
    ·rw [if_pos c16] at H
     have c16b0 : decide (a2 < (-10000)) = true := decide_eq_true c16
     clear c16
     (first | rw [c16b0] | (simp only [i64_w, i32_w]; rw [c16b0]) | skip)
     have H' := Aside0.mk H
     clear H
     go_wp2
     go_meet
     case rel => exact ⟨_, (true), rs, H', ⟨by first | omega | exact Nat.le_refl _⟩, ⟨bk BK197⟩, ⟨bk BK198⟩, ⟨be⟩⟩
    ·rw [if_neg c16] at H
     have c16b0 : decide (a2 < (-10000)) = false := decide_eq_false c16
     clear c16
     (first | rw [c16b0] | (simp only [i64_w, i32_w]; rw [c16b0]) | skip)
     by_cases c17 : a2 > 10000
     ·rw [if_pos c17] at H
      have c17b0 : decide (10000 < a2) = true := decide_eq_true c17
      clear c17
      have H' := Aside0.mk H
      clear H
      go_wp2
      go_meet
      case rel => exact ⟨_, (true), rs, H', ⟨by first | omega | exact Nat.le_refl _⟩, ⟨bk BK197⟩, ⟨bk BK198⟩, ⟨be⟩⟩
     ·rw [if_neg c17] at H
      have c17b0 : decide (10000 < a2) = false := decide_eq_false c17
      clear c17
      by_cases c18 : a3 < a2
      ·rw [if_pos c18] at H
       have c18b0 : decide (a3 < a2) = true := decide_eq_true c18
       clear c18
       have H' := Aside0.mk H
       clear H
       go_wp2
       go_meet
       case rel => exact ⟨_, (true), rs, H', ⟨by first | omega | exact Nat.le_refl _⟩, ⟨bk BK197⟩, ⟨bk BK198⟩, ⟨be⟩⟩
      ·rw [if_neg c18] at H
       have c18b0 : decide (a3 < a2) = false := decide_eq_false c18
       clear c18
       have H' := Aside0.mk H
       clear H
       go_wp2
       go_meet
       case rel => exact ⟨_, (decide (a3 > 10000)), rs, H', ⟨by first | omega | exact Nat.le_refl _⟩, ⟨bk BK197⟩, ⟨bk BK198⟩, ⟨be⟩⟩
   case rest =>
    clear HC9
    (try clear c1); (try clear p2); (try clear c4); (try clear c6); (try clear c6b0); (try clear c6b1); (try clear c8); (try clear c8b0); (try clear c8b1); (try clear c13); (try clear c16); (try clear c16b0); (try clear c17); (try clear c17b0); (try clear c18); (try clear c18b0); (try clear hcz14_0); (try clear hcz14_1); (try clear hcz14_2); (try clear hfz14_0); (try clear hfz14_1); (try clear hfz14_2)
    obtain ⟨kq, x45_8, rfl, HA, HJ8, BK197, BK198, HB⟩ := hcut
    cases kq with
    | zero => exact absurd HA.out (by simp [forecast_Extend.j0])
    | succ kj8 =>
     have H := HA.out
     clear HA
     simp only [forecast_Extend.j0] at H
     by_cases c19 : x45_8 = true
     ·subst c19
      have H1 : (some ((⟨#[]⟩ : ByteArray), 0, ([] : List (S43)), 3)) = some (r1, r2, r3, r4) := by rw [if_pos rfl] at H; exact H
      clear H
      have H := H1
      clear H1
      simp only [Option.some.injEq, Prod.mk.injEq] at H
      obtain ⟨rfl, rfl, rfl, rfl⟩ := H
      have hnb20 := NB198_197.out
      have hnc20 := NB197_198.out
      obtain ⟨hcz21_0, hcz21_1, hcz21_2, hfz21_0, hfz21_1, hfz21_2⟩ := bc3 BK198
      go_wp2
      refine bodyPost_ret (results_ct rfl _ _ gb198 24 #[.string (⟨#[]⟩ : ByteArray), .int .i64 0, .slice none 0 0] (0, 0) _ rfl (bk BK198) Tryd.underlying24 rfl kx) rfl ?_
      exact ⟨_, by first | rfl | (simp [errW_none, errW_some] <;> rfl) | (simp [*, errW_none, errW_some] <;> rfl), by first | exact Kd.R_nil _ _ _ _ _ | exact Kd.N_nil _ _ _ _ _ | exact Kd.V_nil _ _ _ _ _ | exact Kd.Q_nil _ _ _ _ _ | exact Kd.S_nil _ _ _ _ _, be⟩
     ·replace c19 := Bool.eq_false_iff.mpr c19
      subst c19
      have H1 : (if (wrap64 (a3 - a2)) > 50 then (some ((⟨#[]⟩ : ByteArray), 0, ([] : List (S43)), 2)) else ((api_ZoneChange.f l0_2).bind fun t201 => (if (l0_2.length : Int) > 0 then (if 0 ≤ (wrap64 ((l0_2.length : Int) - 1)) then (if (wrap64 ((l0_2.length : Int) - 1)) < (l0_2.length : Int) then (forecast_Extend.j1 kj8 l1 a2 a3 ((rd_T43 l0_2 (wrap64 ((l0_2.length : Int) - 1))).f1) a0_0 a0_1 t201) else (none)) else (none)) else (forecast_Extend.j1 kj8 l1 a2 a3 a0_1 a0_0 a0_1 t201)))) = some (r1, r2, r3, r4) := by rw [if_neg (show ¬ (false = true) by decide)] at H; exact H
      clear H
      have H := H1
      clear H1
      by_cases c22 : (wrap64 (a3 - a2)) > 50
      ·rw [if_pos c22] at H
       have c22b0 : decide (50 < (wrap64 (a3 - a2))) = true := decide_eq_true c22
       clear c22
       simp only [Option.some.injEq, Prod.mk.injEq] at H
       obtain ⟨rfl, rfl, rfl, rfl⟩ := H
       have hnb23 := NB198_197.out
       have hnc23 := NB197_198.out
       obtain ⟨hcz24_0, hcz24_1, hcz24_2, hfz24_0, hfz24_1, hfz24_2⟩ := bc3 BK198
       go_wp2
       refine bodyPost_ret (results_ct rfl _ _ gb198 24 #[.string (⟨#[]⟩ : ByteArray), .int .i64 0, .slice none 0 0] (0, 0) _ rfl (bk BK198) Tryd.underlying24 rfl kx) rfl ?_
       exact ⟨_, by first | rfl | (simp [errW_none, errW_some] <;> rfl) | (simp [*, errW_none, errW_some] <;> rfl), by first | exact Kd.R_nil _ _ _ _ _ | exact Kd.N_nil _ _ _ _ _ | exact Kd.V_nil _ _ _ _ _ | exact Kd.Q_nil _ _ _ _ _ | exact Kd.S_nil _ _ _ _ _, be⟩
      ·rw [if_neg c22] at H
       have c22b0 : decide (50 < (wrap64 (a3 - a2))) = false := decide_eq_false c22
       clear c22
       replace H := Option.bind_eq_some_iff.mp H
       obtain ⟨t201, A250, H⟩ := H
       replace H : (if (l0_2.length : Int) > 0 then (if 0 ≤ (wrap64 ((l0_2.length : Int) - 1)) then (if (wrap64 ((l0_2.length : Int) - 1)) < (l0_2.length : Int) then (forecast_Extend.j1 kj8 l1 a2 a3 ((rd_T43 l0_2 (wrap64 ((l0_2.length : Int) - 1))).f1) a0_0 a0_1 t201) else (none)) else (none)) else (forecast_Extend.j1 kj8 l1 a2 a3 a0_1 a0_0 a0_1 t201)) = some (r1, r2, r3, r4) := H
       have A25 := Aside0.mk A250
       clear A250
       have HC26 := Aside0.mk H
       clear H
       try go_wp2
       have n0_ := Aside0.mk (blk_drew BK197.out)
       have n1_ := Aside0.mk (blk_drew BK198.out)
       have n2_ := Aside0.mk (below_drew1 HB.out)
       clear BK197
       clear BK198
       clear HB
       have BK197 := n0_
       have BK198 := n1_
       have HB := n2_
       clear n0_ n1_ n2_
       refine start_ (n := 10) (S := fun w' => w'.cell? ⟨gb197, 0, none⟩ = some (.string a0_0) ∧ w'.cell? ⟨gb197, 1, none⟩ = some (.int .i64 a0_1) ∧ w'.cell? ⟨gb197, 2, none⟩ = some (.slice A0_2 l0_2.length c0_2)) (ds := []) #[false, false, false, false, false, false, false, false, false, false] kx rfl rfl ⟨(blk_cell BK197.out 0).trans rfl, (blk_cell BK197.out 1).trans rfl, (blk_cell BK197.out 2).trans rfl⟩ (fun hHeld => ?_); refine with_tabW forecast_Extend.tab11 forecast_Extend.bits11 (fun HT_ HW_ => ?_)
       generalize wc.drew = w27 at BK197 BK198 HB hHeld ⊢
       refine pure_ (i := 0) (N := some 52) (v := ?_) (a' := ?_) #[true, false, false, false, false, false, false, false, false, false] rfl rfl (any_of HT_.out kx) (fun _ _ _ h => h) (Or.inl ⟨by rfl, ?_⟩) ?_ ?_
       rotate_left
       ·intro w'
        go_simp
        with_reducible rfl
       rotate_left
       ·simp only [Act.put, List.setIfInBounds_toArray, List.set_cons_zero, List.set_cons_succ, i64_w, i32_w]
        rfl
       refine pure_ (i := 2) (N := some 54) (v := ?_) (a' := ?_) #[true, false, true, false, false, false, false, false, false, false] rfl rfl (any_of HT_.out kx) (fun _ _ _ h => h) (Or.inl ⟨by rfl, ?_⟩) ?_ ?_
       rotate_left
       ·intro w'
        go_simp
        with_reducible rfl
       rotate_left
       ·simp only [Act.put, List.setIfInBounds_toArray, List.set_cons_zero, List.set_cons_succ, i64_w, i32_w]
        rfl
       refine pure_ (i := 4) (N := some 56) (v := ?_) (a' := ?_) #[true, false, true, false, true, false, false, false, false, false] rfl rfl (any_of HT_.out kx) (fun _ _ _ h => h) (Or.inl ⟨by rfl, ?_⟩) ?_ ?_
       rotate_left
       ·intro w'
        go_simp
        with_reducible rfl
       rotate_left
       ·simp only [Act.put, List.setIfInBounds_toArray, List.set_cons_zero, List.set_cons_succ, i64_w, i32_w]
        rfl
       refine take_ (i := 1) (N := some 53) (v := ?_) (a' := ?_) #[true, true, true, false, true, false, false, false, false, false] rfl rfl (take_ofW HT_.out HW_.out kx) (fun _ _ _ h => h) (Or.inl ⟨by rfl, ?_⟩) hHeld ?_ ?_
       rotate_left
       ·rintro w' ⟨s0, s1, s2⟩
        go_simp
        with_reducible rfl
       rotate_left
       ·simp only [Act.put, List.setIfInBounds_toArray, List.set_cons_zero, List.set_cons_succ, i64_w, i32_w]
        rfl
       refine take_ (i := 3) (N := some 55) (v := ?_) (a' := ?_) #[true, true, true, true, true, false, false, false, false, false] rfl rfl (take_ofW HT_.out HW_.out kx) (fun _ _ _ h => h) (Or.inl ⟨by rfl, ?_⟩) hHeld ?_ ?_
       rotate_left
       ·rintro w' ⟨s0, s1, s2⟩
        go_simp
        with_reducible rfl
       rotate_left
       ·simp only [Act.put, List.setIfInBounds_toArray, List.set_cons_zero, List.set_cons_succ, i64_w, i32_w]
        rfl
       refine take_ (i := 5) (N := some 57) (v := ?_) (a' := ?_) #[true, true, true, true, true, true, false, false, false, false] rfl rfl (take_ofW HT_.out HW_.out kx) (fun _ _ _ h => h) (Or.inl ⟨by rfl, ?_⟩) hHeld ?_ ?_
       rotate_left
       ·rintro w' ⟨s0, s1, s2⟩
        go_simp
        with_reducible rfl
       rotate_left
       ·simp only [Act.put, List.setIfInBounds_toArray, List.set_cons_zero, List.set_cons_succ, i64_w, i32_w]
        rfl
       refine join_ (σ := Value × Nat) 1 #[true, true, true, true, true, true, true, true, true, false] (fun s_ => [(58, s_.1), (12, .pointer (some ⟨s_.2, 0, none⟩)), (59, .agg #[.string a0_0, .int .i64 a0_1, s_.1])]) (fun s_ w' => (w'.cell? ⟨gb197, 0, none⟩ = some (.string a0_0) ∧ w'.cell? ⟨gb197, 1, none⟩ = some (.int .i64 a0_1) ∧ w'.cell? ⟨gb197, 2, none⟩ = some (.slice A0_2 l0_2.length c0_2)) ∧ (Kd.R k43 43 w' w.heap.size (fun _ => True) s_.1 t201) ∧ (w'.heap[gb197]? = some (.cells #[.string a0_0, .int .i64 a0_1, .slice A0_2 l0_2.length c0_2] 24 (0, 0))) ∧ (w'.heap[gb198]? = some (.cells #[.string (⟨#[]⟩ : ByteArray), .int .i64 0, .slice none 0 0] 24 (0, 0))) ∧ (w'.heap[s_.2]? = some (.cells #[.string (⟨#[]⟩ : ByteArray), .int .i64 0, .slice none 0 0] 24 (0, 0))) ∧ (w.heap.size ≤ s_.2) ∧ (w.heap.size ≤ s_.2) ∧ (gb197 ≠ s_.2) ∧ (s_.2 ≠ gb197) ∧ (gb198 ≠ s_.2) ∧ (s_.2 ≠ gb198) ∧ (Below w.heap.size w w')) ?_ ?_
       rotate_left
       ·intro hCont
        refine two_ (i := 6) (j := 8) (Ni := some 58) (Nj := some 12) #[true, true, true, true, true, true, true, false, false, false] #[true, true, true, true, true, true, false, false, true, false] rfl rfl rfl rfl (two_of HT_.out kx) (by decide) (by decide) (fun K hK => ?_) (fun K hK => ?_)
        ·skip
         refine goes_ Tryd.func48 kx rfl #[.slice A0_2 l0_2.length c0_2] (by rfl) rfl rfl aa ?_
         with_reducible refine (api_ZoneChange.calls _ _ l0_2 t201 _ ?side1 ?side2 A25.out).mono ?_
         (case side1 => exact kc (Kd.C_below HR0_2.out HB.out))
         (case side2 => exact HC0_2.out)
         rintro e w28 ⟨v202, rfl, ho0, hb⟩
         refine ⟨_, rfl, ?_⟩
         have n0_ := Aside0.mk (Kd.R_lower ho0 (below_size be))
         have n1_ := bb BK197 hb
         have n2_ := bb BK198 hb
         have n3_ := Aside0.mk (below_step be hb)
         clear BK197
         clear BK198
         clear HB
         have HO203 := n0_
         have BK197 := n1_
         have BK198 := n2_
         have HB := n3_
         clear n0_ n1_ n2_ n3_
         (try clear hb)
         (try clear hb2)
         (try clear hk)
         (try clear hi)
         (try clear ho0)
         obtain ⟨Ao29, co29, eo29⟩ := Kd.R_slice HO203.out
         (first | subst eo29 | (injection eo29 with f1_ f2_ f3_; have f4_ := f1_.symm; have f5_ := f3_.symm; clear f1_ f2_ f3_; subst f4_; subst f5_))
         refine hK.out _ _ ⟨(blk_cell BK197.out 0).trans rfl, (blk_cell BK197.out 1).trans rfl, (blk_cell BK197.out 2).trans rfl⟩ (fun hHeld => ?_)
         clear hK K
         refine norm_ (a' := ?_) ?_ ?_
         rotate_left
         ·show Act.put _ (some 58) _ = _
          simp only [Act.put, List.setIfInBounds_toArray, List.set_cons_zero, List.set_cons_succ, i64_w, i32_w]
          rfl
         refine pure_ (i := 7) (N := some 59) (v := ?_) (a' := ?_) #[true, true, true, true, true, true, true, true, false, false] rfl rfl (any_of HT_.out kx) (fun _ _ _ h => h) (Or.inl ⟨by rfl, ?_⟩) ?_ ?_
         rotate_left
         ·intro w'
          go_simp
          with_reducible rfl
         rotate_left
         ·simp only [Act.put, List.setIfInBounds_toArray, List.set_cons_zero, List.set_cons_succ, i64_w, i32_w]
          rfl
         refine one_ (i := 8) (N := some 12) #[true, true, true, true, true, true, true, true, true, false] rfl rfl (one_of HT_.out kx) (by decide) (fun K hK => ?_)
         refine box_step ?hg (N := 12) ?hd (cs := #[.string (⟨#[]⟩ : ByteArray), .int .i64 0, .slice none 0 0]) (t := 24) ?hr ?_; (case hd => rfl); (case hg => rfl); (case hr => first | (go_simp; done) | (go_simp; rfl))
         intro gb204 hg w30 hbox hb
         have n0_ := Aside0.mk (Kd.R_below (by (with_reducible repeat (first | apply Kd.R_alloc | apply Kd.R_drewN | apply Kd.R_drew)); exact HO203.out) hb)
         have n1_ := bb BK197 hb
         have n2_ := bb BK198 hb
         have n3_ := Aside0.mk (below_step be hb)
         have n4_ := Aside0.mk (hbox)
         have n5_ := gs hg HB
         have n6_ := gs hg HB
         have n7_ := nl BK197 hg
         have n8_ := ns (nl BK197 hg)
         have n9_ := nl BK198 hg
         have n10_ := ns (nl BK198 hg)
         clear HO203
         clear BK197
         clear BK198
         clear HB
         have HO203 := n0_
         have BK197 := n1_
         have BK198 := n2_
         have HB := n3_
         have BK204 := n4_
         have GW204 := n5_
         have GE204 := n6_
         have NB197_204 := n7_
         have NB204_197 := n8_
         have NB198_204 := n9_
         have NB204_198 := n10_
         clear n0_ n1_ n2_ n3_ n4_ n5_ n6_ n7_ n8_ n9_ n10_
         clear hb hbox hg
         refine hK.out _ _ ⟨(blk_cell BK197.out 0).trans rfl, (blk_cell BK197.out 1).trans rfl, (blk_cell BK197.out 2).trans rfl⟩ (fun hHeld => ?_)
         clear hK K
         refine norm_ (a' := ?_) ?_ ?_
         rotate_left
         ·show Act.put _ (some 12) _ = _
          simp only [Act.put, List.setIfInBounds_toArray, List.set_cons_zero, List.set_cons_succ, i64_w, i32_w]
          rfl
         exact norm_ (by simp only [putAll, Act.put, List.setIfInBounds_toArray, List.set_cons_zero, List.set_cons_succ]) (hCont (.slice Ao29 t201.length co29, gb204) _ ⟨hHeld, (by (with_reducible repeat (first | apply Kd.R_alloc | apply Kd.R_drewN | apply Kd.R_drew)); exact HO203.out), (bk BK197), (bk BK198), (bk BK204), GW204.out, GE204.out, NB197_204.out, NB204_197.out, NB198_204.out, NB204_198.out, be⟩)
        ·skip
         refine box_step ?hg (N := 12) ?hd (cs := #[.string (⟨#[]⟩ : ByteArray), .int .i64 0, .slice none 0 0]) (t := 24) ?hr ?_; (case hd => rfl); (case hg => rfl); (case hr => first | (go_simp; done) | (go_simp; rfl))
         intro gb204 hg w28 hbox hb
         have n0_ := bb BK197 hb
         have n1_ := bb BK198 hb
         have n2_ := Aside0.mk (below_step be hb)
         have n3_ := Aside0.mk (hbox)
         have n4_ := gs hg HB
         have n5_ := gs hg HB
         have n6_ := nl BK197 hg
         have n7_ := ns (nl BK197 hg)
         have n8_ := nl BK198 hg
         have n9_ := ns (nl BK198 hg)
         clear BK197
         clear BK198
         clear HB
         have BK197 := n0_
         have BK198 := n1_
         have HB := n2_
         have BK204 := n3_
         have GW204 := n4_
         have GE204 := n5_
         have NB197_204 := n6_
         have NB204_197 := n7_
         have NB198_204 := n8_
         have NB204_198 := n9_
         clear n0_ n1_ n2_ n3_ n4_ n5_ n6_ n7_ n8_ n9_
         clear hb hbox hg
         refine hK.out _ _ ⟨(blk_cell BK197.out 0).trans rfl, (blk_cell BK197.out 1).trans rfl, (blk_cell BK197.out 2).trans rfl⟩ (fun hHeld => ?_)
         clear hK K
         refine norm_ (a' := ?_) ?_ ?_
         rotate_left
         ·show Act.put _ (some 12) _ = _
          simp only [Act.put, List.setIfInBounds_toArray, List.set_cons_zero, List.set_cons_succ, i64_w, i32_w]
          rfl
         refine one_ (i := 6) (N := some 58) #[true, true, true, true, true, true, true, false, true, false] rfl rfl (one_of HT_.out kx) (by decide) (fun K hK => ?_)
         refine goes_ Tryd.func48 kx rfl #[.slice A0_2 l0_2.length c0_2] (by rfl) rfl rfl aa ?_
         with_reducible refine (api_ZoneChange.calls _ _ l0_2 t201 _ ?side1 ?side2 A25.out).mono ?_
         (case side1 => exact kc (Kd.C_below HR0_2.out HB.out))
         (case side2 => exact HC0_2.out)
         rintro e w29 ⟨v202, rfl, ho0, hb⟩
         refine ⟨_, rfl, ?_⟩
         have n0_ := Aside0.mk (Kd.R_lower ho0 (below_size be))
         have n1_ := bb BK197 hb
         have n2_ := bb BK198 hb
         have n3_ := bb BK204 hb
         have n4_ := Aside0.mk (below_step be hb)
         clear BK197
         clear BK198
         clear BK204
         clear HB
         have HO203 := n0_
         have BK197 := n1_
         have BK198 := n2_
         have BK204 := n3_
         have HB := n4_
         clear n0_ n1_ n2_ n3_ n4_
         (try clear hb)
         (try clear hb2)
         (try clear hk)
         (try clear hi)
         (try clear ho0)
         obtain ⟨Ao30, co30, eo30⟩ := Kd.R_slice HO203.out
         (first | subst eo30 | (injection eo30 with f1_ f2_ f3_; have f4_ := f1_.symm; have f5_ := f3_.symm; clear f1_ f2_ f3_; subst f4_; subst f5_))
         refine hK.out _ _ ⟨(blk_cell BK197.out 0).trans rfl, (blk_cell BK197.out 1).trans rfl, (blk_cell BK197.out 2).trans rfl⟩ (fun hHeld => ?_)
         clear hK K
         refine norm_ (a' := ?_) ?_ ?_
         rotate_left
         ·show Act.put _ (some 58) _ = _
          simp only [Act.put, List.setIfInBounds_toArray, List.set_cons_zero, List.set_cons_succ, i64_w, i32_w]
          rfl
         refine pure_ (i := 7) (N := some 59) (v := ?_) (a' := ?_) #[true, true, true, true, true, true, true, true, true, false] rfl rfl (any_of HT_.out kx) (fun _ _ _ h => h) (Or.inl ⟨by rfl, ?_⟩) ?_ ?_
         rotate_left
         ·intro w'
          go_simp
          with_reducible rfl
         rotate_left
         ·simp only [Act.put, List.setIfInBounds_toArray, List.set_cons_zero, List.set_cons_succ, i64_w, i32_w]
          rfl
         exact norm_ (by simp only [putAll, Act.put, List.setIfInBounds_toArray, List.set_cons_zero, List.set_cons_succ]) (hCont (.slice Ao30 t201.length co30, gb204) _ ⟨hHeld, (by (with_reducible repeat (first | apply Kd.R_alloc | apply Kd.R_drewN | apply Kd.R_drew)); exact HO203.out), (bk BK197), (bk BK198), (bk BK204), GW204.out, GE204.out, NB197_204.out, NB204_197.out, NB198_204.out, NB204_198.out, be⟩)
       rintro ⟨v202, gb204⟩ w31 ⟨hS_, h0_, h1_, h2_, h3_, h4_, h5_, h6_, h7_, h8_, h9_, h10_⟩
       have n0_ : Aside0 (Kd.R k43 43 w31 w.heap.size (fun _ => True) v202 t201) := ⟨h0_⟩
       have n1_ : Aside0 (w31.heap[gb197]? = some (.cells #[.string a0_0, .int .i64 a0_1, .slice A0_2 l0_2.length c0_2] 24 (0, 0))) := ⟨h1_⟩
       have n2_ : Aside0 (w31.heap[gb198]? = some (.cells #[.string (⟨#[]⟩ : ByteArray), .int .i64 0, .slice none 0 0] 24 (0, 0))) := ⟨h2_⟩
       have n3_ : Aside0 (w31.heap[gb204]? = some (.cells #[.string (⟨#[]⟩ : ByteArray), .int .i64 0, .slice none 0 0] 24 (0, 0))) := ⟨h3_⟩
       have n4_ : Aside0 (w.heap.size ≤ gb204) := ⟨h4_⟩
       have n5_ : Aside0 (w.heap.size ≤ gb204) := ⟨h5_⟩
       have n6_ : Aside0 (gb197 ≠ gb204) := ⟨h6_⟩
       have n7_ : Aside0 (gb204 ≠ gb197) := ⟨h7_⟩
       have n8_ : Aside0 (gb198 ≠ gb204) := ⟨h8_⟩
       have n9_ : Aside0 (gb204 ≠ gb198) := ⟨h9_⟩
       have n10_ : Aside0 (Below w.heap.size w w31) := ⟨h10_⟩
       clear BK197
       clear BK198
       clear HB
       clear h0_ h1_ h2_ h3_ h4_ h5_ h6_ h7_ h8_ h9_ h10_
       have HO203 := n0_
       have BK197 := n1_
       have BK198 := n2_
       have BK204 := n3_
       have GW204 := n4_
       have GE204 := n5_
       have NB197_204 := n6_
       have NB204_197 := n7_
       have NB198_204 := n8_
       have NB204_198 := n9_
       have HB := n10_
       clear n0_ n1_ n2_ n3_ n4_ n5_ n6_ n7_ n8_ n9_ n10_
       have hHeld : w31.cell? ⟨gb197, 0, none⟩ = some (.string a0_0) ∧ w31.cell? ⟨gb197, 1, none⟩ = some (.int .i64 a0_1) ∧ w31.cell? ⟨gb197, 2, none⟩ = some (.slice A0_2 l0_2.length c0_2) := hS_
       obtain ⟨Ao32, co32, eo32⟩ := Kd.R_slice HO203.out
       (first | subst eo32 | (injection eo32 with f1_ f2_ f3_; have f4_ := f1_.symm; have f5_ := f3_.symm; clear f1_ f2_ f3_; subst f4_; subst f5_))
       refine norm_ (a' := ?_) ?_ ?_
       rotate_left
       ·simp only [putAll, Act.put, List.setIfInBounds_toArray, List.set_cons_zero, List.set_cons_succ]
        rfl
       refine one_ (i := 9) (N := none) #[true, true, true, true, true, true, true, true, true, true] rfl rfl (one_of HT_.out kx) (by decide) (fun K hK => ?_)
       have hs33 : w31.cell? ⟨gb204, 0, none⟩ = some (.string (⟨#[]⟩ : ByteArray)) := (blk_cell BK204.out 0).trans rfl
       have hfs33 := blk_frozen BK204.out 0
       have hns33_0 := NB197_204.out
       have hns33_1 := NB198_204.out
       have hms33_0 := NB204_197.out
       have hms33_1 := NB204_198.out
       have hs34 : w31.cell? ⟨gb204, 1, none⟩ = some (.int .i64 0) := (blk_cell BK204.out 1).trans rfl
       have hfs34 := blk_frozen BK204.out 1
       have hns34_0 := NB197_204.out
       have hns34_1 := NB198_204.out
       have hms34_0 := NB204_197.out
       have hms34_1 := NB204_198.out
       have hs35 : w31.cell? ⟨gb204, 2, none⟩ = some (.slice none 0 0) := (blk_cell BK204.out 2).trans rfl
       have hfs35 := blk_frozen BK204.out 2
       have hns35_0 := NB197_204.out
       have hns35_1 := NB198_204.out
       have hms35_0 := NB204_197.out
       have hms35_1 := NB204_198.out
       refine skip_ (w1 := ?_) (by rfl) rfl ?_ ?_
       rotate_left
       ·go_simp
        rfl
       refine hK.out _ _ ⟨((cell_far (p := ⟨gb204, _, none⟩) NB197_204.out _).trans (((cell_far (p := ⟨gb204, _, none⟩) NB197_204.out _).trans (((cell_far (p := ⟨gb204, _, none⟩) NB197_204.out _).trans (hHeld.1)))))), ((cell_far (p := ⟨gb204, _, none⟩) NB197_204.out _).trans (((cell_far (p := ⟨gb204, _, none⟩) NB197_204.out _).trans (((cell_far (p := ⟨gb204, _, none⟩) NB197_204.out _).trans (hHeld.2.1)))))), ((cell_far (p := ⟨gb204, _, none⟩) NB197_204.out _).trans (((cell_far (p := ⟨gb204, _, none⟩) NB197_204.out _).trans (((cell_far (p := ⟨gb204, _, none⟩) NB197_204.out _).trans (hHeld.2.2))))))⟩ (fun hHeld => ?_)
       clear hK K
       refine done_ (done_of HT_.out kx) ?_
       have hnb36 := NB197_198.out
       have hnc36 := NB198_197.out
       have hnb37 := NB197_204.out
       have hnc37 := NB204_197.out
       obtain ⟨hcz38_0, hcz38_1, hcz38_2, hfz38_0, hfz38_1, hfz38_2⟩ := bc3 BK197
       go_upto_if 66 with (fail)
       go_cut [13] (fun v13 wc => ∃ (kq : Nat) (x13_25 : Int), v13 = .int .i64 x13_25 ∧ Aside0 (forecast_Extend.j1 kq l1 a2 a3 x13_25 a0_0 a0_1 t201 = some (r1, r2, r3, r4)) ∧ Aside0 (kq ≤ kj8) ∧ Aside0 (Kd.R k43 43 wc w.heap.size (fun _ => True) (.slice Ao32 t201.length co32) t201) ∧ Aside0 (wc.heap[gb197]? = some (.cells #[.string a0_0, .int .i64 a0_1, (.slice A0_2 l0_2.length c0_2)] 24 (0, 0))) ∧ Aside0 (wc.heap[gb198]? = some (.cells #[.string (⟨#[]⟩ : ByteArray), .int .i64 0, (.slice none 0 0)] 24 (0, 0))) ∧ Aside0 (wc.heap[gb204]? = some (.cells #[.string a0_0, .int .i64 a0_1, (.slice Ao32 t201.length co32)] 24 (0, 0))) ∧ Aside0 (Below w.heap.size w wc))
       case first =>
        have H := HC26.out
        clear HC26
        by_cases c39 : (l0_2.length : Int) > 0
        ·rw [if_pos c39] at H
         have c39b0 : decide (0 < (l0_2.length : Int)) = true := decide_eq_true c39
         have c39b1 : decide (0 < l0_2.length) = true := decide_eq_true (by omega)
         clear c39
         (first | rw [c39b0] | rw [c39b1] | simp only [c39b1] | (simp only [i64_w, i32_w]; rw [c39b0]) | skip)
         obtain ⟨ji40, hji40⟩ : ∃ j_ : Int, (wrap64 ((l0_2.length : Int) - 1)) = j_ := ⟨_, rfl⟩
         replace H : (if 0 ≤ (ji40) then (if (ji40) < (l0_2.length : Int) then (forecast_Extend.j1 kj8 l1 a2 a3 ((rd_T43 l0_2 (ji40)).f1) a0_0 a0_1 t201) else (none)) else (none)) = some (r1, r2, r3, r4) := by first | (rw [hji40] at H; exact H) | (simp only [hji40] at H ⊢; exact H)
         have hji40w : (IntKind.i64.wrap ((l0_2.length : Int) - 1)) = ji40 := (i64_w _).trans hji40
         by_cases c41 : 0 ≤ (ji40)
         ·rw [if_pos c41] at H
          have c41b0 : decide (0 ≤ (ji40)) = true := decide_eq_true c41
          clear c41
          by_cases c42 : (ji40) < (l0_2.length : Int)
          ·rw [if_pos c42] at H
           have c42b0 : decide ((ji40) < (l0_2.length : Int)) = true := decide_eq_true c42
           clear c42
           have H' := Aside0.mk H
           clear H
           have hnb43 := NB197_198.out
           have hnc43 := NB198_197.out
           have hnb44 := NB197_204.out
           have hnc44 := NB204_197.out
           obtain ⟨hcz45_0, hcz45_1, hcz45_2, hfz45_0, hfz45_1, hfz45_2⟩ := bc3 BK197
           have p205 : 0 ≤ ((ji40) : Int) := of_decide_eq_true ka
           have q205 : (ji40) < (l0_2.length : Int) := of_decide_eq_true ka
           obtain ⟨ad205, e205, hx205_0, hx205_1, hx205_2⟩ := at_T43 HR0_2.out (ji40) p205 q205
           cases e205
           have hn205_0 : ad205.block ≠ gb204 := Nat.ne_of_lt (Nat.lt_of_lt_of_le (by have := World.block_lt_of_cell? _ _ hx205_0; first | rwa [add_block] at this | exact this) GW204.out)
           have hn205_1 : ad205.block ≠ gb204 := Nat.ne_of_lt (Nat.lt_of_lt_of_le (by have := World.block_lt_of_cell? _ _ hx205_0; first | rwa [add_block] at this | exact this) GW204.out)
           have hn205_2 : ad205.block ≠ gb204 := Nat.ne_of_lt (Nat.lt_of_lt_of_le (by have := World.block_lt_of_cell? _ _ hx205_0; first | rwa [add_block] at this | exact this) GW204.out)
           replace hx205_0 := (HB.out.cell (World.block_lt_of_cell? w _ hx205_0)).trans hx205_0
           replace hx205_1 := (HB.out.cell (World.block_lt_of_cell? w _ hx205_1)).trans hx205_1
           replace hx205_2 := (HB.out.cell (World.block_lt_of_cell? w _ hx205_2)).trans hx205_2
           replace hx205_0 := (cell_far (p := ⟨gb204, 0, none⟩) (by first | (rw [add_block]; exact hn205_0) | (show (Addr.add _ _).block ≠ _; rw [add_block]; exact hn205_0) | exact hn205_0) (.string a0_0)).trans hx205_0
           replace hx205_1 := (cell_far (p := ⟨gb204, 0, none⟩) (by first | (rw [add_block]; exact hn205_0) | (show (Addr.add _ _).block ≠ _; rw [add_block]; exact hn205_0) | exact hn205_0) (.string a0_0)).trans hx205_1
           replace hx205_2 := (cell_far (p := ⟨gb204, 0, none⟩) (by first | (rw [add_block]; exact hn205_0) | (show (Addr.add _ _).block ≠ _; rw [add_block]; exact hn205_0) | exact hn205_0) (.string a0_0)).trans hx205_2
           replace hx205_0 := (cell_far (p := ⟨gb204, 1, none⟩) (by first | (rw [add_block]; exact hn205_1) | (show (Addr.add _ _).block ≠ _; rw [add_block]; exact hn205_1) | exact hn205_1) (.int .i64 a0_1)).trans hx205_0
           replace hx205_1 := (cell_far (p := ⟨gb204, 1, none⟩) (by first | (rw [add_block]; exact hn205_1) | (show (Addr.add _ _).block ≠ _; rw [add_block]; exact hn205_1) | exact hn205_1) (.int .i64 a0_1)).trans hx205_1
           replace hx205_2 := (cell_far (p := ⟨gb204, 1, none⟩) (by first | (rw [add_block]; exact hn205_1) | (show (Addr.add _ _).block ≠ _; rw [add_block]; exact hn205_1) | exact hn205_1) (.int .i64 a0_1)).trans hx205_2
           replace hx205_0 := (cell_far (p := ⟨gb204, 2, none⟩) (by first | (rw [add_block]; exact hn205_2) | (show (Addr.add _ _).block ≠ _; rw [add_block]; exact hn205_2) | exact hn205_2) (.slice Ao32 t201.length co32)).trans hx205_0
           replace hx205_1 := (cell_far (p := ⟨gb204, 2, none⟩) (by first | (rw [add_block]; exact hn205_2) | (show (Addr.add _ _).block ≠ _; rw [add_block]; exact hn205_2) | exact hn205_2) (.slice Ao32 t201.length co32)).trans hx205_1
           replace hx205_2 := (cell_far (p := ⟨gb204, 2, none⟩) (by first | (rw [add_block]; exact hn205_2) | (show (Addr.add _ _).block ≠ _; rw [add_block]; exact hn205_2) | exact hn205_2) (.slice Ao32 t201.length co32)).trans hx205_2
           clear hn205_0
           clear hn205_1
           clear hn205_2
           replace p205 := eq_true p205
           replace q205 := eq_true q205
           go_wp2
           go_meet
           case rel => exact ⟨_, ((rd_T43 l0_2 (ji40)).f1), (by first | rfl | (simp; done) | (simp only [← hji40] <;> (first | rfl | simp)) | (simp [*]; done)), H', ⟨by have := HJ8.out; first | omega | exact Nat.le_refl _⟩, ⟨by (with_reducible repeat (first | apply Kd.R_alloc | apply Kd.R_drewN | apply Kd.R_drew)); exact Kd.R_mono (Kd.R_far (p := ⟨gb204, 2, none⟩) (Kd.R_far (p := ⟨gb204, 1, none⟩) (Kd.R_far (p := ⟨gb204, 0, none⟩) (Kd.R_types HO203.out BK204.out (by decide)) (fun _ hk => hk.2) (.string a0_0)) (fun _ hk => hk.2) (.int .i64 a0_1)) (fun _ hk => hk.2) (.slice Ao32 t201.length co32)) (fun _ hk => trivial)⟩, ⟨bk BK197⟩, ⟨bk BK198⟩, ⟨bk BK204⟩, ⟨be⟩⟩
          ·rw [if_neg c42] at H
           exact absurd H (by simp)
         ·rw [if_neg c41] at H
          exact absurd H (by simp)
        ·rw [if_neg c39] at H
         have c39b0 : decide (0 < (l0_2.length : Int)) = false := decide_eq_false c39
         have c39b1 : decide (0 < l0_2.length) = false := decide_eq_false (by omega)
         clear c39
         (first | rw [c39b0] | rw [c39b1] | simp only [c39b1] | (simp only [i64_w, i32_w]; rw [c39b0]) | skip)
         have H' := Aside0.mk H
         clear H
         go_wp2
         go_meet
         case rel => exact ⟨_, (a0_1), rs, H', ⟨by have := HJ8.out; first | omega | exact Nat.le_refl _⟩, ⟨by (with_reducible repeat (first | apply Kd.R_alloc | apply Kd.R_drewN | apply Kd.R_drew)); exact Kd.R_mono (Kd.R_far (p := ⟨gb204, 2, none⟩) (Kd.R_far (p := ⟨gb204, 1, none⟩) (Kd.R_far (p := ⟨gb204, 0, none⟩) (Kd.R_types HO203.out BK204.out (by decide)) (fun _ hk => hk.2) (.string a0_0)) (fun _ hk => hk.2) (.int .i64 a0_1)) (fun _ hk => hk.2) (.slice Ao32 t201.length co32)) (fun _ hk => trivial)⟩, ⟨bk BK197⟩, ⟨bk BK198⟩, ⟨bk BK204⟩, ⟨be⟩⟩
       case rest =>
        clear HC26
        (try clear c1); (try clear c2); (try clear p2); (try clear q2); (try clear hx2); (try clear c3); (try clear c4); (try clear c6); (try clear c6b0); (try clear c6b1); (try clear p6); (try clear c8); (try clear c8b0); (try clear c8b1); (try clear c13); (try clear c16); (try clear c16b0); (try clear c17); (try clear c17b0); (try clear c18); (try clear c18b0); (try clear c19); (try clear c20); (try clear p20); (try clear q20); (try clear hx20); (try clear c22); (try clear c22b0); (try clear c23); (try clear c36); (try clear c37); (try clear c39); (try clear c39b0); (try clear c39b1); (try clear c40); (try clear c41); (try clear c41b0); (try clear c42); (try clear c42b0); (try clear c43); (try clear c44); (try clear hcz14_0); (try clear hcz14_1); (try clear hcz14_2); (try clear hcz21_0); (try clear hcz21_1); (try clear hcz21_2); (try clear hcz24_0); (try clear hcz24_1); (try clear hcz24_2); (try clear hcz38_0); (try clear hcz38_1); (try clear hcz38_2); (try clear hcz45_0); (try clear hcz45_1); (try clear hcz45_2); (try clear hfz14_0); (try clear hfz14_1); (try clear hfz14_2); (try clear hfz21_0); (try clear hfz21_1); (try clear hfz21_2); (try clear hfz24_0); (try clear hfz24_1); (try clear hfz24_2); (try clear hfz38_0); (try clear hfz38_1); (try clear hfz38_2); (try clear hfz45_0); (try clear hfz45_1); (try clear hfz45_2); (try clear hx205_0); (try clear hx205_1); (try clear hx205_2); (try clear p2); (try clear p205); (try clear q205)
        obtain ⟨kq, x13_25, rfl, HA, HJ25, HO_205002, BK197, BK198, BK204, HB⟩ := hcut
        cases kq with
        | zero => exact absurd HA.out (by simp [forecast_Extend.j1])
        | succ kj25 =>
         have H := HA.out
         clear HA
         simp only [forecast_Extend.j1] at H
         have H' := Aside0.mk H
         clear H
         go_wp2
         go_loopg [13, 15] kj25 (fun kq v13 v15 w' => ∃ (x13_3 : Int) (x15_3 : Int) (x199000_3 : ByteArray) (x199001_3 : Int) (x205002_3 : List (S43)) (u205002 : Value), v13 = .int .i64 x13_3 ∧ v15 = .int .i64 x15_3 ∧ Aside0 (forecast_Extend.l0 kq l1 a3 x13_3 x15_3 a0_0 a0_1 x205002_3 = some (r1, r2, r3, r4)) ∧ Aside0 (kq ≤ kj25) ∧ Aside0 (Kd.R k43 43 w' w.heap.size (fun _ => True) u205002 x205002_3) ∧ Aside0 (w'.heap[gb197]? = some (.cells #[.string a0_0, .int .i64 a0_1, (.slice A0_2 l0_2.length c0_2)] 24 (0, 0))) ∧ Aside0 (w'.heap[gb198]? = some (.cells #[.string x199000_3, .int .i64 x199001_3, (.slice none 0 0)] 24 (0, 0))) ∧ Aside0 (w'.heap[gb204]? = some (.cells #[.string a0_0, .int .i64 a0_1, u205002] 24 (0, 0))) ∧ Aside0 (Below w.heap.size w w'))
         case atStart => exact ⟨(x13_25), (a2), ((⟨#[]⟩ : ByteArray)), (0), (t201), (.slice Ao32 t201.length co32), rs, rs, H', ⟨Nat.le_refl _⟩, ⟨by (with_reducible repeat (first | apply Kd.R_alloc | apply Kd.R_drewN | apply Kd.R_drew)); exact HO_205002.out⟩, ⟨bk BK197⟩, ⟨bk BK198⟩, ⟨bk BK204⟩, ⟨be⟩⟩
         case round =>
          clear H'
          (try clear c1); (try clear c2); (try clear p2); (try clear q2); (try clear hx2); (try clear c3); (try clear c4); (try clear c6); (try clear c6b0); (try clear c6b1); (try clear p6); (try clear c8); (try clear c8b0); (try clear c8b1); (try clear c13); (try clear c16); (try clear c16b0); (try clear c17); (try clear c17b0); (try clear c18); (try clear c18b0); (try clear c19); (try clear c20); (try clear p20); (try clear q20); (try clear hx20); (try clear c22); (try clear c22b0); (try clear c23); (try clear c36); (try clear c37); (try clear c39); (try clear c39b0); (try clear c39b1); (try clear c40); (try clear c41); (try clear c41b0); (try clear c42); (try clear c42b0); (try clear c43); (try clear c44); (try clear hcz14_0); (try clear hcz14_1); (try clear hcz14_2); (try clear hcz21_0); (try clear hcz21_1); (try clear hcz21_2); (try clear hcz24_0); (try clear hcz24_1); (try clear hcz24_2); (try clear hcz38_0); (try clear hcz38_1); (try clear hcz38_2); (try clear hcz45_0); (try clear hcz45_1); (try clear hcz45_2); (try clear hfz14_0); (try clear hfz14_1); (try clear hfz14_2); (try clear hfz21_0); (try clear hfz21_1); (try clear hfz21_2); (try clear hfz24_0); (try clear hfz24_1); (try clear hfz24_2); (try clear hfz38_0); (try clear hfz38_1); (try clear hfz38_2); (try clear hfz45_0); (try clear hfz45_1); (try clear hfz45_2); (try clear hx205_0); (try clear hx205_1); (try clear hx205_2); (try clear p2); (try clear p20); (try clear p205); (try clear p6); (try clear q2); (try clear q20); (try clear q205)
          obtain ⟨x13_3, x15_3, x199000_3, x199001_3, x205002_3, u205002, rfl, rfl, HA, HK3, HO_205002, BK197, BK198, BK204, HB⟩ := hrel
          cases gk with
          | zero => exact absurd HA.out (by simp [forecast_Extend.l0])
          | succ k3 =>
           have H := HA.out
           clear HA
           simp only [forecast_Extend.l0] at H
           by_cases c46 : x15_3 ≤ a3
           ·rw [if_pos c46] at H
            have c46b0 : decide (x15_3 ≤ a3) = true := decide_eq_true c46
            clear c46
            replace H := Option.bind_eq_some_iff.mp H
            obtain ⟨⟨t206, t207⟩, A470, H⟩ := H
            replace H : (if t207 = 0 then (if x205002_3.length + t206.length < 4398046511104 then (if 0 ≤ (wrap64 ((t206.length : Int) - 1)) then (if (wrap64 ((t206.length : Int) - 1)) < (t206.length : Int) then (forecast_Extend.l0 k3 l1 a3 ((rd_T43 t206 (wrap64 ((t206.length : Int) - 1))).f1) (wrap64 (x15_3 + 1)) a0_0 a0_1 (x205002_3 ++ t206)) else (none)) else (none)) else (none)) else (some ((⟨#[]⟩ : ByteArray), 0, ([] : List (S43)), t207))) = some (r1, r2, r3, r4) := H
            have A47 := Aside0.mk A470
            clear A470
            by_cases c48 : t207 = 0
            ·rw [if_pos c48] at H
             have c48b0 : (t207 == 0) = true := beq_iff_eq.mpr c48
             have c48b1 : (t207 != 0) = false := bne_eq_false_iff_eq.mpr c48
             clear c48
             by_cases c49 : x205002_3.length + t206.length < 4398046511104
             ·rw [if_pos c49] at H
              have LMc49 := Aside0.mk c49
              clear c49
              obtain ⟨y210, hy210⟩ : ∃ y_ : List (S43), y_ = (x205002_3 ++ t206) := ⟨_, rfl⟩
              replace H : (if 0 ≤ (wrap64 ((t206.length : Int) - 1)) then (if (wrap64 ((t206.length : Int) - 1)) < (t206.length : Int) then (forecast_Extend.l0 k3 l1 a3 ((rd_T43 t206 (wrap64 ((t206.length : Int) - 1))).f1) (wrap64 (x15_3 + 1)) a0_0 a0_1 y210) else (none)) else (none)) = some (r1, r2, r3, r4) := rp hy210 H
              have Ny210 := Aside0.mk hy210
              clear hy210
              obtain ⟨ji50, hji50⟩ : ∃ j_ : Int, (wrap64 ((t206.length : Int) - 1)) = j_ := ⟨_, rfl⟩
              replace H : (if 0 ≤ (ji50) then (if (ji50) < (t206.length : Int) then (forecast_Extend.l0 k3 l1 a3 ((rd_T43 t206 (ji50)).f1) (wrap64 (x15_3 + 1)) a0_0 a0_1 y210) else (none)) else (none)) = some (r1, r2, r3, r4) := by first | (rw [hji50] at H; exact H) | (simp only [hji50] at H ⊢; exact H)
              (try rw [hji50] at A47)
              have hji50w : (IntKind.i64.wrap ((t206.length : Int) - 1)) = ji50 := (i64_w _).trans hji50
              by_cases c51 : 0 ≤ (ji50)
              ·rw [if_pos c51] at H
               have c51b0 : decide (0 ≤ (ji50)) = true := decide_eq_true c51
               clear c51
               by_cases c52 : (ji50) < (t206.length : Int)
               ·rw [if_pos c52] at H
                have c52b0 : decide ((ji50) < (t206.length : Int)) = true := decide_eq_true c52
                clear c52
                have H' := Aside0.mk H
                clear H
                go_wp2_with (first | ((with_reducible refine gate_callee (f := 49) rfl ?_); refine goesL_ (some 84) rfl rfl Tryd.func49 kx rfl #[.slice A1 l1.length c1, .int .i64 x13_3, .int .i64 x15_3] rfl aa ?_; (with_reducible refine (forecast_Year.calls k3 _ _ l1 x13_3 x15_3 t206 t207 _ ?side1 ?side2 A47.out).mono ?_); (case side1 => exact kc (Kd.C_below HR1.out HB.out)); (case side2 => exact HC1.out); rintro e w53 ⟨v208, rfl, ho0, hb⟩; refine ⟨_, rfl, ?_⟩; have n0_ := Aside0.mk (Kd.R_elder' (by (with_reducible repeat (first | apply Kd.R_alloc | apply Kd.R_drewN | apply Kd.R_drew)); exact HO_205002.out) (Kd.R_base ho0) hb); have n1_ := Aside0.mk (Kd.R_lower (Kd.R_new' ho0 (Kd.R_lt (by (with_reducible repeat (first | apply Kd.R_alloc | apply Kd.R_drewN | apply Kd.R_drew)); exact HO_205002.out))) (below_size be)); have n2_ := bb BK197 hb; have n3_ := bb BK198 hb; have n4_ := bb BK204 hb; have n5_ := Aside0.mk (below_step be hb); clear HO_205002; clear BK197; clear BK198; clear BK204; clear HB; have HO_205002 := n0_; have HO209 := n1_; have BK197 := n2_; have BK198 := n3_; have BK204 := n4_; have HB := n5_; clear n0_ n1_ n2_ n3_ n4_ n5_; (try clear hb); (try clear hb2); (try clear hk); (try clear hi); (try clear ho0); have hnb54 := NB204_197.out; have hnc54 := NB197_204.out; have hnb55 := NB204_198.out; have hnc55 := NB198_204.out; obtain ⟨hcz56_0, hcz56_1, hcz56_2, hfz56_0, hfz56_1, hfz56_2⟩ := bc3 BK204; obtain ⟨Ao58, co58, eo58⟩ := Kd.R_slice HO209.out; subst eo58) | ((with_reducible refine gate_builtin (b := .append) (xs := #[.tmp 92, .tmp 93]) rfl ?_); at_builtin; refine Kd.R_append_rows k43 (w0 := w) w.heap.size rfl (.tmp 92) (.tmp 93) 22 43 (.agg #[(.int .i64 0), (.int .i64 0), (.string ⟨#[]⟩)]) 32 rfl Tryd.underlying22 info43 rfl (by decide) (by omega) u205002 x205002_3 t206 _ _ _ (fun k_ => some k_ ≠ (.slice Ao58 t206.length co58 : Value).ownBlock) (fun _ => False) rfl rfl ?aO ?aR (fun _ _ h => h) (fun _ h => h.elim) ?aF ?aB ?aS ?aL ?_; (case aR => repeat (first | exact (Kd.R_reads' HO209.out).2.2 | (with_reducible refine Kd.C_alloc ?_ _) | (with_reducible refine Kd.C_drewN ?_ _) | (with_reducible refine Kd.C_drew ?_))); (case aB => exact be); (case aF => exact (fun k_ hk => Kd.fresh' (Kd.R_lt (by (with_reducible repeat (first | apply Kd.R_alloc | apply Kd.R_drewN | apply Kd.R_drew)); exact HO209.out)) k_ hk)); (case aO => exact (by (with_reducible repeat (first | apply Kd.R_alloc | apply Kd.R_drewN | apply Kd.R_drew)); exact Kd.R_mono HO_205002.out (fun _ hk => hk.2))); (case aS => exact (below_size be)); (case aL => have := LMc49.out; omega); intro v211 w57 ho hb hg hat; rw [← Ny210.out] at ho; have n0_ := Aside0.mk (blk_grown (g := gb197) (o := .cells #[.string a0_0, .int .i64 a0_1, .slice A0_2 l0_2.length c0_2] 24 (0, 0)) (bk BK197) hg (Kd.R_ne HO_205002.out BK197.out (by decide))); have n1_ := Aside0.mk (blk_grown (g := gb198) (o := .cells #[.string x199000_3, .int .i64 x199001_3, .slice none 0 0] 24 (0, 0)) (bk BK198) hg (Kd.R_ne HO_205002.out BK198.out (by decide))); have n2_ := Aside0.mk (blk_grown (g := gb204) (o := .cells #[.string a0_0, .int .i64 a0_1, u205002] 24 (0, 0)) (bk BK204) hg (Kd.R_ne HO_205002.out BK204.out (by decide))); have n3_ := Aside0.mk (Kd.R_after (ok := (fun _ => True)) (by (with_reducible repeat (first | apply Kd.R_alloc | apply Kd.R_drewN | apply Kd.R_drew)); exact HO209.out) hg hat); have n4_ := Aside0.mk (hb); have n5_ := Aside0.mk (ho); clear BK197; clear BK198; clear BK204; clear HO209; clear HB; clear HO_205002; have BK197 := n0_; have BK198 := n1_; have BK204 := n2_; have HO209 := n3_; have HB := n4_; have HO212 := n5_; clear n0_ n1_ n2_ n3_ n4_ n5_; clear ho hb hg hat; obtain ⟨Ao59, co59, eo59⟩ := Kd.R_slice HO212.out; subst eo59; obtain ⟨hcz60_0, hcz60_1, hcz60_2, hfz60_0, hfz60_1, hfz60_2⟩ := bc3 BK204; have p213 : 0 ≤ ((ji50) : Int) := of_decide_eq_true ka; have q213 : (ji50) < (t206.length : Int) := of_decide_eq_true ka; obtain ⟨ad213, e213, hx213_0, hx213_1, hx213_2⟩ := at_T43 (Kd.R_reads' HO209.out).2.2 (ji50) p213 q213; cases e213; have hn213_0 : ad213.block ≠ gb204 := Kd.own_blk (Kd.R_ne HO209.out BK204.out (by decide)); replace hx213_0 := (cell_far (p := ⟨gb204, 2, none⟩) (by first | (rw [add_block]; exact hn213_0) | (show (Addr.add _ _).block ≠ _; rw [add_block]; exact hn213_0) | exact hn213_0) (.slice Ao59 y210.length co59)).trans hx213_0; replace hx213_1 := (cell_far (p := ⟨gb204, 2, none⟩) (by first | (rw [add_block]; exact hn213_0) | (show (Addr.add _ _).block ≠ _; rw [add_block]; exact hn213_0) | exact hn213_0) (.slice Ao59 y210.length co59)).trans hx213_1; replace hx213_2 := (cell_far (p := ⟨gb204, 2, none⟩) (by first | (rw [add_block]; exact hn213_0) | (show (Addr.add _ _).block ≠ _; rw [add_block]; exact hn213_0) | exact hn213_0) (.slice Ao59 y210.length co59)).trans hx213_2; clear hn213_0; replace p213 := eq_true p213; replace q213 := eq_true q213))
                go_roundg k3
                case measure => have := HJ8.out; have := HJ25.out; have := HK3.out; omega
                case rel => exact ⟨((rd_T43 t206 (ji50)).f1), (wrap64 (x15_3 + 1)), (x199000_3), (x199001_3), (y210), (.slice Ao59 y210.length co59), (by first | rfl | (simp; done) | (simp only [← hji50] <;> (first | rfl | simp)) | (simp [*]; done)), rs, H', ⟨by have := HJ8.out; have := HJ25.out; have := HK3.out; omega⟩, ⟨by (with_reducible repeat (first | apply Kd.R_alloc | apply Kd.R_drewN | apply Kd.R_drew)); exact Kd.R_mono (Kd.R_far (p := ⟨gb204, 2, none⟩) (Kd.R_types HO212.out BK204.out (by decide)) (fun _ hk => hk.2) (.slice Ao59 y210.length co59)) (fun _ hk => trivial)⟩, ⟨bk BK197⟩, ⟨bk BK198⟩, ⟨bk BK204⟩, ⟨be⟩⟩
               ·rw [if_neg c52] at H
                exact absurd H (by simp)
              ·rw [if_neg c51] at H
               exact absurd H (by simp)
             ·rw [if_neg c49] at H
              exact absurd H (by simp)
            ·rw [if_neg c48] at H
             have c48b0 : (t207 == 0) = false := beq_eq_false_iff_ne.mpr c48
             have c48b1 : (t207 != 0) = true := bne_iff_ne.mpr c48
             simp only [Option.some.injEq, Prod.mk.injEq] at H
             obtain ⟨rfl, rfl, rfl, rfl⟩ := H
             go_wp2_with (first | ((with_reducible refine gate_callee (f := 49) rfl ?_); refine goesL_ (some 84) rfl rfl Tryd.func49 kx rfl #[.slice A1 l1.length c1, .int .i64 x13_3, .int .i64 x15_3] rfl aa ?_; (with_reducible refine (forecast_Year.calls k3 _ _ l1 x13_3 x15_3 t206 t207 _ ?side1 ?side2 A47.out).mono ?_); (case side1 => exact kc (Kd.C_below HR1.out HB.out)); (case side2 => exact HC1.out); rintro e w61 ⟨v208, rfl, ho0, hb⟩; refine ⟨_, rfl, ?_⟩; have n0_ := Aside0.mk (Kd.R_elder' (by (with_reducible repeat (first | apply Kd.R_alloc | apply Kd.R_drewN | apply Kd.R_drew)); exact HO_205002.out) (Kd.R_base ho0) hb); have n1_ := Aside0.mk (Kd.R_lower (Kd.R_new' ho0 (Kd.R_lt (by (with_reducible repeat (first | apply Kd.R_alloc | apply Kd.R_drewN | apply Kd.R_drew)); exact HO_205002.out))) (below_size be)); have n2_ := bb BK197 hb; have n3_ := bb BK198 hb; have n4_ := bb BK204 hb; have n5_ := Aside0.mk (below_step be hb); clear HO_205002; clear BK197; clear BK198; clear BK204; clear HB; have HO_205002 := n0_; have HO209 := n1_; have BK197 := n2_; have BK198 := n3_; have BK204 := n4_; have HB := n5_; clear n0_ n1_ n2_ n3_ n4_ n5_; (try clear hb); (try clear hb2); (try clear hk); (try clear hi); (try clear ho0); have hnb62 := NB198_197.out; have hnc62 := NB197_198.out; have hnb63 := NB198_204.out; have hnc63 := NB204_198.out; obtain ⟨hcz64_0, hcz64_1, hcz64_2, hfz64_0, hfz64_1, hfz64_2⟩ := bc3 BK198))
             refine bodyPost_ret (results_ct rfl _ _ gb198 24 #[.string (⟨#[]⟩ : ByteArray), .int .i64 0, .slice none 0 0] (0, 0) _ rfl (bk BK198) Tryd.underlying24 rfl kx) rfl ?_
             exact ⟨_, by first | rfl | (simp [errW_none, errW_some] <;> rfl) | (simp [*, errW_none, errW_some] <;> rfl), by first | exact Kd.R_nil _ _ _ _ _ | exact Kd.N_nil _ _ _ _ _ | exact Kd.V_nil _ _ _ _ _ | exact Kd.Q_nil _ _ _ _ _ | exact Kd.S_nil _ _ _ _ _, be⟩
           ·rw [if_neg c46] at H
            have c46b0 : decide (x15_3 ≤ a3) = false := decide_eq_false c46
            clear c46
            replace H := Option.bind_eq_some_iff.mp H
            obtain ⟨t214, A650, H⟩ := H
            replace H : (if t214 = 0 then (some (a0_0, a0_1, x205002_3, 0)) else (some ((⟨#[]⟩ : ByteArray), 0, ([] : List (S43)), t214))) = some (r1, r2, r3, r4) := H
            have A65 := Aside0.mk A650
            clear A650
            by_cases c66 : t214 = 0
            ·rw [if_pos c66] at H
             have c66b0 : (t214 == 0) = true := beq_iff_eq.mpr c66
             have c66b1 : (t214 != 0) = false := bne_eq_false_iff_eq.mpr c66
             clear c66
             simp only [Option.some.injEq, Prod.mk.injEq] at H
             obtain ⟨rfl, rfl, rfl, rfl⟩ := H
             have hnb67 := NB204_197.out
             have hnc67 := NB197_204.out
             have hnb68 := NB204_198.out
             have hnc68 := NB198_204.out
             obtain ⟨hcz69_0, hcz69_1, hcz69_2, hfz69_0, hfz69_1, hfz69_2⟩ := bc3 BK204
             obtain ⟨Ao70, co70, eo70⟩ := Kd.R_slice HO_205002.out
             subst eo70
             go_wp2_with (first | ((with_reducible refine gate_callee (f := 40) rfl ?_); refine goesL_ (some 104) rfl rfl Tryd.func40 kx rfl #[.agg #[.string a0_0, .int .i64 a0_1, .slice Ao70 x205002_3.length co70]] rfl aa ?_; (with_reducible refine (zone_Check.calls k3 a0_0 a0_1 _ _ x205002_3 t214 _ ?side1 ?side2 A65.out).mono ?_); (case side1 => repeat (first | exact (Kd.R_reads' HO_205002.out).2.2 | (with_reducible refine Kd.C_alloc ?_ _) | (with_reducible refine Kd.C_drewN ?_ _) | (with_reducible refine Kd.C_drew ?_))); (case side2 => exact (Kd.R_reads' HO_205002.out).2.1); rintro e w71 ⟨rfl, hb⟩; refine ⟨_, rfl, ?_⟩; have n0_ := Aside0.mk (Kd.R_below (by (with_reducible repeat (first | apply Kd.R_alloc | apply Kd.R_drewN | apply Kd.R_drew)); exact HO_205002.out) hb); have n1_ := bb BK197 hb; have n2_ := bb BK198 hb; have n3_ := bb BK204 hb; have n4_ := Aside0.mk (below_step be hb); clear HO_205002; clear BK197; clear BK198; clear BK204; clear HB; have HO_205002 := n0_; have BK197 := n1_; have BK198 := n2_; have BK204 := n3_; have HB := n4_; clear n0_ n1_ n2_ n3_ n4_; (try clear hb); (try clear hb2); (try clear hk); (try clear hi); obtain ⟨hcz72_0, hcz72_1, hcz72_2, hfz72_0, hfz72_1, hfz72_2⟩ := bc3 BK204; have hnb73 := NB198_197.out; have hnc73 := NB197_198.out; obtain ⟨hcz74_0, hcz74_1, hcz74_2, hfz74_0, hfz74_1, hfz74_2⟩ := bc3 BK198))
             refine bodyPost_ret (results_ct rfl _ _ gb198 24 #[.string a0_0, .int .i64 a0_1, .slice Ao70 x205002_3.length co70] (0, 0) _ rfl (bk BK198) Tryd.underlying24 rfl kx) rfl ?_
             exact ⟨_, by first | rfl | (simp [errW_none, errW_some] <;> rfl) | (simp [*, errW_none, errW_some] <;> rfl), by (with_reducible repeat (first | apply Kd.R_alloc | apply Kd.R_drewN | apply Kd.R_drew)); exact Kd.R_mono (Kd.R_far (p := ⟨gb198, 2, none⟩) (Kd.R_far (p := ⟨gb198, 1, none⟩) (Kd.R_far (p := ⟨gb198, 0, none⟩) (Kd.R_types HO_205002.out BK198.out (by decide)) (fun _ hk => hk.2) (.string a0_0)) (fun _ hk => hk.2) (.int .i64 a0_1)) (fun _ hk => hk.2) (.slice Ao70 x205002_3.length co70)) (fun _ hk => trivial), be⟩
            ·rw [if_neg c66] at H
             have c66b0 : (t214 == 0) = false := beq_eq_false_iff_ne.mpr c66
             have c66b1 : (t214 != 0) = true := bne_iff_ne.mpr c66
             simp only [Option.some.injEq, Prod.mk.injEq] at H
             obtain ⟨rfl, rfl, rfl, rfl⟩ := H
             have hnb75 := NB204_197.out
             have hnc75 := NB197_204.out
             have hnb76 := NB204_198.out
             have hnc76 := NB198_204.out
             obtain ⟨hcz77_0, hcz77_1, hcz77_2, hfz77_0, hfz77_1, hfz77_2⟩ := bc3 BK204
             obtain ⟨Ao78, co78, eo78⟩ := Kd.R_slice HO_205002.out
             subst eo78
             go_wp2_with (first | ((with_reducible refine gate_callee (f := 40) rfl ?_); refine goesL_ (some 104) rfl rfl Tryd.func40 kx rfl #[.agg #[.string a0_0, .int .i64 a0_1, .slice Ao78 x205002_3.length co78]] rfl aa ?_; (with_reducible refine (zone_Check.calls k3 a0_0 a0_1 _ _ x205002_3 t214 _ ?side1 ?side2 A65.out).mono ?_); (case side1 => repeat (first | exact (Kd.R_reads' HO_205002.out).2.2 | (with_reducible refine Kd.C_alloc ?_ _) | (with_reducible refine Kd.C_drewN ?_ _) | (with_reducible refine Kd.C_drew ?_))); (case side2 => exact (Kd.R_reads' HO_205002.out).2.1); rintro e w79 ⟨rfl, hb⟩; refine ⟨_, rfl, ?_⟩; have n0_ := Aside0.mk (Kd.R_below (by (with_reducible repeat (first | apply Kd.R_alloc | apply Kd.R_drewN | apply Kd.R_drew)); exact HO_205002.out) hb); have n1_ := bb BK197 hb; have n2_ := bb BK198 hb; have n3_ := bb BK204 hb; have n4_ := Aside0.mk (below_step be hb); clear HO_205002; clear BK197; clear BK198; clear BK204; clear HB; have HO_205002 := n0_; have BK197 := n1_; have BK198 := n2_; have BK204 := n3_; have HB := n4_; clear n0_ n1_ n2_ n3_ n4_; (try clear hb); (try clear hb2); (try clear hk); (try clear hi); have hnb80 := NB198_197.out; have hnc80 := NB197_198.out; obtain ⟨hcz81_0, hcz81_1, hcz81_2, hfz81_0, hfz81_1, hfz81_2⟩ := bc3 BK198))
             refine bodyPost_ret (results_ct rfl _ _ gb198 24 #[.string (⟨#[]⟩ : ByteArray), .int .i64 0, .slice none 0 0] (0, 0) _ rfl (bk BK198) Tryd.underlying24 rfl kx) rfl ?_
             exact ⟨_, by first | rfl | (simp [errW_none, errW_some] <;> rfl) | (simp [*, errW_none, errW_some] <;> rfl), by first | exact Kd.R_nil _ _ _ _ _ | exact Kd.N_nil _ _ _ _ _ | exact Kd.V_nil _ _ _ _ _ | exact Kd.Q_nil _ _ _ _ _ | exact Kd.S_nil _ _ _ _ _, be⟩
  ·rw [if_neg c8] at H
   have c8b0 : (t200 == 0) = false := beq_eq_false_iff_ne.mpr c8
   have c8b1 : (t200 != 0) = true := bne_iff_ne.mpr c8
   simp only [Option.some.injEq, Prod.mk.injEq] at H
   obtain ⟨rfl, rfl, rfl, rfl⟩ := H
   go_enter Tryd.func18, Tryd.ntmps18
   go_wp2_with (first | ((with_reducible refine gate_dst (N := 4) rfl ?_); refine box_event ?hg (N := 4) ?hd (cs := #[.string a0_0, .int .i64 a0_1, .slice A0_2 l0_2.length c0_2]) (t := 24) ?hr ?_; (case hd => rfl); (case hg => rfl); (case hr => first | (go_simp; done) | (go_simp; rfl)); intro gb197 hg w82 hbox hb; have n0_ := Aside0.mk (below_step be hb); have n1_ := Aside0.mk (hbox); have n2_ := gs hg HB; have n3_ := n2_; clear HB; have HB := n0_; have BK197 := n1_; have GW197 := n2_; have GE197 := n3_; clear n0_ n1_ n2_ n3_; clear hb hbox hg) | ((with_reducible refine gate_dst (N := 8) rfl ?_); refine box_event ?hg (N := 8) ?hd (cs := #[.string (⟨#[]⟩ : ByteArray), .int .i64 0, .slice none 0 0]) (t := 24) ?hr ?_; (case hd => rfl); (case hg => rfl); (case hr => first | (go_simp; done) | (go_simp; rfl)); intro gb198 hg w83 hbox hb; have n0_ := bb BK197 hb; have n1_ := Aside0.mk (below_step be hb); have n2_ := Aside0.mk (hbox); have n3_ := gs hg HB; have n4_ := n3_; have n5_ := nl BK197 hg; have n6_ := ns n5_; clear BK197; clear HB; have BK197 := n0_; have HB := n1_; have BK198 := n2_; have GW198 := n3_; have GE198 := n4_; have NB197_198 := n5_; have NB198_197 := n6_; clear n0_ n1_ n2_ n3_ n4_ n5_ n6_; clear hb hbox hg) | ((with_reducible refine gate_callee (f := 47) rfl ?_); refine goesL_ (some 20) rfl rfl Tryd.func47 kx rfl #[.slice A1 l1.length c1] rfl aa ?_; (with_reducible refine (forecast_Check.calls k _ _ l1 t199 _ ?side1 ?side2 A5.out).mono ?_); (case side1 => exact kc (Kd.C_below HR1.out HB.out)); (case side2 => exact HC1.out); rintro e w84 ⟨rfl, hb⟩; refine ⟨_, rfl, ?_⟩; have n0_ := bb BK197 hb; have n1_ := bb BK198 hb; have n2_ := Aside0.mk (below_step be hb); clear BK197; clear BK198; clear HB; have BK197 := n0_; have BK198 := n1_; have HB := n2_; clear n0_ n1_ n2_; (try clear hb); (try clear hb2); (try clear hk); (try clear hi); have hnb85 := NB197_198.out; have hnc85 := NB198_197.out; obtain ⟨hcz86_0, hcz86_1, hcz86_2, hfz86_0, hfz86_1, hfz86_2⟩ := bc3 BK197) | ((with_reducible refine gate_callee (f := 40) rfl ?_); refine goesL_ (some 26) rfl rfl Tryd.func40 kx rfl #[.agg #[.string a0_0, .int .i64 a0_1, .slice A0_2 l0_2.length c0_2]] rfl aa ?_; (with_reducible refine (zone_Check.calls k a0_0 a0_1 _ _ l0_2 t200 _ ?side1 ?side2 A7.out).mono ?_); (case side1 => exact kc (Kd.C_below HR0_2.out HB.out)); (case side2 => exact HC0_2.out); rintro e w87 ⟨rfl, hb⟩; refine ⟨_, rfl, ?_⟩; have n0_ := bb BK197 hb; have n1_ := bb BK198 hb; have n2_ := Aside0.mk (below_step be hb); clear BK197; clear BK198; clear HB; have BK197 := n0_; have BK198 := n1_; have HB := n2_; clear n0_ n1_ n2_; (try clear hb); (try clear hb2); (try clear hk); (try clear hi); obtain ⟨hcz88_0, hcz88_1, hcz88_2, hfz88_0, hfz88_1, hfz88_2⟩ := bc3 BK198))
   refine bodyPost_ret (results_ct rfl _ _ gb198 24 #[.string (⟨#[]⟩ : ByteArray), .int .i64 0, .slice none 0 0] (0, 0) _ rfl (bk BK198) Tryd.underlying24 rfl kx) rfl ?_
   exact ⟨_, by first | rfl | (simp [errW_none, errW_some] <;> rfl) | (simp [*, errW_none, errW_some] <;> rfl), by first | exact Kd.R_nil _ _ _ _ _ | exact Kd.N_nil _ _ _ _ _ | exact Kd.V_nil _ _ _ _ _ | exact Kd.Q_nil _ _ _ _ _ | exact Kd.S_nil _ _ _ _ _, be⟩
 ·rw [if_neg c6] at H
  have c6b0 : (t199 == 0) = false := beq_eq_false_iff_ne.mpr c6
  have c6b1 : (t199 != 0) = true := bne_iff_ne.mpr c6
  simp only [Option.some.injEq, Prod.mk.injEq] at H
  obtain ⟨rfl, rfl, rfl, rfl⟩ := H
  go_enter Tryd.func18, Tryd.ntmps18
  go_wp2_with (first | ((with_reducible refine gate_dst (N := 4) rfl ?_); refine box_event ?hg (N := 4) ?hd (cs := #[.string a0_0, .int .i64 a0_1, .slice A0_2 l0_2.length c0_2]) (t := 24) ?hr ?_; (case hd => rfl); (case hg => rfl); (case hr => first | (go_simp; done) | (go_simp; rfl)); intro gb197 hg w89 hbox hb; have n0_ := Aside0.mk (below_step be hb); have n1_ := Aside0.mk (hbox); have n2_ := gs hg HB; have n3_ := n2_; clear HB; have HB := n0_; have BK197 := n1_; have GW197 := n2_; have GE197 := n3_; clear n0_ n1_ n2_ n3_; clear hb hbox hg) | ((with_reducible refine gate_dst (N := 8) rfl ?_); refine box_event ?hg (N := 8) ?hd (cs := #[.string (⟨#[]⟩ : ByteArray), .int .i64 0, .slice none 0 0]) (t := 24) ?hr ?_; (case hd => rfl); (case hg => rfl); (case hr => first | (go_simp; done) | (go_simp; rfl)); intro gb198 hg w90 hbox hb; have n0_ := bb BK197 hb; have n1_ := Aside0.mk (below_step be hb); have n2_ := Aside0.mk (hbox); have n3_ := gs hg HB; have n4_ := n3_; have n5_ := nl BK197 hg; have n6_ := ns n5_; clear BK197; clear HB; have BK197 := n0_; have HB := n1_; have BK198 := n2_; have GW198 := n3_; have GE198 := n4_; have NB197_198 := n5_; have NB198_197 := n6_; clear n0_ n1_ n2_ n3_ n4_ n5_ n6_; clear hb hbox hg) | ((with_reducible refine gate_callee (f := 47) rfl ?_); refine goesL_ (some 20) rfl rfl Tryd.func47 kx rfl #[.slice A1 l1.length c1] rfl aa ?_; (with_reducible refine (forecast_Check.calls k _ _ l1 t199 _ ?side1 ?side2 A5.out).mono ?_); (case side1 => exact kc (Kd.C_below HR1.out HB.out)); (case side2 => exact HC1.out); rintro e w91 ⟨rfl, hb⟩; refine ⟨_, rfl, ?_⟩; have n0_ := bb BK197 hb; have n1_ := bb BK198 hb; have n2_ := Aside0.mk (below_step be hb); clear BK197; clear BK198; clear HB; have BK197 := n0_; have BK198 := n1_; have HB := n2_; clear n0_ n1_ n2_; (try clear hb); (try clear hb2); (try clear hk); (try clear hi); have hnb92 := NB198_197.out; have hnc92 := NB197_198.out; obtain ⟨hcz93_0, hcz93_1, hcz93_2, hfz93_0, hfz93_1, hfz93_2⟩ := bc3 BK198))
  refine bodyPost_ret (results_ct rfl _ _ gb198 24 #[.string (⟨#[]⟩ : ByteArray), .int .i64 0, .slice none 0 0] (0, 0) _ rfl (bk BK198) Tryd.underlying24 rfl kx) rfl ?_
  exact ⟨_, by first | rfl | (simp [errW_none, errW_some] <;> rfl) | (simp [*, errW_none, errW_some] <;> rfl), by first | exact Kd.R_nil _ _ _ _ _ | exact Kd.N_nil _ _ _ _ _ | exact Kd.V_nil _ _ _ _ _ | exact Kd.Q_nil _ _ _ _ _ | exact Kd.S_nil _ _ _ _ _, be⟩

end Go.Proofs.YtolhlaadhfilnaaDoor.PForecastExtends
