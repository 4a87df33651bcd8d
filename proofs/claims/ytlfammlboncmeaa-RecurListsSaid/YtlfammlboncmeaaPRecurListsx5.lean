/- The walks of the functions of this part, laid closer by a program of mine. -/
-- The walks of the law's functions, told by a program.
import Derived.Test.YtlfammlboncmeaaY
import Derived.Test.YtlfammlboncmeaaPRecurListsx0
import Derived.Test.YtlfammlboncmeaaPRecurListsx1
import Derived.Test.YtlfammlboncmeaaPRecurListsx3
import Derived.Test.YtlfammlboncmeaaPRecurListsx4
namespace Go.Proofs.Ytlfammlboncmeaa.PRecurLists
open Go.RowKit Go.Proofs.YtlfammlboncmeaaW.PrintWords Go.Proofs.YtlfammlboncmeaaW.PrintLast Go.Proofs.YtlfammlboncmeaaW.PrintMore Go.Proofs.Ytlfammlboncmeaa.Y
attribute [local go_sem] max2_int min2_int max_two min_two max_three min_three max_four min_four   -- for this text's walks alone
set_option linter.unusedVariables false
set_option linter.unusedSimpArgs false

/-! ### recur_fits: function 59 -/
mutual
def recur_fits.j0 : Nat → Int → Int → Bool → Int → Int → Int → Int → Int → List Int → List Int → List Int → Int → Int → Int → Int → Int → Int → Option (Bool)
 | 0, _, _, _, _, _, _, _, _, _, _, _, _, _, _, _, _, _ => none
 | k + 1, x3, x4, x21, x172000, x172001, x172002, x172003, x172004, x172005, x172006, x172007, x173000, x173001, x173002, x174000, x174001, x174002 => if x21 = true then (some false) else (if x172000 = 1 then (recur_fits.j1 k x3 x4 (wrap64 (x3 - x172002)) x172000 x172001 x172002 x172003 x172004 x172005 x172006 x172007 x174000 x174001 x174002) else (if x172000 = 2 then ((recur_week.f k x3).bind fun t174 => ((recur_week.f k x172002).bind fun t175 => (recur_fits.j1 k x3 x4 (wrap64 (t174 - t175)) x172000 x172001 x172002 x172003 x172004 x172005 x172006 x172007 x174000 x174001 x174002))) else (if x172000 = 3 then (recur_fits.j1 k x3 x4 (wrap64 ((wrap64 ((wrap64 (12 * (wrap64 (x174000 - x173000)))) + x174001)) - x173001)) x172000 x172001 x172002 x172003 x172004 x172005 x172006 x172007 x174000 x174001 x174002) else (if x172000 = 4 then (recur_fits.j1 k x3 x4 (wrap64 (x174000 - x173000)) x172000 x172001 x172002 x172003 x172004 x172005 x172006 x172007 x174000 x174001 x174002) else (recur_fits.j1 k x3 x4 0 x172000 x172001 x172002 x172003 x172004 x172005 x172006 x172007 x174000 x174001 x174002)))))
def recur_fits.j1 : Nat → Int → Int → Int → Int → Int → Int → Int → Int → List Int → List Int → List Int → Int → Int → Int → Option (Bool)
 | 0, _, _, _, _, _, _, _, _, _, _, _, _, _, _ => none
 | k + 1, x3, x4, x11, x172000, x172001, x172002, x172003, x172004, x172005, x172006, x172007, x174000, x174001, x174002 => if x172001 = 0 then (none) else (if (Int.tmod x11 x172001) = 0 then (if (x172007.length : Int) > 0 then ((slices_Contains_int_int.f k x172007 x174001).bind fun t176 => (recur_fits.j2 k x3 x4 (!t176) x172000 x172001 x172002 x172003 x172004 x172005 x172006 x172007 x174000 x174001 x174002)) else (recur_fits.j2 k x3 x4 false x172000 x172001 x172002 x172003 x172004 x172005 x172006 x172007 x174000 x174001 x174002)) else (some false))
def recur_fits.j2 : Nat → Int → Int → Bool → Int → Int → Int → Int → Int → List Int → List Int → List Int → Int → Int → Int → Option (Bool)
 | 0, _, _, _, _, _, _, _, _, _, _, _, _, _, _ => none
 | k + 1, x3, x4, x75, x172000, x172001, x172002, x172003, x172004, x172005, x172006, x172007, x174000, x174001, x174002 => if x75 = true then (some false) else (if (x172005.length : Int) > 0 then ((whole_Mod.f (wrap64 (x3 - 1)) 7).bind fun t177 => ((slices_Contains_int_int.f k x172005 t177).bind fun t178 => (recur_fits.j3 k x4 (!t178) x172000 x172001 x172002 x172003 x172004 x172005 x172006 x172007 x174000 x174001 x174002))) else (recur_fits.j3 k x4 false x172000 x172001 x172002 x172003 x172004 x172005 x172006 x172007 x174000 x174001 x174002))
def recur_fits.j3 : Nat → Int → Bool → Int → Int → Int → Int → Int → List Int → List Int → List Int → Int → Int → Int → Option (Bool)
 | 0, _, _, _, _, _, _, _, _, _, _, _, _, _ => none
 | k + 1, x4, x88, x172000, x172001, x172002, x172003, x172004, x172005, x172006, x172007, x174000, x174001, x174002 => if x88 = true then (some false) else (if (x172006.length : Int) = 0 then (some true) else ((slices_Contains_int_int.f k x172006 x174002).bind fun t179 => (if t179 = true then (some true) else ((slices_Contains_int_int.f k x172006 (wrap64 ((wrap64 (x174002 - x4)) - 1))).bind fun t180 => (some t180)))))
end
def recur_fits.f (k : Nat) (a0_0 : Int) (a0_1 : Int) (a0_2 : Int) (a0_3 : Int) (a0_4 : Int) (l0_5 : List Int) (l0_6 : List Int) (l0_7 : List Int) (a1_0 : Int) (a1_1 : Int) (a1_2 : Int) (a2_0 : Int) (a2_1 : Int) (a2_2 : Int) (a3 : Int) (a4 : Int) : Option (Bool) := if a3 < a0_2 then (recur_fits.j0 k a3 a4 true a0_0 a0_1 a0_2 a0_3 a0_4 l0_5 l0_6 l0_7 a1_0 a1_1 a1_2 a2_0 a2_1 a2_2) else (recur_fits.j0 k a3 a4 (decide (a3 > a0_4)) a0_0 a0_1 a0_2 a0_3 a0_4 l0_5 l0_6 l0_7 a1_0 a1_1 a1_2 a2_0 a2_1 a2_2)
theorem recur_fits.mono_l : ∀ k, (∀ y0 y1 y2 y3 y4 y5 y6 y7 y8 y9 y10 y11 y12 y13 y14 y15 y16, LeO (recur_fits.j0 k y0 y1 y2 y3 y4 y5 y6 y7 y8 y9 y10 y11 y12 y13 y14 y15 y16) (recur_fits.j0 (k + 1) y0 y1 y2 y3 y4 y5 y6 y7 y8 y9 y10 y11 y12 y13 y14 y15 y16)) ∧ (∀ y0 y1 y2 y3 y4 y5 y6 y7 y8 y9 y10 y11 y12 y13, LeO (recur_fits.j1 k y0 y1 y2 y3 y4 y5 y6 y7 y8 y9 y10 y11 y12 y13) (recur_fits.j1 (k + 1) y0 y1 y2 y3 y4 y5 y6 y7 y8 y9 y10 y11 y12 y13)) ∧ (∀ y0 y1 y2 y3 y4 y5 y6 y7 y8 y9 y10 y11 y12 y13, LeO (recur_fits.j2 k y0 y1 y2 y3 y4 y5 y6 y7 y8 y9 y10 y11 y12 y13) (recur_fits.j2 (k + 1) y0 y1 y2 y3 y4 y5 y6 y7 y8 y9 y10 y11 y12 y13)) ∧ (∀ y0 y1 y2 y3 y4 y5 y6 y7 y8 y9 y10 y11 y12, LeO (recur_fits.j3 k y0 y1 y2 y3 y4 y5 y6 y7 y8 y9 y10 y11 y12) (recur_fits.j3 (k + 1) y0 y1 y2 y3 y4 y5 y6 y7 y8 y9 y10 y11 y12))
 | 0 => ⟨fun _ _ _ _ _ _ _ _ _ _ _ _ _ _ _ _ _ r h => by simp [recur_fits.j0] at h, fun _ _ _ _ _ _ _ _ _ _ _ _ _ _ r h => by simp [recur_fits.j1] at h, fun _ _ _ _ _ _ _ _ _ _ _ _ _ _ r h => by simp [recur_fits.j2] at h, fun _ _ _ _ _ _ _ _ _ _ _ _ _ r h => by simp [recur_fits.j3] at h⟩
 | k + 1 => by
  obtain ⟨ih0, ih1, ih2, ih3⟩ := recur_fits.mono_l k
  refine ⟨?_, ?_, ?_, ?_⟩
  ·intro y0 y1 y2 y3 y4 y5 y6 y7 y8 y9 y10 y11 y12 y13 y14 y15 y16
   unfold recur_fits.j0
   repeat' first
   | (with_reducible exact ih0 _ _ _ _ _ _ _ _ _ _ _ _ _ _ _ _ _)
   | (with_reducible exact ih1 _ _ _ _ _ _ _ _ _ _ _ _ _ _)
   | (with_reducible exact ih2 _ _ _ _ _ _ _ _ _ _ _ _ _ _)
   | (with_reducible exact ih3 _ _ _ _ _ _ _ _ _ _ _ _ _)
   | (with_reducible exact recur_week.mono _ _)
   | (with_reducible exact slices_Contains_int_int.mono _ _ _)
   | (with_reducible exact LeO.refl _)
   | (with_reducible exact LeO.none _)
   | (with_reducible refine LeO.ite ?_ ?_)
   | (with_reducible refine LeO.bind ?_ (fun _ => ?_))
   | exact ih0 _ _ _ _ _ _ _ _ _ _ _ _ _ _ _ _ _
   | exact ih1 _ _ _ _ _ _ _ _ _ _ _ _ _ _
   | exact ih2 _ _ _ _ _ _ _ _ _ _ _ _ _ _
   | exact ih3 _ _ _ _ _ _ _ _ _ _ _ _ _
   | exact recur_week.mono _ _
   | exact slices_Contains_int_int.mono _ _ _
   | exact LeO.none _
   | refine LeO.ite ?_ ?_
   | refine LeO.bind ?_ (fun _ => ?_)
  ·intro y0 y1 y2 y3 y4 y5 y6 y7 y8 y9 y10 y11 y12 y13
   unfold recur_fits.j1
   repeat' first
   | (with_reducible exact ih0 _ _ _ _ _ _ _ _ _ _ _ _ _ _ _ _ _)
   | (with_reducible exact ih1 _ _ _ _ _ _ _ _ _ _ _ _ _ _)
   | (with_reducible exact ih2 _ _ _ _ _ _ _ _ _ _ _ _ _ _)
   | (with_reducible exact ih3 _ _ _ _ _ _ _ _ _ _ _ _ _)
   | (with_reducible exact recur_week.mono _ _)
   | (with_reducible exact slices_Contains_int_int.mono _ _ _)
   | (with_reducible exact LeO.refl _)
   | (with_reducible exact LeO.none _)
   | (with_reducible refine LeO.ite ?_ ?_)
   | (with_reducible refine LeO.bind ?_ (fun _ => ?_))
   | exact ih0 _ _ _ _ _ _ _ _ _ _ _ _ _ _ _ _ _
   | exact ih1 _ _ _ _ _ _ _ _ _ _ _ _ _ _
   | exact ih2 _ _ _ _ _ _ _ _ _ _ _ _ _ _
   | exact ih3 _ _ _ _ _ _ _ _ _ _ _ _ _
   | exact recur_week.mono _ _
   | exact slices_Contains_int_int.mono _ _ _
   | exact LeO.none _
   | refine LeO.ite ?_ ?_
   | refine LeO.bind ?_ (fun _ => ?_)
  ·intro y0 y1 y2 y3 y4 y5 y6 y7 y8 y9 y10 y11 y12 y13
   unfold recur_fits.j2
   repeat' first
   | (with_reducible exact ih0 _ _ _ _ _ _ _ _ _ _ _ _ _ _ _ _ _)
   | (with_reducible exact ih1 _ _ _ _ _ _ _ _ _ _ _ _ _ _)
   | (with_reducible exact ih2 _ _ _ _ _ _ _ _ _ _ _ _ _ _)
   | (with_reducible exact ih3 _ _ _ _ _ _ _ _ _ _ _ _ _)
   | (with_reducible exact recur_week.mono _ _)
   | (with_reducible exact slices_Contains_int_int.mono _ _ _)
   | (with_reducible exact LeO.refl _)
   | (with_reducible exact LeO.none _)
   | (with_reducible refine LeO.ite ?_ ?_)
   | (with_reducible refine LeO.bind ?_ (fun _ => ?_))
   | exact ih0 _ _ _ _ _ _ _ _ _ _ _ _ _ _ _ _ _
   | exact ih1 _ _ _ _ _ _ _ _ _ _ _ _ _ _
   | exact ih2 _ _ _ _ _ _ _ _ _ _ _ _ _ _
   | exact ih3 _ _ _ _ _ _ _ _ _ _ _ _ _
   | exact recur_week.mono _ _
   | exact slices_Contains_int_int.mono _ _ _
   | exact LeO.none _
   | refine LeO.ite ?_ ?_
   | refine LeO.bind ?_ (fun _ => ?_)
  ·intro y0 y1 y2 y3 y4 y5 y6 y7 y8 y9 y10 y11 y12
   unfold recur_fits.j3
   repeat' first
   | (with_reducible exact ih0 _ _ _ _ _ _ _ _ _ _ _ _ _ _ _ _ _)
   | (with_reducible exact ih1 _ _ _ _ _ _ _ _ _ _ _ _ _ _)
   | (with_reducible exact ih2 _ _ _ _ _ _ _ _ _ _ _ _ _ _)
   | (with_reducible exact ih3 _ _ _ _ _ _ _ _ _ _ _ _ _)
   | (with_reducible exact recur_week.mono _ _)
   | (with_reducible exact slices_Contains_int_int.mono _ _ _)
   | (with_reducible exact LeO.refl _)
   | (with_reducible exact LeO.none _)
   | (with_reducible refine LeO.ite ?_ ?_)
   | (with_reducible refine LeO.bind ?_ (fun _ => ?_))
   | exact ih0 _ _ _ _ _ _ _ _ _ _ _ _ _ _ _ _ _
   | exact ih1 _ _ _ _ _ _ _ _ _ _ _ _ _ _
   | exact ih2 _ _ _ _ _ _ _ _ _ _ _ _ _ _
   | exact ih3 _ _ _ _ _ _ _ _ _ _ _ _ _
   | exact recur_week.mono _ _
   | exact slices_Contains_int_int.mono _ _ _
   | exact LeO.none _
   | refine LeO.ite ?_ ?_
   | refine LeO.bind ?_ (fun _ => ?_)
theorem recur_fits.mono : ∀ a0 a1 a2 a3 a4 a5 a6 a7 a8 a9 a10 a11 a12 a13 a14 a15 k, LeO (recur_fits.f k a0 a1 a2 a3 a4 a5 a6 a7 a8 a9 a10 a11 a12 a13 a14 a15) (recur_fits.f (k + 1) a0 a1 a2 a3 a4 a5 a6 a7 a8 a9 a10 a11 a12 a13 a14 a15) := by
 intro a0 a1 a2 a3 a4 a5 a6 a7 a8 a9 a10 a11 a12 a13 a14 a15 k
 obtain ⟨ih0, ih1, ih2, ih3⟩ := recur_fits.mono_l k
 unfold recur_fits.f
 repeat' first
   | (with_reducible exact ih0 _ _ _ _ _ _ _ _ _ _ _ _ _ _ _ _ _)
   | (with_reducible exact ih1 _ _ _ _ _ _ _ _ _ _ _ _ _ _)
   | (with_reducible exact ih2 _ _ _ _ _ _ _ _ _ _ _ _ _ _)
   | (with_reducible exact ih3 _ _ _ _ _ _ _ _ _ _ _ _ _)
   | (with_reducible exact recur_week.mono _ _)
   | (with_reducible exact slices_Contains_int_int.mono _ _ _)
   | (with_reducible exact LeO.refl _)
   | (with_reducible exact LeO.none _)
   | (with_reducible refine LeO.ite ?_ ?_)
   | (with_reducible refine LeO.bind ?_ (fun _ => ?_))
   | exact ih0 _ _ _ _ _ _ _ _ _ _ _ _ _ _ _ _ _
   | exact ih1 _ _ _ _ _ _ _ _ _ _ _ _ _ _
   | exact ih2 _ _ _ _ _ _ _ _ _ _ _ _ _ _
   | exact ih3 _ _ _ _ _ _ _ _ _ _ _ _ _
   | exact recur_week.mono _ _
   | exact slices_Contains_int_int.mono _ _ _
   | exact LeO.none _
   | refine LeO.ite ?_ ?_
   | refine LeO.bind ?_ (fun _ => ?_)
set_option maxHeartbeats 8000000 in
set_option maxRecDepth 100000 in
theorem recur_fits.calls (k : Nat) (a0_0 : Int) (a0_1 : Int) (a0_2 : Int) (a0_3 : Int) (a0_4 : Int) (A0_5 : Option Addr) (c0_5 : Nat) (l0_5 : List Int) (A0_6 : Option Addr) (c0_6 : Nat) (l0_6 : List Int) (A0_7 : Option Addr) (c0_7 : Nat) (l0_7 : List Int) (a1_0 : Int) (a1_1 : Int) (a1_2 : Int) (a2_0 : Int) (a2_1 : Int) (a2_2 : Int) (a3 : Int) (a4 : Int) (r : Bool) (w : World) (hr0_5 : Kd.C (Kd.int .i64) w A0_5 l0_5.length l0_5) (hc0_5 : l0_5.length ≤ c0_5) (hr0_6 : Kd.C (Kd.int .i64) w A0_6 l0_6.length l0_6) (hc0_6 : l0_6.length ≤ c0_6) (hr0_7 : Kd.C (Kd.int .i64) w A0_7 l0_7.length l0_7) (hc0_7 : l0_7.length ≤ c0_7) (h : recur_fits.f k a0_0 a0_1 a0_2 a0_3 a0_4 l0_5 l0_6 l0_7 a1_0 a1_1 a1_2 a2_0 a2_1 a2_2 a3 a4 = some r) :
  Calls Try.prog 59 #[.agg #[.int .i64 a0_0, .int .i64 a0_1, .int .i64 a0_2, .int .i64 a0_3, .int .i64 a0_4, .slice A0_5 l0_5.length c0_5, .slice A0_6 l0_6.length c0_6, .slice A0_7 l0_7.length c0_7], .agg #[.int .i64 a1_0, .int .i64 a1_1, .int .i64 a1_2], .agg #[.int .i64 a2_0, .int .i64 a2_1, .int .i64 a2_2], .int .i64 a3, .int .i64 a4] w fun e w' => e = .returned (.bool r) ∧ Below w.heap.size w w' := by
 have hu33 := Try.underlying33
 have hu107 := Try.underlying107
 have HR0_5 := Aside0.mk hr0_5
 have HC0_5 := Aside0.mk hc0_5
 clear hr0_5 hc0_5
 have HR0_6 := Aside0.mk hr0_6
 have HC0_6 := Aside0.mk hc0_6
 clear hr0_6 hc0_6
 have HR0_7 := Aside0.mk hr0_7
 have HC0_7 := Aside0.mk hc0_7
 clear hr0_7 hc0_7
 have HB := Aside0.mk (Below.refl w.heap.size w)
 have H : (if a3 < a0_2 then (recur_fits.j0 k a3 a4 true a0_0 a0_1 a0_2 a0_3 a0_4 l0_5 l0_6 l0_7 a1_0 a1_1 a1_2 a2_0 a2_1 a2_2) else (recur_fits.j0 k a3 a4 (decide (a3 > a0_4)) a0_0 a0_1 a0_2 a0_3 a0_4 l0_5 l0_6 l0_7 a1_0 a1_1 a1_2 a2_0 a2_1 a2_2)) = some r := h
 clear h
 have HC6 := Aside0.mk H
 clear H
 go_enter Try.func59, Try.ntmps59
 go_upto_region 1 with (first | ((with_reducible refine gate_dst (N := 5) rfl ?_); refine box_event ?hg (N := 5) ?hd (cs := #[.int .i64 a0_0, .int .i64 a0_1, .int .i64 a0_2, .int .i64 a0_3, .int .i64 a0_4, .slice A0_5 l0_5.length c0_5, .slice A0_6 l0_6.length c0_6, .slice A0_7 l0_7.length c0_7]) (t := 33) ?hr ?_; (case hd => rfl); (case hg => rfl); (case hr => first | (go_simp; done) | (go_simp; rfl)); intro gb171 hg w7 hbox hb; have n0_ := Aside0.mk (below_step be hb); have n1_ := Aside0.mk (hbox); have n2_ := gs hg HB; have n3_ := n2_; clear HB; have HB := n0_; have BK171 := n1_; have GW171 := n2_; have GE171 := n3_; clear n0_ n1_ n2_ n3_; clear hb hbox hg) | ((with_reducible refine gate_dst (N := 6) rfl ?_); refine box_event ?hg (N := 6) ?hd (cs := #[.int .i64 a1_0, .int .i64 a1_1, .int .i64 a1_2]) (t := 107) ?hr ?_; (case hd => rfl); (case hg => rfl); (case hr => first | (go_simp; done) | (go_simp; rfl)); intro gb172 hg w8 hbox hb; have n0_ := bb BK171 hb; have n1_ := Aside0.mk (below_step be hb); have n2_ := Aside0.mk (hbox); have n3_ := gs hg HB; have n4_ := n3_; have n5_ := nl BK171 hg; have n6_ := ns n5_; clear BK171; clear HB; have BK171 := n0_; have HB := n1_; have BK172 := n2_; have GW172 := n3_; have GE172 := n4_; have NB171_172 := n5_; have NB172_171 := n6_; clear n0_ n1_ n2_ n3_ n4_ n5_ n6_; clear hb hbox hg) | ((with_reducible refine gate_dst (N := 7) rfl ?_); refine box_event ?hg (N := 7) ?hd (cs := #[.int .i64 a2_0, .int .i64 a2_1, .int .i64 a2_2]) (t := 107) ?hr ?_; (case hd => rfl); (case hg => rfl); (case hr => first | (go_simp; done) | (go_simp; rfl)); intro gb173 hg w9 hbox hb; have n0_ := bb BK171 hb; have n1_ := bb BK172 hb; have n2_ := Aside0.mk (below_step be hb); have n3_ := Aside0.mk (hbox); have n4_ := gs hg HB; have n5_ := n4_; have n6_ := nl BK171 hg; have n7_ := ns n6_; have n8_ := nl BK172 hg; have n9_ := ns n8_; clear BK171; clear BK172; clear HB; have BK171 := n0_; have BK172 := n1_; have HB := n2_; have BK173 := n3_; have GW173 := n4_; have GE173 := n5_; have NB171_173 := n6_; have NB173_171 := n7_; have NB172_173 := n8_; have NB173_172 := n9_; clear n0_ n1_ n2_ n3_ n4_ n5_ n6_ n7_ n8_ n9_; clear hb hbox hg))
 repeat (go_quiet (first | ((with_reducible refine gate_dst (N := 5) rfl ?_); refine box_event ?hg (N := 5) ?hd (cs := #[.int .i64 a0_0, .int .i64 a0_1, .int .i64 a0_2, .int .i64 a0_3, .int .i64 a0_4, .slice A0_5 l0_5.length c0_5, .slice A0_6 l0_6.length c0_6, .slice A0_7 l0_7.length c0_7]) (t := 33) ?hr ?_; (case hd => rfl); (case hg => rfl); (case hr => first | (go_simp; done) | (go_simp; rfl)); intro gb171 hg w7 hbox hb; have n0_ := Aside0.mk (below_step be hb); have n1_ := Aside0.mk (hbox); have n2_ := gs hg HB; have n3_ := n2_; clear HB; have HB := n0_; have BK171 := n1_; have GW171 := n2_; have GE171 := n3_; clear n0_ n1_ n2_ n3_; clear hb hbox hg) | ((with_reducible refine gate_dst (N := 6) rfl ?_); refine box_event ?hg (N := 6) ?hd (cs := #[.int .i64 a1_0, .int .i64 a1_1, .int .i64 a1_2]) (t := 107) ?hr ?_; (case hd => rfl); (case hg => rfl); (case hr => first | (go_simp; done) | (go_simp; rfl)); intro gb172 hg w8 hbox hb; have n0_ := bb BK171 hb; have n1_ := Aside0.mk (below_step be hb); have n2_ := Aside0.mk (hbox); have n3_ := gs hg HB; have n4_ := n3_; have n5_ := nl BK171 hg; have n6_ := ns n5_; clear BK171; clear HB; have BK171 := n0_; have HB := n1_; have BK172 := n2_; have GW172 := n3_; have GE172 := n4_; have NB171_172 := n5_; have NB172_171 := n6_; clear n0_ n1_ n2_ n3_ n4_ n5_ n6_; clear hb hbox hg) | ((with_reducible refine gate_dst (N := 7) rfl ?_); refine box_event ?hg (N := 7) ?hd (cs := #[.int .i64 a2_0, .int .i64 a2_1, .int .i64 a2_2]) (t := 107) ?hr ?_; (case hd => rfl); (case hg => rfl); (case hr => first | (go_simp; done) | (go_simp; rfl)); intro gb173 hg w9 hbox hb; have n0_ := bb BK171 hb; have n1_ := bb BK172 hb; have n2_ := Aside0.mk (below_step be hb); have n3_ := Aside0.mk (hbox); have n4_ := gs hg HB; have n5_ := n4_; have n6_ := nl BK171 hg; have n7_ := ns n6_; have n8_ := nl BK172 hg; have n9_ := ns n8_; clear BK171; clear BK172; clear HB; have BK171 := n0_; have BK172 := n1_; have HB := n2_; have BK173 := n3_; have GW173 := n4_; have GE173 := n5_; have NB171_173 := n6_; have NB173_171 := n7_; have NB172_173 := n8_; have NB173_172 := n9_; clear n0_ n1_ n2_ n3_ n4_ n5_ n6_ n7_ n8_ n9_; clear hb hbox hg)); go_upto_region 1 with (first | ((with_reducible refine gate_dst (N := 5) rfl ?_); refine box_event ?hg (N := 5) ?hd (cs := #[.int .i64 a0_0, .int .i64 a0_1, .int .i64 a0_2, .int .i64 a0_3, .int .i64 a0_4, .slice A0_5 l0_5.length c0_5, .slice A0_6 l0_6.length c0_6, .slice A0_7 l0_7.length c0_7]) (t := 33) ?hr ?_; (case hd => rfl); (case hg => rfl); (case hr => first | (go_simp; done) | (go_simp; rfl)); intro gb171 hg w7 hbox hb; have n0_ := Aside0.mk (below_step be hb); have n1_ := Aside0.mk (hbox); have n2_ := gs hg HB; have n3_ := n2_; clear HB; have HB := n0_; have BK171 := n1_; have GW171 := n2_; have GE171 := n3_; clear n0_ n1_ n2_ n3_; clear hb hbox hg) | ((with_reducible refine gate_dst (N := 6) rfl ?_); refine box_event ?hg (N := 6) ?hd (cs := #[.int .i64 a1_0, .int .i64 a1_1, .int .i64 a1_2]) (t := 107) ?hr ?_; (case hd => rfl); (case hg => rfl); (case hr => first | (go_simp; done) | (go_simp; rfl)); intro gb172 hg w8 hbox hb; have n0_ := bb BK171 hb; have n1_ := Aside0.mk (below_step be hb); have n2_ := Aside0.mk (hbox); have n3_ := gs hg HB; have n4_ := n3_; have n5_ := nl BK171 hg; have n6_ := ns n5_; clear BK171; clear HB; have BK171 := n0_; have HB := n1_; have BK172 := n2_; have GW172 := n3_; have GE172 := n4_; have NB171_172 := n5_; have NB172_171 := n6_; clear n0_ n1_ n2_ n3_ n4_ n5_ n6_; clear hb hbox hg) | ((with_reducible refine gate_dst (N := 7) rfl ?_); refine box_event ?hg (N := 7) ?hd (cs := #[.int .i64 a2_0, .int .i64 a2_1, .int .i64 a2_2]) (t := 107) ?hr ?_; (case hd => rfl); (case hg => rfl); (case hr => first | (go_simp; done) | (go_simp; rfl)); intro gb173 hg w9 hbox hb; have n0_ := bb BK171 hb; have n1_ := bb BK172 hb; have n2_ := Aside0.mk (below_step be hb); have n3_ := Aside0.mk (hbox); have n4_ := gs hg HB; have n5_ := n4_; have n6_ := nl BK171 hg; have n7_ := ns n6_; have n8_ := nl BK172 hg; have n9_ := ns n8_; clear BK171; clear BK172; clear HB; have BK171 := n0_; have BK172 := n1_; have HB := n2_; have BK173 := n3_; have GW173 := n4_; have GE173 := n5_; have NB171_173 := n6_; have NB173_171 := n7_; have NB172_173 := n8_; have NB173_172 := n9_; clear n0_ n1_ n2_ n3_ n4_ n5_ n6_ n7_ n8_ n9_; clear hb hbox hg)))
 (try simp only [Act.put, List.setIfInBounds_toArray, List.set_cons_zero, List.set_cons_succ])
 go_cut [21] (fun v21 wc => ∃ (kq : Nat) (x21_5 : Bool), v21 = .bool x21_5 ∧ Aside0 (recur_fits.j0 kq a3 a4 x21_5 a0_0 a0_1 a0_2 a0_3 a0_4 l0_5 l0_6 l0_7 a1_0 a1_1 a1_2 a2_0 a2_1 a2_2 = some r) ∧ Aside0 (kq ≤ k) ∧ Aside0 (wc.heap[gb171]? = some (.cells #[.int .i64 a0_0, .int .i64 a0_1, .int .i64 a0_2, .int .i64 a0_3, .int .i64 a0_4, (.slice A0_5 l0_5.length c0_5), (.slice A0_6 l0_6.length c0_6), (.slice A0_7 l0_7.length c0_7)] 33 (0, 0))) ∧ Aside0 (wc.heap[gb172]? = some (.cells #[.int .i64 a1_0, .int .i64 a1_1, .int .i64 a1_2] 107 (0, 0))) ∧ Aside0 (wc.heap[gb173]? = some (.cells #[.int .i64 a2_0, .int .i64 a2_1, .int .i64 a2_2] 107 (0, 0))) ∧ Aside0 (Below w.heap.size w wc))
 case first =>
  have H := HC6.out
  clear HC6
  by_cases c10 : a3 < a0_2
  ·rw [if_pos c10] at H
   have c10b0 : decide (a3 < a0_2) = true := decide_eq_true c10
   clear c10
   (first | rw [c10b0] | (simp only [i64_w, i32_w]; rw [c10b0]) | skip)
   have H' := Aside0.mk H
   clear H
   have hnb11 := NB171_172.out
   have hnc11 := NB172_171.out
   have hnb12 := NB171_173.out
   have hnc12 := NB173_171.out
   obtain ⟨hcz13_0, hcz13_1, hcz13_2, hcz13_3, hcz13_4, hcz13_5, hcz13_6, hcz13_7, hfz13_0, hfz13_1, hfz13_2, hfz13_3, hfz13_4, hfz13_5, hfz13_6, hfz13_7⟩ := bc8 BK171
   go_wp2
   repeat (go_quiet (fail); try go_wp2)
   go_meet
   case rel => exact ⟨_, (true), rs, H', ⟨by first | omega | exact Nat.le_refl _⟩, ⟨bk BK171⟩, ⟨bk BK172⟩, ⟨bk BK173⟩, ⟨be⟩⟩
  ·rw [if_neg c10] at H
   have c10b0 : decide (a3 < a0_2) = false := decide_eq_false c10
   clear c10
   (first | rw [c10b0] | (simp only [i64_w, i32_w]; rw [c10b0]) | skip)
   have H' := Aside0.mk H
   clear H
   have hnb14 := NB171_172.out
   have hnc14 := NB172_171.out
   have hnb15 := NB171_173.out
   have hnc15 := NB173_171.out
   obtain ⟨hcz16_0, hcz16_1, hcz16_2, hcz16_3, hcz16_4, hcz16_5, hcz16_6, hcz16_7, hfz16_0, hfz16_1, hfz16_2, hfz16_3, hfz16_4, hfz16_5, hfz16_6, hfz16_7⟩ := bc8 BK171
   go_wp2
   repeat (go_quiet (fail); try go_wp2)
   go_meet
   case rel => exact ⟨_, (decide (a3 > a0_4)), rs, H', ⟨by first | omega | exact Nat.le_refl _⟩, ⟨bk BK171⟩, ⟨bk BK172⟩, ⟨bk BK173⟩, ⟨be⟩⟩
 case rest =>
  clear HC6
  (try clear c1); (try clear p2); (try clear c5); (try clear c10); (try clear c10b0); (try clear c11); (try clear c12); (try clear c14); (try clear c15); (try clear hcz13_0); (try clear hcz13_1); (try clear hcz13_2); (try clear hcz13_3); (try clear hcz13_4); (try clear hcz13_5); (try clear hcz13_6); (try clear hcz13_7); (try clear hcz16_0); (try clear hcz16_1); (try clear hcz16_2); (try clear hcz16_3); (try clear hcz16_4); (try clear hcz16_5); (try clear hcz16_6); (try clear hcz16_7); (try clear hfz13_0); (try clear hfz13_1); (try clear hfz13_2); (try clear hfz13_3); (try clear hfz13_4); (try clear hfz13_5); (try clear hfz13_6); (try clear hfz13_7); (try clear hfz16_0); (try clear hfz16_1); (try clear hfz16_2); (try clear hfz16_3); (try clear hfz16_4); (try clear hfz16_5); (try clear hfz16_6); (try clear hfz16_7)
  obtain ⟨kq, x21_5, rfl, HA, HJ5, BK171, BK172, BK173, HB⟩ := hcut
  cases kq with
  | zero => exact absurd HA.out (by simp [recur_fits.j0])
  | succ kj5 =>
   have H := HA.out
   clear HA
   simp only [recur_fits.j0] at H
   by_cases c17 : x21_5 = true
   ·subst c17
    have H1 : (some false) = some r := by rw [if_pos rfl] at H; exact H
    clear H
    have H := H1
    clear H1
    obtain rfl := Option.some.inj H
    go_wp2
    repeat (go_quiet (fail); try go_wp2)
    go_ret
    exact ⟨by first | rfl | (simp [errW_none, errW_some] <;> rfl) | (simp [*, errW_none, errW_some] <;> rfl), be⟩
   ·replace c17 := Bool.eq_false_iff.mpr c17
    subst c17
    have H1 : (if a0_0 = 1 then (recur_fits.j1 kj5 a3 a4 (wrap64 (a3 - a0_2)) a0_0 a0_1 a0_2 a0_3 a0_4 l0_5 l0_6 l0_7 a2_0 a2_1 a2_2) else (if a0_0 = 2 then ((recur_week.f kj5 a3).bind fun t174 => ((recur_week.f kj5 a0_2).bind fun t175 => (recur_fits.j1 kj5 a3 a4 (wrap64 (t174 - t175)) a0_0 a0_1 a0_2 a0_3 a0_4 l0_5 l0_6 l0_7 a2_0 a2_1 a2_2))) else (if a0_0 = 3 then (recur_fits.j1 kj5 a3 a4 (wrap64 ((wrap64 ((wrap64 (12 * (wrap64 (a2_0 - a1_0)))) + a2_1)) - a1_1)) a0_0 a0_1 a0_2 a0_3 a0_4 l0_5 l0_6 l0_7 a2_0 a2_1 a2_2) else (if a0_0 = 4 then (recur_fits.j1 kj5 a3 a4 (wrap64 (a2_0 - a1_0)) a0_0 a0_1 a0_2 a0_3 a0_4 l0_5 l0_6 l0_7 a2_0 a2_1 a2_2) else (recur_fits.j1 kj5 a3 a4 0 a0_0 a0_1 a0_2 a0_3 a0_4 l0_5 l0_6 l0_7 a2_0 a2_1 a2_2))))) = some r := by rw [if_neg (show ¬ (false = true) by decide)] at H; exact H
    clear H
    have H := H1
    clear H1
    have HC18 := Aside0.mk H
    clear H
    have hnb19 := NB171_172.out
    have hnc19 := NB172_171.out
    have hnb20 := NB171_173.out
    have hnc20 := NB173_171.out
    obtain ⟨hcz21_0, hcz21_1, hcz21_2, hcz21_3, hcz21_4, hcz21_5, hcz21_6, hcz21_7, hfz21_0, hfz21_1, hfz21_2, hfz21_3, hfz21_4, hfz21_5, hfz21_6, hfz21_7⟩ := bc8 BK171
    go_upto_block 0 with (fail)
    repeat (go_quiet (fail); go_upto_block 0 with (fail))
    go_cut [11] (fun v11 wc => ∃ (kq : Nat) (x11_17 : Int), v11 = .int .i64 x11_17 ∧ Aside0 (recur_fits.j1 kq a3 a4 x11_17 a0_0 a0_1 a0_2 a0_3 a0_4 l0_5 l0_6 l0_7 a2_0 a2_1 a2_2 = some r) ∧ Aside0 (kq ≤ kj5) ∧ Aside0 (wc.heap[gb171]? = some (.cells #[.int .i64 a0_0, .int .i64 a0_1, .int .i64 a0_2, .int .i64 a0_3, .int .i64 a0_4, (.slice A0_5 l0_5.length c0_5), (.slice A0_6 l0_6.length c0_6), (.slice A0_7 l0_7.length c0_7)] 33 (0, 0))) ∧ Aside0 (wc.heap[gb172]? = some (.cells #[.int .i64 a1_0, .int .i64 a1_1, .int .i64 a1_2] 107 (0, 0))) ∧ Aside0 (wc.heap[gb173]? = some (.cells #[.int .i64 a2_0, .int .i64 a2_1, .int .i64 a2_2] 107 (0, 0))) ∧ Aside0 (Below w.heap.size w wc))
    case first =>
     have H := HC18.out
     clear HC18
     by_cases c22 : a0_0 = 1
     ·rw [if_pos c22] at H
      have c22b0 : (a0_0 == 1) = true := beq_iff_eq.mpr c22
      have c22b1 : (a0_0 != 1) = false := bne_eq_false_iff_eq.mpr c22
      clear c22
      (first | rw [c22b0] | (simp only [i64_w, i32_w]; rw [c22b0]) | skip)
      have H' := Aside0.mk H
      clear H
      have hnb23 := NB171_172.out
      have hnc23 := NB172_171.out
      have hnb24 := NB171_173.out
      have hnc24 := NB173_171.out
      obtain ⟨hcz25_0, hcz25_1, hcz25_2, hcz25_3, hcz25_4, hcz25_5, hcz25_6, hcz25_7, hfz25_0, hfz25_1, hfz25_2, hfz25_3, hfz25_4, hfz25_5, hfz25_6, hfz25_7⟩ := bc8 BK171
      go_wp2
      repeat (go_quiet (fail); try go_wp2)
      go_meet
      case rel => exact ⟨_, (wrap64 (a3 - a0_2)), rs, H', ⟨by have := HJ5.out; first | omega | exact Nat.le_refl _⟩, ⟨bk BK171⟩, ⟨bk BK172⟩, ⟨bk BK173⟩, ⟨be⟩⟩
     ·rw [if_neg c22] at H
      have c22b0 : (a0_0 == 1) = false := beq_eq_false_iff_ne.mpr c22
      have c22b1 : (a0_0 != 1) = true := bne_iff_ne.mpr c22
      (first | rw [c22b0] | (simp only [i64_w, i32_w]; rw [c22b0]) | skip)
      by_cases c26 : a0_0 = 2
      ·rw [if_pos c26] at H
       have c26b0 : (a0_0 == 2) = true := beq_iff_eq.mpr c26
       have c26b1 : (a0_0 != 2) = false := bne_eq_false_iff_eq.mpr c26
       clear c26
       replace H := Option.bind_eq_some_iff.mp H
       obtain ⟨t174, A270, H⟩ := H
       replace H : ((recur_week.f kj5 a0_2).bind fun t175 => (recur_fits.j1 kj5 a3 a4 (wrap64 (t174 - t175)) a0_0 a0_1 a0_2 a0_3 a0_4 l0_5 l0_6 l0_7 a2_0 a2_1 a2_2)) = some r := H
       have A27 := Aside0.mk A270
       clear A270
       replace H := Option.bind_eq_some_iff.mp H
       obtain ⟨t175, A280, H⟩ := H
       replace H : (recur_fits.j1 kj5 a3 a4 (wrap64 (t174 - t175)) a0_0 a0_1 a0_2 a0_3 a0_4 l0_5 l0_6 l0_7 a2_0 a2_1 a2_2) = some r := H
       have A28 := Aside0.mk A280
       clear A280
       have H' := Aside0.mk H
       clear H
       go_wp2_with (first | (go_at_call 98; (with_reducible refine (recur_week.calls kj5 a3 t174 _ A27.out).mono ?_); rintro e w' ⟨rfl, ⟨nd, rfl⟩⟩; (try first | exact ⟨rfl, _, World.drewN_drewN _ _ _⟩ | exact ⟨rfl, _, Eq.trans (World.drewN_drewN _ _ _) (congrArg (World.drewN _) (Nat.add_assoc _ _ _))⟩); have hnb29 := NB171_172.out; have hnc29 := NB172_171.out; have hnb30 := NB171_173.out; have hnc30 := NB173_171.out; obtain ⟨hcz31_0, hcz31_1, hcz31_2, hcz31_3, hcz31_4, hcz31_5, hcz31_6, hcz31_7, hfz31_0, hfz31_1, hfz31_2, hfz31_3, hfz31_4, hfz31_5, hfz31_6, hfz31_7⟩ := bc8 BK171) | (go_at_call 98; (with_reducible refine (recur_week.calls kj5 a0_2 t175 _ A28.out).mono ?_); rintro e w' ⟨rfl, ⟨nd, rfl⟩⟩; (try first | exact ⟨rfl, _, World.drewN_drewN _ _ _⟩ | exact ⟨rfl, _, Eq.trans (World.drewN_drewN _ _ _) (congrArg (World.drewN _) (Nat.add_assoc _ _ _))⟩)))
       repeat (go_quiet (first | (go_at_call 98; (with_reducible refine (recur_week.calls kj5 a3 t174 _ A27.out).mono ?_); rintro e w' ⟨rfl, ⟨nd, rfl⟩⟩; (try first | exact ⟨rfl, _, World.drewN_drewN _ _ _⟩ | exact ⟨rfl, _, Eq.trans (World.drewN_drewN _ _ _) (congrArg (World.drewN _) (Nat.add_assoc _ _ _))⟩); have hnb29 := NB171_172.out; have hnc29 := NB172_171.out; have hnb30 := NB171_173.out; have hnc30 := NB173_171.out; obtain ⟨hcz31_0, hcz31_1, hcz31_2, hcz31_3, hcz31_4, hcz31_5, hcz31_6, hcz31_7, hfz31_0, hfz31_1, hfz31_2, hfz31_3, hfz31_4, hfz31_5, hfz31_6, hfz31_7⟩ := bc8 BK171) | (go_at_call 98; (with_reducible refine (recur_week.calls kj5 a0_2 t175 _ A28.out).mono ?_); rintro e w' ⟨rfl, ⟨nd, rfl⟩⟩; (try first | exact ⟨rfl, _, World.drewN_drewN _ _ _⟩ | exact ⟨rfl, _, Eq.trans (World.drewN_drewN _ _ _) (congrArg (World.drewN _) (Nat.add_assoc _ _ _))⟩))); try go_wp2_with (first | (go_at_call 98; (with_reducible refine (recur_week.calls kj5 a3 t174 _ A27.out).mono ?_); rintro e w' ⟨rfl, ⟨nd, rfl⟩⟩; (try first | exact ⟨rfl, _, World.drewN_drewN _ _ _⟩ | exact ⟨rfl, _, Eq.trans (World.drewN_drewN _ _ _) (congrArg (World.drewN _) (Nat.add_assoc _ _ _))⟩); have hnb29 := NB171_172.out; have hnc29 := NB172_171.out; have hnb30 := NB171_173.out; have hnc30 := NB173_171.out; obtain ⟨hcz31_0, hcz31_1, hcz31_2, hcz31_3, hcz31_4, hcz31_5, hcz31_6, hcz31_7, hfz31_0, hfz31_1, hfz31_2, hfz31_3, hfz31_4, hfz31_5, hfz31_6, hfz31_7⟩ := bc8 BK171) | (go_at_call 98; (with_reducible refine (recur_week.calls kj5 a0_2 t175 _ A28.out).mono ?_); rintro e w' ⟨rfl, ⟨nd, rfl⟩⟩; (try first | exact ⟨rfl, _, World.drewN_drewN _ _ _⟩ | exact ⟨rfl, _, Eq.trans (World.drewN_drewN _ _ _) (congrArg (World.drewN _) (Nat.add_assoc _ _ _))⟩))))
       go_meet
       case rel => exact ⟨_, (wrap64 (t174 - t175)), rs, H', ⟨by have := HJ5.out; first | omega | exact Nat.le_refl _⟩, ⟨bk BK171⟩, ⟨bk BK172⟩, ⟨bk BK173⟩, ⟨be⟩⟩
      ·rw [if_neg c26] at H
       have c26b0 : (a0_0 == 2) = false := beq_eq_false_iff_ne.mpr c26
       have c26b1 : (a0_0 != 2) = true := bne_iff_ne.mpr c26
       by_cases c32 : a0_0 = 3
       ·rw [if_pos c32] at H
        have c32b0 : (a0_0 == 3) = true := beq_iff_eq.mpr c32
        have c32b1 : (a0_0 != 3) = false := bne_eq_false_iff_eq.mpr c32
        clear c32
        have H' := Aside0.mk H
        clear H
        have hnb33 := NB173_171.out
        have hnc33 := NB171_173.out
        have hnb34 := NB173_172.out
        have hnc34 := NB172_173.out
        obtain ⟨hcz35_0, hcz35_1, hcz35_2, hfz35_0, hfz35_1, hfz35_2⟩ := bc3 BK173
        have hnb36 := NB172_171.out
        have hnc36 := NB171_172.out
        obtain ⟨hcz37_0, hcz37_1, hcz37_2, hfz37_0, hfz37_1, hfz37_2⟩ := bc3 BK172
        go_wp2
        repeat (go_quiet (fail); try go_wp2)
        go_meet
        case rel => exact ⟨_, (wrap64 ((wrap64 ((wrap64 (12 * (wrap64 (a2_0 - a1_0)))) + a2_1)) - a1_1)), rs, H', ⟨by have := HJ5.out; first | omega | exact Nat.le_refl _⟩, ⟨bk BK171⟩, ⟨bk BK172⟩, ⟨bk BK173⟩, ⟨be⟩⟩
       ·rw [if_neg c32] at H
        have c32b0 : (a0_0 == 3) = false := beq_eq_false_iff_ne.mpr c32
        have c32b1 : (a0_0 != 3) = true := bne_iff_ne.mpr c32
        by_cases c38 : a0_0 = 4
        ·rw [if_pos c38] at H
         have c38b0 : (a0_0 == 4) = true := beq_iff_eq.mpr c38
         have c38b1 : (a0_0 != 4) = false := bne_eq_false_iff_eq.mpr c38
         clear c38
         have H' := Aside0.mk H
         clear H
         have hnb39 := NB173_171.out
         have hnc39 := NB171_173.out
         have hnb40 := NB173_172.out
         have hnc40 := NB172_173.out
         obtain ⟨hcz41_0, hcz41_1, hcz41_2, hfz41_0, hfz41_1, hfz41_2⟩ := bc3 BK173
         have hnb42 := NB172_171.out
         have hnc42 := NB171_172.out
         obtain ⟨hcz43_0, hcz43_1, hcz43_2, hfz43_0, hfz43_1, hfz43_2⟩ := bc3 BK172
         go_wp2
         repeat (go_quiet (fail); try go_wp2)
         go_meet
         case rel => exact ⟨_, (wrap64 (a2_0 - a1_0)), rs, H', ⟨by have := HJ5.out; first | omega | exact Nat.le_refl _⟩, ⟨bk BK171⟩, ⟨bk BK172⟩, ⟨bk BK173⟩, ⟨be⟩⟩
        ·rw [if_neg c38] at H
         have c38b0 : (a0_0 == 4) = false := beq_eq_false_iff_ne.mpr c38
         have c38b1 : (a0_0 != 4) = true := bne_iff_ne.mpr c38
         have H' := Aside0.mk H
         clear H
         go_wp2
         repeat (go_quiet (fail); try go_wp2)
         go_meet
         case rel => exact ⟨_, (0), rs, H', ⟨by have := HJ5.out; first | omega | exact Nat.le_refl _⟩, ⟨bk BK171⟩, ⟨bk BK172⟩, ⟨bk BK173⟩, ⟨be⟩⟩
    case rest =>
     clear HC18
     (try clear c1); (try clear c2); (try clear p2); (try clear c3); (try clear c4); (try clear c5); (try clear p6); (try clear c10); (try clear c10b0); (try clear c11); (try clear c12); (try clear c14); (try clear c15); (try clear c17); (try clear c19); (try clear c20); (try clear c22); (try clear c22b0); (try clear c22b1); (try clear c23); (try clear c24); (try clear c26); (try clear c26b0); (try clear c26b1); (try clear c29); (try clear c30); (try clear c32); (try clear c32b0); (try clear c32b1); (try clear c33); (try clear c34); (try clear c36); (try clear c38); (try clear c38b0); (try clear c38b1); (try clear c39); (try clear c40); (try clear c42); (try clear hcz13_0); (try clear hcz13_1); (try clear hcz13_2); (try clear hcz13_3); (try clear hcz13_4); (try clear hcz13_5); (try clear hcz13_6); (try clear hcz13_7); (try clear hcz16_0); (try clear hcz16_1); (try clear hcz16_2); (try clear hcz16_3); (try clear hcz16_4); (try clear hcz16_5); (try clear hcz16_6); (try clear hcz16_7); (try clear hcz21_0); (try clear hcz21_1); (try clear hcz21_2); (try clear hcz21_3); (try clear hcz21_4); (try clear hcz21_5); (try clear hcz21_6); (try clear hcz21_7); (try clear hcz25_0); (try clear hcz25_1); (try clear hcz25_2); (try clear hcz25_3); (try clear hcz25_4); (try clear hcz25_5); (try clear hcz25_6); (try clear hcz25_7); (try clear hcz31_0); (try clear hcz31_1); (try clear hcz31_2); (try clear hcz31_3); (try clear hcz31_4); (try clear hcz31_5); (try clear hcz31_6); (try clear hcz31_7); (try clear hcz35_0); (try clear hcz35_1); (try clear hcz35_2); (try clear hcz37_0); (try clear hcz37_1); (try clear hcz37_2); (try clear hcz41_0); (try clear hcz41_1); (try clear hcz41_2); (try clear hcz43_0); (try clear hcz43_1); (try clear hcz43_2); (try clear hfz13_0); (try clear hfz13_1); (try clear hfz13_2); (try clear hfz13_3); (try clear hfz13_4); (try clear hfz13_5); (try clear hfz13_6); (try clear hfz13_7); (try clear hfz16_0); (try clear hfz16_1); (try clear hfz16_2); (try clear hfz16_3); (try clear hfz16_4); (try clear hfz16_5); (try clear hfz16_6); (try clear hfz16_7); (try clear hfz21_0); (try clear hfz21_1); (try clear hfz21_2); (try clear hfz21_3); (try clear hfz21_4); (try clear hfz21_5); (try clear hfz21_6); (try clear hfz21_7); (try clear hfz25_0); (try clear hfz25_1); (try clear hfz25_2); (try clear hfz25_3); (try clear hfz25_4); (try clear hfz25_5); (try clear hfz25_6); (try clear hfz25_7); (try clear hfz31_0); (try clear hfz31_1); (try clear hfz31_2); (try clear hfz31_3); (try clear hfz31_4); (try clear hfz31_5); (try clear hfz31_6); (try clear hfz31_7); (try clear hfz35_0); (try clear hfz35_1); (try clear hfz35_2); (try clear hfz37_0); (try clear hfz37_1); (try clear hfz37_2); (try clear hfz41_0); (try clear hfz41_1); (try clear hfz41_2); (try clear hfz43_0); (try clear hfz43_1); (try clear hfz43_2); (try clear p2)
     obtain ⟨kq, x11_17, rfl, HA, HJ17, BK171, BK172, BK173, HB⟩ := hcut
     cases kq with
     | zero => exact absurd HA.out (by simp [recur_fits.j1])
     | succ kj17 =>
      have H := HA.out
      clear HA
      simp only [recur_fits.j1] at H
      by_cases c44 : a0_1 = 0
      ·rw [if_pos c44] at H
       exact absurd H (by simp)
      ·rw [if_neg c44] at H
       have c44b0 : (a0_1 == 0) = false := beq_eq_false_iff_ne.mpr c44
       have c44b1 : (a0_1 != 0) = true := bne_iff_ne.mpr c44
       by_cases c45 : (Int.tmod x11_17 a0_1) = 0
       ·rw [if_pos c45] at H
        have c45b0 : ((Int.tmod x11_17 a0_1) == 0) = true := beq_iff_eq.mpr c45
        have c45b1 : ((Int.tmod x11_17 a0_1) != 0) = false := bne_eq_false_iff_eq.mpr c45
        clear c45
        have HC46 := Aside0.mk H
        clear H
        have hnb47 := NB171_172.out
        have hnc47 := NB172_171.out
        have hnb48 := NB171_173.out
        have hnc48 := NB173_171.out
        obtain ⟨hcz49_0, hcz49_1, hcz49_2, hcz49_3, hcz49_4, hcz49_5, hcz49_6, hcz49_7, hfz49_0, hfz49_1, hfz49_2, hfz49_3, hfz49_4, hfz49_5, hfz49_6, hfz49_7⟩ := bc8 BK171
        go_upto_region 15 with (fail)
        repeat (go_quiet (fail); go_upto_region 15 with (fail))
        go_cut [75] (fun v75 wc => ∃ (kq : Nat) (x75_45 : Bool), v75 = .bool x75_45 ∧ Aside0 (recur_fits.j2 kq a3 a4 x75_45 a0_0 a0_1 a0_2 a0_3 a0_4 l0_5 l0_6 l0_7 a2_0 a2_1 a2_2 = some r) ∧ Aside0 (kq ≤ kj17) ∧ Aside0 (wc.heap[gb171]? = some (.cells #[.int .i64 a0_0, .int .i64 a0_1, .int .i64 a0_2, .int .i64 a0_3, .int .i64 a0_4, (.slice A0_5 l0_5.length c0_5), (.slice A0_6 l0_6.length c0_6), (.slice A0_7 l0_7.length c0_7)] 33 (0, 0))) ∧ Aside0 (wc.heap[gb172]? = some (.cells #[.int .i64 a1_0, .int .i64 a1_1, .int .i64 a1_2] 107 (0, 0))) ∧ Aside0 (wc.heap[gb173]? = some (.cells #[.int .i64 a2_0, .int .i64 a2_1, .int .i64 a2_2] 107 (0, 0))) ∧ Aside0 (Below w.heap.size w wc))
        case first =>
         have H := HC46.out
         clear HC46
         by_cases c50 : (l0_7.length : Int) > 0
         ·rw [if_pos c50] at H
          have c50b0 : decide (0 < (l0_7.length : Int)) = true := decide_eq_true c50
          have c50b1 : decide (0 < l0_7.length) = true := decide_eq_true (by omega)
          clear c50
          (first | rw [c50b0] | (simp only [i64_w, i32_w]; rw [c50b0]) | skip)
          replace H := Option.bind_eq_some_iff.mp H
          obtain ⟨t176, A510, H⟩ := H
          replace H : (recur_fits.j2 kj17 a3 a4 (!t176) a0_0 a0_1 a0_2 a0_3 a0_4 l0_5 l0_6 l0_7 a2_0 a2_1 a2_2) = some r := H
          have A51 := Aside0.mk A510
          clear A510
          have H' := Aside0.mk H
          clear H
          have hnb52 := NB171_172.out
          have hnc52 := NB172_171.out
          have hnb53 := NB171_173.out
          have hnc53 := NB173_171.out
          obtain ⟨hcz54_0, hcz54_1, hcz54_2, hcz54_3, hcz54_4, hcz54_5, hcz54_6, hcz54_7, hfz54_0, hfz54_1, hfz54_2, hfz54_3, hfz54_4, hfz54_5, hfz54_6, hfz54_7⟩ := bc8 BK171
          have hnb55 := NB173_172.out
          have hnc55 := NB172_173.out
          obtain ⟨hcz56_0, hcz56_1, hcz56_2, hfz56_0, hfz56_1, hfz56_2⟩ := bc3 BK173
          go_wp2_with (first | (go_at_call 33; (with_reducible refine (slices_Contains_int_int.calls kj17 _ _ l0_7 a2_1 t176 _ ?side1 ?side2 A51.out).mono ?_); (case side1 => exact kc (Kd.C_below HR0_7.out HB.out)); (case side2 => exact HC0_7.out); rintro e w' ⟨rfl, ⟨nd, rfl⟩⟩; (try first | exact ⟨rfl, _, World.drewN_drewN _ _ _⟩ | exact ⟨rfl, _, Eq.trans (World.drewN_drewN _ _ _) (congrArg (World.drewN _) (Nat.add_assoc _ _ _))⟩)))
          repeat (go_quiet (first | (go_at_call 33; (with_reducible refine (slices_Contains_int_int.calls kj17 _ _ l0_7 a2_1 t176 _ ?side1 ?side2 A51.out).mono ?_); (case side1 => exact kc (Kd.C_below HR0_7.out HB.out)); (case side2 => exact HC0_7.out); rintro e w' ⟨rfl, ⟨nd, rfl⟩⟩; (try first | exact ⟨rfl, _, World.drewN_drewN _ _ _⟩ | exact ⟨rfl, _, Eq.trans (World.drewN_drewN _ _ _) (congrArg (World.drewN _) (Nat.add_assoc _ _ _))⟩))); try go_wp2_with (first | (go_at_call 33; (with_reducible refine (slices_Contains_int_int.calls kj17 _ _ l0_7 a2_1 t176 _ ?side1 ?side2 A51.out).mono ?_); (case side1 => exact kc (Kd.C_below HR0_7.out HB.out)); (case side2 => exact HC0_7.out); rintro e w' ⟨rfl, ⟨nd, rfl⟩⟩; (try first | exact ⟨rfl, _, World.drewN_drewN _ _ _⟩ | exact ⟨rfl, _, Eq.trans (World.drewN_drewN _ _ _) (congrArg (World.drewN _) (Nat.add_assoc _ _ _))⟩))))
          go_meet
          case rel => exact ⟨_, (!t176), rs, H', ⟨by have := HJ5.out; have := HJ17.out; first | omega | exact Nat.le_refl _⟩, ⟨bk BK171⟩, ⟨bk BK172⟩, ⟨bk BK173⟩, ⟨be⟩⟩
         ·rw [if_neg c50] at H
          have c50b0 : decide (0 < (l0_7.length : Int)) = false := decide_eq_false c50
          have c50b1 : decide (0 < l0_7.length) = false := decide_eq_false (by omega)
          clear c50
          (first | rw [c50b0] | (simp only [i64_w, i32_w]; rw [c50b0]) | skip)
          have H' := Aside0.mk H
          clear H
          have hnb57 := NB171_172.out
          have hnc57 := NB172_171.out
          have hnb58 := NB171_173.out
          have hnc58 := NB173_171.out
          obtain ⟨hcz59_0, hcz59_1, hcz59_2, hcz59_3, hcz59_4, hcz59_5, hcz59_6, hcz59_7, hfz59_0, hfz59_1, hfz59_2, hfz59_3, hfz59_4, hfz59_5, hfz59_6, hfz59_7⟩ := bc8 BK171
          go_wp2
          repeat (go_quiet (fail); try go_wp2)
          go_meet
          case rel => exact ⟨_, (false), rs, H', ⟨by have := HJ5.out; have := HJ17.out; first | omega | exact Nat.le_refl _⟩, ⟨bk BK171⟩, ⟨bk BK172⟩, ⟨bk BK173⟩, ⟨be⟩⟩
        case rest =>
         clear HC46
         (try clear c1); (try clear c2); (try clear p2); (try clear c3); (try clear c4); (try clear c5); (try clear p6); (try clear c10); (try clear c10b0); (try clear c11); (try clear c12); (try clear c14); (try clear c15); (try clear c17); (try clear c19); (try clear c20); (try clear c22); (try clear c22b0); (try clear c22b1); (try clear c23); (try clear c24); (try clear c26); (try clear c26b0); (try clear c26b1); (try clear c29); (try clear c30); (try clear c32); (try clear c32b0); (try clear c32b1); (try clear c33); (try clear c34); (try clear c36); (try clear c38); (try clear c38b0); (try clear c38b1); (try clear c39); (try clear c40); (try clear c42); (try clear c44); (try clear c44b0); (try clear c44b1); (try clear c45); (try clear c45b0); (try clear c45b1); (try clear c47); (try clear c48); (try clear c50); (try clear c50b0); (try clear c50b1); (try clear c52); (try clear c53); (try clear c55); (try clear c57); (try clear c58); (try clear c59); (try clear hcz13_0); (try clear hcz13_1); (try clear hcz13_2); (try clear hcz13_3); (try clear hcz13_4); (try clear hcz13_5); (try clear hcz13_6); (try clear hcz13_7); (try clear hcz16_0); (try clear hcz16_1); (try clear hcz16_2); (try clear hcz16_3); (try clear hcz16_4); (try clear hcz16_5); (try clear hcz16_6); (try clear hcz16_7); (try clear hcz21_0); (try clear hcz21_1); (try clear hcz21_2); (try clear hcz21_3); (try clear hcz21_4); (try clear hcz21_5); (try clear hcz21_6); (try clear hcz21_7); (try clear hcz25_0); (try clear hcz25_1); (try clear hcz25_2); (try clear hcz25_3); (try clear hcz25_4); (try clear hcz25_5); (try clear hcz25_6); (try clear hcz25_7); (try clear hcz31_0); (try clear hcz31_1); (try clear hcz31_2); (try clear hcz31_3); (try clear hcz31_4); (try clear hcz31_5); (try clear hcz31_6); (try clear hcz31_7); (try clear hcz35_0); (try clear hcz35_1); (try clear hcz35_2); (try clear hcz37_0); (try clear hcz37_1); (try clear hcz37_2); (try clear hcz41_0); (try clear hcz41_1); (try clear hcz41_2); (try clear hcz43_0); (try clear hcz43_1); (try clear hcz43_2); (try clear hcz49_0); (try clear hcz49_1); (try clear hcz49_2); (try clear hcz49_3); (try clear hcz49_4); (try clear hcz49_5); (try clear hcz49_6); (try clear hcz49_7); (try clear hcz54_0); (try clear hcz54_1); (try clear hcz54_2); (try clear hcz54_3); (try clear hcz54_4); (try clear hcz54_5); (try clear hcz54_6); (try clear hcz54_7); (try clear hcz56_0); (try clear hcz56_1); (try clear hcz56_2); (try clear hcz59_0); (try clear hcz59_1); (try clear hcz59_2); (try clear hcz59_3); (try clear hcz59_4); (try clear hcz59_5); (try clear hcz59_6); (try clear hcz59_7); (try clear hfz13_0); (try clear hfz13_1); (try clear hfz13_2); (try clear hfz13_3); (try clear hfz13_4); (try clear hfz13_5); (try clear hfz13_6); (try clear hfz13_7); (try clear hfz16_0); (try clear hfz16_1); (try clear hfz16_2); (try clear hfz16_3); (try clear hfz16_4); (try clear hfz16_5); (try clear hfz16_6); (try clear hfz16_7); (try clear hfz21_0); (try clear hfz21_1); (try clear hfz21_2); (try clear hfz21_3); (try clear hfz21_4); (try clear hfz21_5); (try clear hfz21_6); (try clear hfz21_7); (try clear hfz25_0); (try clear hfz25_1); (try clear hfz25_2); (try clear hfz25_3); (try clear hfz25_4); (try clear hfz25_5); (try clear hfz25_6); (try clear hfz25_7); (try clear hfz31_0); (try clear hfz31_1); (try clear hfz31_2); (try clear hfz31_3); (try clear hfz31_4); (try clear hfz31_5); (try clear hfz31_6); (try clear hfz31_7); (try clear hfz35_0); (try clear hfz35_1); (try clear hfz35_2); (try clear hfz37_0); (try clear hfz37_1); (try clear hfz37_2); (try clear hfz41_0); (try clear hfz41_1); (try clear hfz41_2); (try clear hfz43_0); (try clear hfz43_1); (try clear hfz43_2); (try clear hfz49_0); (try clear hfz49_1); (try clear hfz49_2); (try clear hfz49_3); (try clear hfz49_4); (try clear hfz49_5); (try clear hfz49_6); (try clear hfz49_7); (try clear hfz54_0); (try clear hfz54_1); (try clear hfz54_2); (try clear hfz54_3); (try clear hfz54_4); (try clear hfz54_5); (try clear hfz54_6); (try clear hfz54_7); (try clear hfz56_0); (try clear hfz56_1); (try clear hfz56_2); (try clear hfz59_0); (try clear hfz59_1); (try clear hfz59_2); (try clear hfz59_3); (try clear hfz59_4); (try clear hfz59_5); (try clear hfz59_6); (try clear hfz59_7); (try clear p2); (try clear p6)
         obtain ⟨kq, x75_45, rfl, HA, HJ45, BK171, BK172, BK173, HB⟩ := hcut
         cases kq with
         | zero => exact absurd HA.out (by simp [recur_fits.j2])
         | succ kj45 =>
          have H := HA.out
          clear HA
          simp only [recur_fits.j2] at H
          by_cases c60 : x75_45 = true
          ·subst c60
           have H1 : (some false) = some r := by rw [if_pos rfl] at H; exact H
           clear H
           have H := H1
           clear H1
           obtain rfl := Option.some.inj H
           go_wp2
           repeat (go_quiet (fail); try go_wp2)
           go_ret
           exact ⟨by first | rfl | (simp [errW_none, errW_some] <;> rfl) | (simp [*, errW_none, errW_some] <;> rfl), be⟩
          ·replace c60 := Bool.eq_false_iff.mpr c60
           subst c60
           have H1 : (if (l0_5.length : Int) > 0 then ((whole_Mod.f (wrap64 (a3 - 1)) 7).bind fun t177 => ((slices_Contains_int_int.f kj45 l0_5 t177).bind fun t178 => (recur_fits.j3 kj45 a4 (!t178) a0_0 a0_1 a0_2 a0_3 a0_4 l0_5 l0_6 l0_7 a2_0 a2_1 a2_2))) else (recur_fits.j3 kj45 a4 false a0_0 a0_1 a0_2 a0_3 a0_4 l0_5 l0_6 l0_7 a2_0 a2_1 a2_2)) = some r := by rw [if_neg (show ¬ (false = true) by decide)] at H; exact H
           clear H
           have H := H1
           clear H1
           have HC61 := Aside0.mk H
           clear H
           go_upto_region 17 with (fail)
           repeat (go_quiet (fail); go_upto_region 17 with (fail))
           go_cut [88] (fun v88 wc => ∃ (kq : Nat) (x88_60 : Bool), v88 = .bool x88_60 ∧ Aside0 (recur_fits.j3 kq a4 x88_60 a0_0 a0_1 a0_2 a0_3 a0_4 l0_5 l0_6 l0_7 a2_0 a2_1 a2_2 = some r) ∧ Aside0 (kq ≤ kj45) ∧ Aside0 (wc.heap[gb171]? = some (.cells #[.int .i64 a0_0, .int .i64 a0_1, .int .i64 a0_2, .int .i64 a0_3, .int .i64 a0_4, (.slice A0_5 l0_5.length c0_5), (.slice A0_6 l0_6.length c0_6), (.slice A0_7 l0_7.length c0_7)] 33 (0, 0))) ∧ Aside0 (wc.heap[gb172]? = some (.cells #[.int .i64 a1_0, .int .i64 a1_1, .int .i64 a1_2] 107 (0, 0))) ∧ Aside0 (wc.heap[gb173]? = some (.cells #[.int .i64 a2_0, .int .i64 a2_1, .int .i64 a2_2] 107 (0, 0))) ∧ Aside0 (Below w.heap.size w wc))
           case first =>
            have H := HC61.out
            clear HC61
            by_cases c62 : (l0_5.length : Int) > 0
            ·rw [if_pos c62] at H
             have c62b0 : decide (0 < (l0_5.length : Int)) = true := decide_eq_true c62
             have c62b1 : decide (0 < l0_5.length) = true := decide_eq_true (by omega)
             clear c62
             (first | rw [c62b0] | (simp only [i64_w, i32_w]; rw [c62b0]) | skip)
             replace H := Option.bind_eq_some_iff.mp H
             obtain ⟨t177, A630, H⟩ := H
             replace H : ((slices_Contains_int_int.f kj45 l0_5 t177).bind fun t178 => (recur_fits.j3 kj45 a4 (!t178) a0_0 a0_1 a0_2 a0_3 a0_4 l0_5 l0_6 l0_7 a2_0 a2_1 a2_2)) = some r := H
             have A63 := Aside0.mk A630
             clear A630
             replace H := Option.bind_eq_some_iff.mp H
             obtain ⟨t178, A640, H⟩ := H
             replace H : (recur_fits.j3 kj45 a4 (!t178) a0_0 a0_1 a0_2 a0_3 a0_4 l0_5 l0_6 l0_7 a2_0 a2_1 a2_2) = some r := H
             have A64 := Aside0.mk A640
             clear A640
             have H' := Aside0.mk H
             clear H
             have hnb65 := NB171_172.out
             have hnc65 := NB172_171.out
             have hnb66 := NB171_173.out
             have hnc66 := NB173_171.out
             obtain ⟨hcz67_0, hcz67_1, hcz67_2, hcz67_3, hcz67_4, hcz67_5, hcz67_6, hcz67_7, hfz67_0, hfz67_1, hfz67_2, hfz67_3, hfz67_4, hfz67_5, hfz67_6, hfz67_7⟩ := bc8 BK171
             go_wp2_with (first | (go_at_call 95; (with_reducible refine (whole_Mod.calls (wrap64 (a3 - 1)) 7 t177 _ A63.out).mono ?_); rintro e w' ⟨rfl, ⟨nd, rfl⟩⟩; (try first | exact ⟨rfl, _, World.drewN_drewN _ _ _⟩ | exact ⟨rfl, _, Eq.trans (World.drewN_drewN _ _ _) (congrArg (World.drewN _) (Nat.add_assoc _ _ _))⟩)) | (go_at_call 33; (with_reducible refine (slices_Contains_int_int.calls kj45 _ _ l0_5 t177 t178 _ ?side1 ?side2 A64.out).mono ?_); (case side1 => repeat (first | exact (Kd.C_below HR0_5.out be) | (with_reducible refine Kd.C_alloc ?_ _) | (with_reducible refine Kd.C_drewN ?_ _) | (with_reducible refine Kd.C_drew ?_))); (case side2 => exact HC0_5.out); rintro e w' ⟨rfl, ⟨nd, rfl⟩⟩; (try first | exact ⟨rfl, _, World.drewN_drewN _ _ _⟩ | exact ⟨rfl, _, Eq.trans (World.drewN_drewN _ _ _) (congrArg (World.drewN _) (Nat.add_assoc _ _ _))⟩)))
             repeat (go_quiet (first | (go_at_call 95; (with_reducible refine (whole_Mod.calls (wrap64 (a3 - 1)) 7 t177 _ A63.out).mono ?_); rintro e w' ⟨rfl, ⟨nd, rfl⟩⟩; (try first | exact ⟨rfl, _, World.drewN_drewN _ _ _⟩ | exact ⟨rfl, _, Eq.trans (World.drewN_drewN _ _ _) (congrArg (World.drewN _) (Nat.add_assoc _ _ _))⟩)) | (go_at_call 33; (with_reducible refine (slices_Contains_int_int.calls kj45 _ _ l0_5 t177 t178 _ ?side1 ?side2 A64.out).mono ?_); (case side1 => repeat (first | exact (Kd.C_below HR0_5.out be) | (with_reducible refine Kd.C_alloc ?_ _) | (with_reducible refine Kd.C_drewN ?_ _) | (with_reducible refine Kd.C_drew ?_))); (case side2 => exact HC0_5.out); rintro e w' ⟨rfl, ⟨nd, rfl⟩⟩; (try first | exact ⟨rfl, _, World.drewN_drewN _ _ _⟩ | exact ⟨rfl, _, Eq.trans (World.drewN_drewN _ _ _) (congrArg (World.drewN _) (Nat.add_assoc _ _ _))⟩))); try go_wp2_with (first | (go_at_call 95; (with_reducible refine (whole_Mod.calls (wrap64 (a3 - 1)) 7 t177 _ A63.out).mono ?_); rintro e w' ⟨rfl, ⟨nd, rfl⟩⟩; (try first | exact ⟨rfl, _, World.drewN_drewN _ _ _⟩ | exact ⟨rfl, _, Eq.trans (World.drewN_drewN _ _ _) (congrArg (World.drewN _) (Nat.add_assoc _ _ _))⟩)) | (go_at_call 33; (with_reducible refine (slices_Contains_int_int.calls kj45 _ _ l0_5 t177 t178 _ ?side1 ?side2 A64.out).mono ?_); (case side1 => repeat (first | exact (Kd.C_below HR0_5.out be) | (with_reducible refine Kd.C_alloc ?_ _) | (with_reducible refine Kd.C_drewN ?_ _) | (with_reducible refine Kd.C_drew ?_))); (case side2 => exact HC0_5.out); rintro e w' ⟨rfl, ⟨nd, rfl⟩⟩; (try first | exact ⟨rfl, _, World.drewN_drewN _ _ _⟩ | exact ⟨rfl, _, Eq.trans (World.drewN_drewN _ _ _) (congrArg (World.drewN _) (Nat.add_assoc _ _ _))⟩))))
             go_meet
             case rel => exact ⟨_, (!t178), rs, H', ⟨by have := HJ5.out; have := HJ17.out; have := HJ45.out; first | omega | exact Nat.le_refl _⟩, ⟨bk BK171⟩, ⟨bk BK172⟩, ⟨bk BK173⟩, ⟨be⟩⟩
            ·rw [if_neg c62] at H
             have c62b0 : decide (0 < (l0_5.length : Int)) = false := decide_eq_false c62
             have c62b1 : decide (0 < l0_5.length) = false := decide_eq_false (by omega)
             clear c62
             (first | rw [c62b0] | (simp only [i64_w, i32_w]; rw [c62b0]) | skip)
             have H' := Aside0.mk H
             clear H
             have hnb68 := NB171_172.out
             have hnc68 := NB172_171.out
             have hnb69 := NB171_173.out
             have hnc69 := NB173_171.out
             obtain ⟨hcz70_0, hcz70_1, hcz70_2, hcz70_3, hcz70_4, hcz70_5, hcz70_6, hcz70_7, hfz70_0, hfz70_1, hfz70_2, hfz70_3, hfz70_4, hfz70_5, hfz70_6, hfz70_7⟩ := bc8 BK171
             go_wp2
             repeat (go_quiet (fail); try go_wp2)
             go_meet
             case rel => exact ⟨_, (false), rs, H', ⟨by have := HJ5.out; have := HJ17.out; have := HJ45.out; first | omega | exact Nat.le_refl _⟩, ⟨bk BK171⟩, ⟨bk BK172⟩, ⟨bk BK173⟩, ⟨be⟩⟩
           case rest =>
            clear HC61
            (try clear c1); (try clear c2); (try clear p2); (try clear c3); (try clear c4); (try clear c5); (try clear c6); (try clear p6); (try clear c10); (try clear c10b0); (try clear c11); (try clear c12); (try clear c14); (try clear c15); (try clear c17); (try clear c19); (try clear c20); (try clear c22); (try clear c22b0); (try clear c22b1); (try clear c23); (try clear c24); (try clear c26); (try clear c26b0); (try clear c26b1); (try clear c29); (try clear c30); (try clear c32); (try clear c32b0); (try clear c32b1); (try clear c33); (try clear c34); (try clear c36); (try clear c38); (try clear c38b0); (try clear c38b1); (try clear c39); (try clear c40); (try clear c42); (try clear c44); (try clear c44b0); (try clear c44b1); (try clear c45); (try clear c45b0); (try clear c45b1); (try clear c47); (try clear c48); (try clear c50); (try clear c50b0); (try clear c50b1); (try clear c52); (try clear c53); (try clear c55); (try clear c57); (try clear c58); (try clear c59); (try clear c60); (try clear c62); (try clear c62b0); (try clear c62b1); (try clear p64); (try clear c65); (try clear c66); (try clear c68); (try clear c69); (try clear hcz13_0); (try clear hcz13_1); (try clear hcz13_2); (try clear hcz13_3); (try clear hcz13_4); (try clear hcz13_5); (try clear hcz13_6); (try clear hcz13_7); (try clear hcz16_0); (try clear hcz16_1); (try clear hcz16_2); (try clear hcz16_3); (try clear hcz16_4); (try clear hcz16_5); (try clear hcz16_6); (try clear hcz16_7); (try clear hcz21_0); (try clear hcz21_1); (try clear hcz21_2); (try clear hcz21_3); (try clear hcz21_4); (try clear hcz21_5); (try clear hcz21_6); (try clear hcz21_7); (try clear hcz25_0); (try clear hcz25_1); (try clear hcz25_2); (try clear hcz25_3); (try clear hcz25_4); (try clear hcz25_5); (try clear hcz25_6); (try clear hcz25_7); (try clear hcz31_0); (try clear hcz31_1); (try clear hcz31_2); (try clear hcz31_3); (try clear hcz31_4); (try clear hcz31_5); (try clear hcz31_6); (try clear hcz31_7); (try clear hcz35_0); (try clear hcz35_1); (try clear hcz35_2); (try clear hcz37_0); (try clear hcz37_1); (try clear hcz37_2); (try clear hcz41_0); (try clear hcz41_1); (try clear hcz41_2); (try clear hcz43_0); (try clear hcz43_1); (try clear hcz43_2); (try clear hcz49_0); (try clear hcz49_1); (try clear hcz49_2); (try clear hcz49_3); (try clear hcz49_4); (try clear hcz49_5); (try clear hcz49_6); (try clear hcz49_7); (try clear hcz54_0); (try clear hcz54_1); (try clear hcz54_2); (try clear hcz54_3); (try clear hcz54_4); (try clear hcz54_5); (try clear hcz54_6); (try clear hcz54_7); (try clear hcz56_0); (try clear hcz56_1); (try clear hcz56_2); (try clear hcz59_0); (try clear hcz59_1); (try clear hcz59_2); (try clear hcz59_3); (try clear hcz59_4); (try clear hcz59_5); (try clear hcz59_6); (try clear hcz59_7); (try clear hcz67_0); (try clear hcz67_1); (try clear hcz67_2); (try clear hcz67_3); (try clear hcz67_4); (try clear hcz67_5); (try clear hcz67_6); (try clear hcz67_7); (try clear hcz70_0); (try clear hcz70_1); (try clear hcz70_2); (try clear hcz70_3); (try clear hcz70_4); (try clear hcz70_5); (try clear hcz70_6); (try clear hcz70_7); (try clear hfz13_0); (try clear hfz13_1); (try clear hfz13_2); (try clear hfz13_3); (try clear hfz13_4); (try clear hfz13_5); (try clear hfz13_6); (try clear hfz13_7); (try clear hfz16_0); (try clear hfz16_1); (try clear hfz16_2); (try clear hfz16_3); (try clear hfz16_4); (try clear hfz16_5); (try clear hfz16_6); (try clear hfz16_7); (try clear hfz21_0); (try clear hfz21_1); (try clear hfz21_2); (try clear hfz21_3); (try clear hfz21_4); (try clear hfz21_5); (try clear hfz21_6); (try clear hfz21_7); (try clear hfz25_0); (try clear hfz25_1); (try clear hfz25_2); (try clear hfz25_3); (try clear hfz25_4); (try clear hfz25_5); (try clear hfz25_6); (try clear hfz25_7); (try clear hfz31_0); (try clear hfz31_1); (try clear hfz31_2); (try clear hfz31_3); (try clear hfz31_4); (try clear hfz31_5); (try clear hfz31_6); (try clear hfz31_7); (try clear hfz35_0); (try clear hfz35_1); (try clear hfz35_2); (try clear hfz37_0); (try clear hfz37_1); (try clear hfz37_2); (try clear hfz41_0); (try clear hfz41_1); (try clear hfz41_2); (try clear hfz43_0); (try clear hfz43_1); (try clear hfz43_2); (try clear hfz49_0); (try clear hfz49_1); (try clear hfz49_2); (try clear hfz49_3); (try clear hfz49_4); (try clear hfz49_5); (try clear hfz49_6); (try clear hfz49_7); (try clear hfz54_0); (try clear hfz54_1); (try clear hfz54_2); (try clear hfz54_3); (try clear hfz54_4); (try clear hfz54_5); (try clear hfz54_6); (try clear hfz54_7); (try clear hfz56_0); (try clear hfz56_1); (try clear hfz56_2); (try clear hfz59_0); (try clear hfz59_1); (try clear hfz59_2); (try clear hfz59_3); (try clear hfz59_4); (try clear hfz59_5); (try clear hfz59_6); (try clear hfz59_7); (try clear hfz67_0); (try clear hfz67_1); (try clear hfz67_2); (try clear hfz67_3); (try clear hfz67_4); (try clear hfz67_5); (try clear hfz67_6); (try clear hfz67_7); (try clear hfz70_0); (try clear hfz70_1); (try clear hfz70_2); (try clear hfz70_3); (try clear hfz70_4); (try clear hfz70_5); (try clear hfz70_6); (try clear hfz70_7); (try clear p2); (try clear p6)
            obtain ⟨kq, x88_60, rfl, HA, HJ60, BK171, BK172, BK173, HB⟩ := hcut
            cases kq with
            | zero => exact absurd HA.out (by simp [recur_fits.j3])
            | succ kj60 =>
             have H := HA.out
             clear HA
             simp only [recur_fits.j3] at H
             by_cases c71 : x88_60 = true
             ·subst c71
              have H1 : (some false) = some r := by rw [if_pos rfl] at H; exact H
              clear H
              have H := H1
              clear H1
              obtain rfl := Option.some.inj H
              go_wp2
              repeat (go_quiet (fail); try go_wp2)
              go_ret
              exact ⟨by first | rfl | (simp [errW_none, errW_some] <;> rfl) | (simp [*, errW_none, errW_some] <;> rfl), be⟩
             ·replace c71 := Bool.eq_false_iff.mpr c71
              subst c71
              have H1 : (if (l0_6.length : Int) = 0 then (some true) else ((slices_Contains_int_int.f kj60 l0_6 a2_2).bind fun t179 => (if t179 = true then (some true) else ((slices_Contains_int_int.f kj60 l0_6 (wrap64 ((wrap64 (a2_2 - a4)) - 1))).bind fun t180 => (some t180))))) = some r := by rw [if_neg (show ¬ (false = true) by decide)] at H; exact H
              clear H
              have H := H1
              clear H1
              by_cases c72 : (l0_6.length : Int) = 0
              ·rw [if_pos c72] at H
               have c72b0 : ((l0_6.length : Int) == 0) = true := beq_iff_eq.mpr c72
               have c72b1 : ((l0_6.length : Int) != 0) = false := bne_eq_false_iff_eq.mpr c72
               clear c72
               obtain rfl := Option.some.inj H
               have hnb73 := NB171_172.out
               have hnc73 := NB172_171.out
               have hnb74 := NB171_173.out
               have hnc74 := NB173_171.out
               obtain ⟨hcz75_0, hcz75_1, hcz75_2, hcz75_3, hcz75_4, hcz75_5, hcz75_6, hcz75_7, hfz75_0, hfz75_1, hfz75_2, hfz75_3, hfz75_4, hfz75_5, hfz75_6, hfz75_7⟩ := bc8 BK171
               go_wp2
               repeat (go_quiet (fail); try go_wp2)
               go_ret
               exact ⟨by first | rfl | (simp [errW_none, errW_some] <;> rfl) | (simp [*, errW_none, errW_some] <;> rfl), be⟩
              ·rw [if_neg c72] at H
               have c72b0 : ((l0_6.length : Int) == 0) = false := beq_eq_false_iff_ne.mpr c72
               have c72b1 : ((l0_6.length : Int) != 0) = true := bne_iff_ne.mpr c72
               have c72b2 : ¬ (l0_6 = []) := fun h_ => c72 (by rw [h_]; rfl)
               replace H := Option.bind_eq_some_iff.mp H
               obtain ⟨t179, A760, H⟩ := H
               replace H : (if t179 = true then (some true) else ((slices_Contains_int_int.f kj60 l0_6 (wrap64 ((wrap64 (a2_2 - a4)) - 1))).bind fun t180 => (some t180))) = some r := H
               have A76 := Aside0.mk A760
               clear A760
               by_cases c77 : t179 = true
               ·subst c77
                have H1 : (some true) = some r := by rw [if_pos rfl] at H; exact H
                clear H
                have H := H1
                clear H1
                obtain rfl := Option.some.inj H
                have hnb78 := NB171_172.out
                have hnc78 := NB172_171.out
                have hnb79 := NB171_173.out
                have hnc79 := NB173_171.out
                obtain ⟨hcz80_0, hcz80_1, hcz80_2, hcz80_3, hcz80_4, hcz80_5, hcz80_6, hcz80_7, hfz80_0, hfz80_1, hfz80_2, hfz80_3, hfz80_4, hfz80_5, hfz80_6, hfz80_7⟩ := bc8 BK171
                have hnb81 := NB173_172.out
                have hnc81 := NB172_173.out
                obtain ⟨hcz82_0, hcz82_1, hcz82_2, hfz82_0, hfz82_1, hfz82_2⟩ := bc3 BK173
                go_wp2_with (first | (go_at_call 33; (with_reducible refine (slices_Contains_int_int.calls kj60 _ _ l0_6 a2_2 true _ ?side1 ?side2 A76.out).mono ?_); (case side1 => exact kc (Kd.C_below HR0_6.out HB.out)); (case side2 => exact HC0_6.out); rintro e w' ⟨rfl, ⟨nd, rfl⟩⟩; (try first | exact ⟨rfl, _, World.drewN_drewN _ _ _⟩ | exact ⟨rfl, _, Eq.trans (World.drewN_drewN _ _ _) (congrArg (World.drewN _) (Nat.add_assoc _ _ _))⟩)))
                repeat (go_quiet (first | (go_at_call 33; (with_reducible refine (slices_Contains_int_int.calls kj60 _ _ l0_6 a2_2 true _ ?side1 ?side2 A76.out).mono ?_); (case side1 => exact kc (Kd.C_below HR0_6.out HB.out)); (case side2 => exact HC0_6.out); rintro e w' ⟨rfl, ⟨nd, rfl⟩⟩; (try first | exact ⟨rfl, _, World.drewN_drewN _ _ _⟩ | exact ⟨rfl, _, Eq.trans (World.drewN_drewN _ _ _) (congrArg (World.drewN _) (Nat.add_assoc _ _ _))⟩))); try go_wp2_with (first | (go_at_call 33; (with_reducible refine (slices_Contains_int_int.calls kj60 _ _ l0_6 a2_2 true _ ?side1 ?side2 A76.out).mono ?_); (case side1 => exact kc (Kd.C_below HR0_6.out HB.out)); (case side2 => exact HC0_6.out); rintro e w' ⟨rfl, ⟨nd, rfl⟩⟩; (try first | exact ⟨rfl, _, World.drewN_drewN _ _ _⟩ | exact ⟨rfl, _, Eq.trans (World.drewN_drewN _ _ _) (congrArg (World.drewN _) (Nat.add_assoc _ _ _))⟩))))
                go_ret
                exact ⟨by first | rfl | (simp [errW_none, errW_some] <;> rfl) | (simp [*, errW_none, errW_some] <;> rfl), be⟩
               ·replace c77 := Bool.eq_false_iff.mpr c77
                subst c77
                have H1 : ((slices_Contains_int_int.f kj60 l0_6 (wrap64 ((wrap64 (a2_2 - a4)) - 1))).bind fun t180 => (some t180)) = some r := by rw [if_neg (show ¬ (false = true) by decide)] at H; exact H
                clear H
                have H := H1
                clear H1
                replace H := Option.bind_eq_some_iff.mp H
                obtain ⟨t180, A830, H⟩ := H
                replace H : (some t180) = some r := H
                have A83 := Aside0.mk A830
                clear A830
                obtain rfl := Option.some.inj H
                have hnb84 := NB171_172.out
                have hnc84 := NB172_171.out
                have hnb85 := NB171_173.out
                have hnc85 := NB173_171.out
                obtain ⟨hcz86_0, hcz86_1, hcz86_2, hcz86_3, hcz86_4, hcz86_5, hcz86_6, hcz86_7, hfz86_0, hfz86_1, hfz86_2, hfz86_3, hfz86_4, hfz86_5, hfz86_6, hfz86_7⟩ := bc8 BK171
                have hnb87 := NB173_172.out
                have hnc87 := NB172_173.out
                obtain ⟨hcz88_0, hcz88_1, hcz88_2, hfz88_0, hfz88_1, hfz88_2⟩ := bc3 BK173
                go_wp2_with (first | (go_at_call 33; (with_reducible refine (slices_Contains_int_int.calls kj60 _ _ l0_6 a2_2 false _ ?side1 ?side2 A76.out).mono ?_); (case side1 => exact kc (Kd.C_below HR0_6.out HB.out)); (case side2 => exact HC0_6.out); rintro e w' ⟨rfl, ⟨nd, rfl⟩⟩; (try first | exact ⟨rfl, _, World.drewN_drewN _ _ _⟩ | exact ⟨rfl, _, Eq.trans (World.drewN_drewN _ _ _) (congrArg (World.drewN _) (Nat.add_assoc _ _ _))⟩)) | (go_at_call 33; (with_reducible refine (slices_Contains_int_int.calls kj60 _ _ l0_6 (wrap64 ((wrap64 (a2_2 - a4)) - 1)) t180 _ ?side1 ?side2 A83.out).mono ?_); (case side1 => repeat (first | exact (Kd.C_below HR0_6.out be) | (with_reducible refine Kd.C_alloc ?_ _) | (with_reducible refine Kd.C_drewN ?_ _) | (with_reducible refine Kd.C_drew ?_))); (case side2 => exact HC0_6.out); rintro e w' ⟨rfl, ⟨nd, rfl⟩⟩; (try first | exact ⟨rfl, _, World.drewN_drewN _ _ _⟩ | exact ⟨rfl, _, Eq.trans (World.drewN_drewN _ _ _) (congrArg (World.drewN _) (Nat.add_assoc _ _ _))⟩)))
                repeat (go_quiet (first | (go_at_call 33; (with_reducible refine (slices_Contains_int_int.calls kj60 _ _ l0_6 a2_2 false _ ?side1 ?side2 A76.out).mono ?_); (case side1 => exact kc (Kd.C_below HR0_6.out HB.out)); (case side2 => exact HC0_6.out); rintro e w' ⟨rfl, ⟨nd, rfl⟩⟩; (try first | exact ⟨rfl, _, World.drewN_drewN _ _ _⟩ | exact ⟨rfl, _, Eq.trans (World.drewN_drewN _ _ _) (congrArg (World.drewN _) (Nat.add_assoc _ _ _))⟩)) | (go_at_call 33; (with_reducible refine (slices_Contains_int_int.calls kj60 _ _ l0_6 (wrap64 ((wrap64 (a2_2 - a4)) - 1)) t180 _ ?side1 ?side2 A83.out).mono ?_); (case side1 => repeat (first | exact (Kd.C_below HR0_6.out be) | (with_reducible refine Kd.C_alloc ?_ _) | (with_reducible refine Kd.C_drewN ?_ _) | (with_reducible refine Kd.C_drew ?_))); (case side2 => exact HC0_6.out); rintro e w' ⟨rfl, ⟨nd, rfl⟩⟩; (try first | exact ⟨rfl, _, World.drewN_drewN _ _ _⟩ | exact ⟨rfl, _, Eq.trans (World.drewN_drewN _ _ _) (congrArg (World.drewN _) (Nat.add_assoc _ _ _))⟩))); try go_wp2_with (first | (go_at_call 33; (with_reducible refine (slices_Contains_int_int.calls kj60 _ _ l0_6 a2_2 false _ ?side1 ?side2 A76.out).mono ?_); (case side1 => exact kc (Kd.C_below HR0_6.out HB.out)); (case side2 => exact HC0_6.out); rintro e w' ⟨rfl, ⟨nd, rfl⟩⟩; (try first | exact ⟨rfl, _, World.drewN_drewN _ _ _⟩ | exact ⟨rfl, _, Eq.trans (World.drewN_drewN _ _ _) (congrArg (World.drewN _) (Nat.add_assoc _ _ _))⟩)) | (go_at_call 33; (with_reducible refine (slices_Contains_int_int.calls kj60 _ _ l0_6 (wrap64 ((wrap64 (a2_2 - a4)) - 1)) t180 _ ?side1 ?side2 A83.out).mono ?_); (case side1 => repeat (first | exact (Kd.C_below HR0_6.out be) | (with_reducible refine Kd.C_alloc ?_ _) | (with_reducible refine Kd.C_drewN ?_ _) | (with_reducible refine Kd.C_drew ?_))); (case side2 => exact HC0_6.out); rintro e w' ⟨rfl, ⟨nd, rfl⟩⟩; (try first | exact ⟨rfl, _, World.drewN_drewN _ _ _⟩ | exact ⟨rfl, _, Eq.trans (World.drewN_drewN _ _ _) (congrArg (World.drewN _) (Nat.add_assoc _ _ _))⟩))))
                go_ret
                exact ⟨by first | rfl | (simp [errW_none, errW_some] <;> rfl) | (simp [*, errW_none, errW_some] <;> rfl), be⟩
       ·rw [if_neg c45] at H
        have c45b0 : ((Int.tmod x11_17 a0_1) == 0) = false := beq_eq_false_iff_ne.mpr c45
        have c45b1 : ((Int.tmod x11_17 a0_1) != 0) = true := bne_iff_ne.mpr c45
        obtain rfl := Option.some.inj H
        have hnb89 := NB171_172.out
        have hnc89 := NB172_171.out
        have hnb90 := NB171_173.out
        have hnc90 := NB173_171.out
        obtain ⟨hcz91_0, hcz91_1, hcz91_2, hcz91_3, hcz91_4, hcz91_5, hcz91_6, hcz91_7, hfz91_0, hfz91_1, hfz91_2, hfz91_3, hfz91_4, hfz91_5, hfz91_6, hfz91_7⟩ := bc8 BK171
        go_wp2
        repeat (go_quiet (fail); try go_wp2)
        go_ret
        exact ⟨by first | rfl | (simp [errW_none, errW_some] <;> rfl) | (simp [*, errW_none, errW_some] <;> rfl), be⟩

end Go.Proofs.Ytlfammlboncmeaa.PRecurLists
