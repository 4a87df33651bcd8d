/- The walks of the functions of this part. The proof of ephemerisref1_RecurFits (in part) is written by hand; the other ones are as the kit's print tells them. -/
-- The walks of the law's functions, told by a program.
import Derived.Test.YtlfammlboncmeaaY
import Derived.Test.YtlfammlboncmeaaPRecurListsx0
import Derived.Test.YtlfammlboncmeaaPRecurListsx7
import Derived.Test.YtlfammlboncmeaaPRecurListsx9
import Derived.Test.YtlfammlboncmeaaPRecurListsx10
namespace Go.Proofs.Ytlfammlboncmeaa.PRecurLists
open Go.RowKit Go.Proofs.YtlfammlboncmeaaW.PrintWords Go.Proofs.YtlfammlboncmeaaW.PrintLast Go.Proofs.YtlfammlboncmeaaW.PrintMore Go.Proofs.Ytlfammlboncmeaa.Y
attribute [local go_sem] max2_int min2_int max_two min_two max_three min_three max_four min_four   -- for this text's walks alone
set_option linter.unusedVariables false
set_option linter.unusedSimpArgs false

/-! ### ephemerisref1_RecurFits: function 60 -/
mutual
def ephemerisref1_RecurFits.j0 : Nat → Int → Bool → Int → Int → Int → Int → Int → List Int → List Int → List Int → Int → Int → Int → Int → Int → Int → Option (Bool)
 | 0, _, _, _, _, _, _, _, _, _, _, _, _, _, _, _, _ => none
 | k + 1, x1, x87, x264000, x264001, x264002, x264003, x264004, x264005, x264006, x264007, x272000, x272001, x272002, x273000, x273001, x273002 => if x87 = true then (some false) else (ephemerisref1_RecurFits.l0 k x1 (-1) (wrap64 (x1 + 1)) x264000 x264001 x264002 x264003 x264004 x264005 x264006 x264007 x272000 x272001 x272002 x273000 x273001 x273002)
def ephemerisref1_RecurFits.l0 : Nat → Int → Int → Int → Int → Int → Int → Int → Int → List Int → List Int → List Int → Int → Int → Int → Int → Int → Int → Option (Bool)
 | 0, _, _, _, _, _, _, _, _, _, _, _, _, _, _, _, _, _ => none
 | k + 1, x1, x8, x9, x264000, x264001, x264002, x264003, x264004, x264005, x264006, x264007, x272000, x272001, x272002, x273000, x273001, x273002 => (ephemerisref1_Greg.f k x9).bind fun bt285 => (if bt285.2.1 = x273001 then (ephemerisref1_RecurFits.l0 k x1 (wrap64 (x8 - 1)) (wrap64 (x9 + 1)) x264000 x264001 x264002 x264003 x264004 x264005 x264006 x264007 x272000 x272001 x272002 x273000 x273001 x273002) else (if (x264006.length : Int) > 0 then ((ephemerisref1_has.f k x264006 x273002).bind fun t288 => (if t288 = true then (some true) else ((ephemerisref1_has.f k x264006 x8).bind fun t289 => (some t289)))) else (if (x264005.length : Int) > 0 then (some true) else (if x264000 = 2 then ((ephemerisref1_Week.f k x1).bind fun t290 => ((ephemerisref1_Week.f k x264002).bind fun t291 => (some (t290 == t291)))) else (if x264000 = 3 then (some (x273002 == x272002)) else (if x264000 = 4 then (if x273002 = x272002 then (if (x264007.length : Int) > 0 then (some true) else (some (x273001 == x272001))) else (some false)) else (some true)))))))
end
def ephemerisref1_RecurFits.f (k : Nat) (a0_0 : Int) (a0_1 : Int) (a0_2 : Int) (a0_3 : Int) (a0_4 : Int) (l0_5 : List Int) (l0_6 : List Int) (l0_7 : List Int) (a1 : Int) : Option (Bool) := (ephemerisref1_In.f a1 a0_2 a0_4).bind fun t264 => (if t264 = true then ((ephemerisref1_Greg.f k a0_2).bind fun bt265 => ((ephemerisref1_Greg.f k a1).bind fun bt268 => ((ephemerisref1_Floor.f k (wrap64 (a1 + 6)) 7).bind fun t273 => ((ephemerisref1_Floor.f k (wrap64 (a0_2 + 6)) 7).bind fun t274 => ((some (([0, wrap64 (a1 - a0_2), wrap64 (t273 - t274), wrap64 ((wrap64 ((wrap64 (bt268.1 * 12)) + bt268.2.1)) - (wrap64 ((wrap64 (bt265.1 * 12)) + bt265.2.1))), wrap64 (bt268.1 - bt265.1)] : List Int) : List Int)).bind fun y275 => (if 0 ≤ a0_0 then (if a0_0 < (y275.length : Int) then ((ephemerisref1_Mod.f k (rd y275 a0_0) a0_1).bind fun t279 => (if t279 = 0 then (if (l0_7.length : Int) > 0 then ((ephemerisref1_has.f k l0_7 bt268.2.1).bind fun t280 => (if t280 = true then (if (l0_5.length : Int) > 0 then ((ephemerisref1_Week.f k a1).bind fun t281 => ((ephemerisref1_has.f k l0_5 t281).bind fun t282 => (ephemerisref1_RecurFits.j0 k a1 (!t282) a0_0 a0_1 a0_2 a0_3 a0_4 l0_5 l0_6 l0_7 bt265.1 bt265.2.1 bt265.2.2 bt268.1 bt268.2.1 bt268.2.2))) else (ephemerisref1_RecurFits.j0 k a1 false a0_0 a0_1 a0_2 a0_3 a0_4 l0_5 l0_6 l0_7 bt265.1 bt265.2.1 bt265.2.2 bt268.1 bt268.2.1 bt268.2.2)) else (ephemerisref1_RecurFits.j0 k a1 true a0_0 a0_1 a0_2 a0_3 a0_4 l0_5 l0_6 l0_7 bt265.1 bt265.2.1 bt265.2.2 bt268.1 bt268.2.1 bt268.2.2))) else (if (l0_5.length : Int) > 0 then ((ephemerisref1_Week.f k a1).bind fun t283 => ((ephemerisref1_has.f k l0_5 t283).bind fun t284 => (ephemerisref1_RecurFits.j0 k a1 (!t284) a0_0 a0_1 a0_2 a0_3 a0_4 l0_5 l0_6 l0_7 bt265.1 bt265.2.1 bt265.2.2 bt268.1 bt268.2.1 bt268.2.2))) else (ephemerisref1_RecurFits.j0 k a1 false a0_0 a0_1 a0_2 a0_3 a0_4 l0_5 l0_6 l0_7 bt265.1 bt265.2.1 bt265.2.2 bt268.1 bt268.2.1 bt268.2.2))) else (some false))) else (none)) else (none))))))) else (some false))
theorem ephemerisref1_RecurFits.mono_l : ∀ k, (∀ y0 y1 y2 y3 y4 y5 y6 y7 y8 y9 y10 y11 y12 y13 y14 y15, LeO (ephemerisref1_RecurFits.j0 k y0 y1 y2 y3 y4 y5 y6 y7 y8 y9 y10 y11 y12 y13 y14 y15) (ephemerisref1_RecurFits.j0 (k + 1) y0 y1 y2 y3 y4 y5 y6 y7 y8 y9 y10 y11 y12 y13 y14 y15)) ∧ (∀ y0 y1 y2 y3 y4 y5 y6 y7 y8 y9 y10 y11 y12 y13 y14 y15 y16, LeO (ephemerisref1_RecurFits.l0 k y0 y1 y2 y3 y4 y5 y6 y7 y8 y9 y10 y11 y12 y13 y14 y15 y16) (ephemerisref1_RecurFits.l0 (k + 1) y0 y1 y2 y3 y4 y5 y6 y7 y8 y9 y10 y11 y12 y13 y14 y15 y16))
 | 0 => ⟨fun _ _ _ _ _ _ _ _ _ _ _ _ _ _ _ _ r h => by simp [ephemerisref1_RecurFits.j0] at h, fun _ _ _ _ _ _ _ _ _ _ _ _ _ _ _ _ _ r h => by simp [ephemerisref1_RecurFits.l0] at h⟩
 | k + 1 => by
  obtain ⟨ih0, ih1⟩ := ephemerisref1_RecurFits.mono_l k
  refine ⟨?_, ?_⟩
  ·intro y0 y1 y2 y3 y4 y5 y6 y7 y8 y9 y10 y11 y12 y13 y14 y15
   unfold ephemerisref1_RecurFits.j0
   repeat' first
   | (with_reducible exact ih0 _ _ _ _ _ _ _ _ _ _ _ _ _ _ _ _)
   | (with_reducible exact ih1 _ _ _ _ _ _ _ _ _ _ _ _ _ _ _ _ _)
   | (with_reducible exact ephemerisref1_Floor.mono _ _ _)
   | (with_reducible exact ephemerisref1_Greg.mono _ _)
   | (with_reducible exact ephemerisref1_Mod.mono _ _ _)
   | (with_reducible exact ephemerisref1_Week.mono _ _)
   | (with_reducible exact ephemerisref1_has.mono _ _ _)
   | (with_reducible exact LeO.refl _)
   | (with_reducible exact LeO.none _)
   | (with_reducible refine LeO.ite ?_ ?_)
   | (with_reducible refine LeO.bind ?_ (fun _ => ?_))
   | exact ih0 _ _ _ _ _ _ _ _ _ _ _ _ _ _ _ _
   | exact ih1 _ _ _ _ _ _ _ _ _ _ _ _ _ _ _ _ _
   | exact ephemerisref1_Floor.mono _ _ _
   | exact ephemerisref1_Greg.mono _ _
   | exact ephemerisref1_Mod.mono _ _ _
   | exact ephemerisref1_Week.mono _ _
   | exact ephemerisref1_has.mono _ _ _
   | exact LeO.none _
   | refine LeO.ite ?_ ?_
   | refine LeO.bind ?_ (fun _ => ?_)
  ·intro y0 y1 y2 y3 y4 y5 y6 y7 y8 y9 y10 y11 y12 y13 y14 y15 y16
   unfold ephemerisref1_RecurFits.l0
   repeat' first
   | (with_reducible exact ih0 _ _ _ _ _ _ _ _ _ _ _ _ _ _ _ _)
   | (with_reducible exact ih1 _ _ _ _ _ _ _ _ _ _ _ _ _ _ _ _ _)
   | (with_reducible exact ephemerisref1_Floor.mono _ _ _)
   | (with_reducible exact ephemerisref1_Greg.mono _ _)
   | (with_reducible exact ephemerisref1_Mod.mono _ _ _)
   | (with_reducible exact ephemerisref1_Week.mono _ _)
   | (with_reducible exact ephemerisref1_has.mono _ _ _)
   | (with_reducible exact LeO.refl _)
   | (with_reducible exact LeO.none _)
   | (with_reducible refine LeO.ite ?_ ?_)
   | (with_reducible refine LeO.bind ?_ (fun _ => ?_))
   | exact ih0 _ _ _ _ _ _ _ _ _ _ _ _ _ _ _ _
   | exact ih1 _ _ _ _ _ _ _ _ _ _ _ _ _ _ _ _ _
   | exact ephemerisref1_Floor.mono _ _ _
   | exact ephemerisref1_Greg.mono _ _
   | exact ephemerisref1_Mod.mono _ _ _
   | exact ephemerisref1_Week.mono _ _
   | exact ephemerisref1_has.mono _ _ _
   | exact LeO.none _
   | refine LeO.ite ?_ ?_
   | refine LeO.bind ?_ (fun _ => ?_)
theorem ephemerisref1_RecurFits.mono : ∀ a0 a1 a2 a3 a4 a5 a6 a7 a8 k, LeO (ephemerisref1_RecurFits.f k a0 a1 a2 a3 a4 a5 a6 a7 a8) (ephemerisref1_RecurFits.f (k + 1) a0 a1 a2 a3 a4 a5 a6 a7 a8) := by
 intro a0 a1 a2 a3 a4 a5 a6 a7 a8 k
 obtain ⟨ih0, ih1⟩ := ephemerisref1_RecurFits.mono_l k
 unfold ephemerisref1_RecurFits.f
 repeat' first
   | (with_reducible exact ih0 _ _ _ _ _ _ _ _ _ _ _ _ _ _ _ _)
   | (with_reducible exact ih1 _ _ _ _ _ _ _ _ _ _ _ _ _ _ _ _ _)
   | (with_reducible exact ephemerisref1_Floor.mono _ _ _)
   | (with_reducible exact ephemerisref1_Greg.mono _ _)
   | (with_reducible exact ephemerisref1_Mod.mono _ _ _)
   | (with_reducible exact ephemerisref1_Week.mono _ _)
   | (with_reducible exact ephemerisref1_has.mono _ _ _)
   | (with_reducible exact LeO.refl _)
   | (with_reducible exact LeO.none _)
   | (with_reducible refine LeO.ite ?_ ?_)
   | (with_reducible refine LeO.bind ?_ (fun _ => ?_))
   | exact ih0 _ _ _ _ _ _ _ _ _ _ _ _ _ _ _ _
   | exact ih1 _ _ _ _ _ _ _ _ _ _ _ _ _ _ _ _ _
   | exact ephemerisref1_Floor.mono _ _ _
   | exact ephemerisref1_Greg.mono _ _
   | exact ephemerisref1_Mod.mono _ _ _
   | exact ephemerisref1_Week.mono _ _
   | exact ephemerisref1_has.mono _ _ _
   | exact LeO.none _
   | refine LeO.ite ?_ ?_
   | refine LeO.bind ?_ (fun _ => ?_)
def ephemerisref1_RecurFits.T4 : Bool × List (List Nat × List Nat) := (true, [([], []), ([], []), ([1], [1]), ([0, 2], [0, 2]), ([], []), ([4], [4]), ([5], [5]), ([], []), ([7], [7]), ([8], [8]), ([9, 6], [9]), ([6, 10], [6, 10]), ([], []), ([12], [12]), ([13], [13]), ([], []), ([15], [15]), ([14, 16], [14, 16]), ([], []), ([18], [18]), ([19], [19]), ([], []), ([21], [21]), ([20, 22], [20, 22]), ([17, 23], [17, 23]), ([], []), ([25], [25]), ([], []), ([27], [27]), ([26, 28], [26, 28]), ([3, 11, 24, 29], [3, 11, 24, 29]), ([], []), ([31], [31]), ([30, 32], [30, 32]), ([33], [33]), ([34, 10, 0, 1, 2, 3, 4, 5, 6, 7, 8, 9, 10, 11, 12, 13, 14, 15, 16, 17, 18, 19, 20, 21, 22, 23, 24, 25, 26, 27, 28, 29, 30, 31, 32, 33, 34], [34])])
def ephemerisref1_RecurFits.B4 : List Nat := [0, 0, 2, 7, 0, 16, 48, 0, 128, 384, 1008, 2032, 0, 4096, 12288, 0, 32768, 126976, 0, 262144, 786432, 0, 2097152, 8126464, 16773120, 0, 33554432, 0, 134217728, 503316480, 1073741823, 0, 2147483648, 8589934591, 17179869183, 34359738367]
theorem ephemerisref1_RecurFits.tab4 : rtab .any (opsOf Try.f60 4) = ephemerisref1_RecurFits.T4 := by kernel_rfl
theorem ephemerisref1_RecurFits.bits4 : waitsOk ephemerisref1_RecurFits.T4.2 ephemerisref1_RecurFits.B4 = true := by kernel_rfl
def ephemerisref1_RecurFits.T7 : Bool × List (List Nat × List Nat) := (true, [([], []), ([0], [0]), ([1], [1]), ([2], [2]), ([3], [3]), ([4], [4]), ([5, 4], [4, 5]), ([4], [4]), ([7, 4], [4, 7]), ([6, 8, 4, 4], [4, 6, 8]), ([9, 4], [4, 9]), ([4, 10], [4, 10]), ([11, 9], [11]), ([12], [12]), ([13, 12], [12, 13]), ([14, 12], [12, 14]), ([15, 12], [12, 15]), ([16, 12, 12], [12, 16]), ([17], [17]), ([18, 17], [17, 18]), ([17], [17]), ([20, 17, 17], [17, 20]), ([19, 21, 21, 17], [17, 19, 21]), ([22, 17], [17, 22]), ([17, 23, 12], [12, 17, 23]), ([12, 24], [12, 24])])
def ephemerisref1_RecurFits.B7 : List Nat := [0, 1, 3, 7, 15, 31, 63, 31, 159, 511, 1023, 2047, 4095, 8191, 16383, 32767, 65535, 131071, 262143, 524287, 262143, 1310719, 4194303, 8388607, 16777215, 33554431]
theorem ephemerisref1_RecurFits.tab7 : rtab .any (opsOf Try.f60 7) = ephemerisref1_RecurFits.T7 := by kernel_rfl
theorem ephemerisref1_RecurFits.bits7 : waitsOk ephemerisref1_RecurFits.T7.2 ephemerisref1_RecurFits.B7 = true := by kernel_rfl
set_option maxHeartbeats 8000000 in
set_option maxRecDepth 100000 in
theorem ephemerisref1_RecurFits.calls (k : Nat) (a0_0 : Int) (a0_1 : Int) (a0_2 : Int) (a0_3 : Int) (a0_4 : Int) (A0_5 : Option Addr) (c0_5 : Nat) (l0_5 : List Int) (A0_6 : Option Addr) (c0_6 : Nat) (l0_6 : List Int) (A0_7 : Option Addr) (c0_7 : Nat) (l0_7 : List Int) (a1 : Int) (r : Bool) (w : World) (hr0_5 : Kd.C (Kd.int .i64) w A0_5 l0_5.length l0_5) (hc0_5 : l0_5.length ≤ c0_5) (hr0_6 : Kd.C (Kd.int .i64) w A0_6 l0_6.length l0_6) (hc0_6 : l0_6.length ≤ c0_6) (hr0_7 : Kd.C (Kd.int .i64) w A0_7 l0_7.length l0_7) (hc0_7 : l0_7.length ≤ c0_7) (h : ephemerisref1_RecurFits.f k a0_0 a0_1 a0_2 a0_3 a0_4 l0_5 l0_6 l0_7 a1 = some r) :
  Calls Try.prog 60 #[.agg #[.int .i64 a0_0, .int .i64 a0_1, .int .i64 a0_2, .int .i64 a0_3, .int .i64 a0_4, .slice A0_5 l0_5.length c0_5, .slice A0_6 l0_6.length c0_6, .slice A0_7 l0_7.length c0_7], .int .i64 a1] w fun e w' => e = .returned (.bool r) ∧ Below w.heap.size w w' := by
 have hu33 := Try.underlying33
 have hu107 := Try.underlying107
 have hfd107_0 : ∀ (a0 a1 a2 : Int) (w_ : World), (Instr.field 107 (.agg #[.int .i64 a0, .int .i64 a1, .int .i64 a2]) 0).run Try.prog w_ = .ok (.int .i64 a0) w_ := fun _ _ _ _ => by kernel_rfl
 have hfd107_1 : ∀ (a0 a1 a2 : Int) (w_ : World), (Instr.field 107 (.agg #[.int .i64 a0, .int .i64 a1, .int .i64 a2]) 1).run Try.prog w_ = .ok (.int .i64 a1) w_ := fun _ _ _ _ => by kernel_rfl
 have hfd107_2 : ∀ (a0 a1 a2 : Int) (w_ : World), (Instr.field 107 (.agg #[.int .i64 a0, .int .i64 a1, .int .i64 a2]) 2).run Try.prog w_ = .ok (.int .i64 a2) w_ := fun _ _ _ _ => by kernel_rfl
 have HR0_5 := Aside0.mk hr0_5
 have HC0_5 := Aside0.mk hc0_5
 clear hr0_5 hc0_5
 have HR0_6 := Aside0.mk hr0_6
 have HC0_6 := Aside0.mk hc0_6
 clear hr0_6 hc0_6
 have HR0_7 := Aside0.mk hr0_7
 have HC0_7 := Aside0.mk hc0_7
 clear hr0_7 hc0_7
 have HB := Aside0.mk (Below.refl w.heap.size w)
 have H : ((ephemerisref1_In.f a1 a0_2 a0_4).bind fun t264 => (if t264 = true then ((ephemerisref1_Greg.f k a0_2).bind fun bt265 => ((ephemerisref1_Greg.f k a1).bind fun bt268 => ((ephemerisref1_Floor.f k (wrap64 (a1 + 6)) 7).bind fun t273 => ((ephemerisref1_Floor.f k (wrap64 (a0_2 + 6)) 7).bind fun t274 => ((some (([0, wrap64 (a1 - a0_2), wrap64 (t273 - t274), wrap64 ((wrap64 ((wrap64 (bt268.1 * 12)) + bt268.2.1)) - (wrap64 ((wrap64 (bt265.1 * 12)) + bt265.2.1))), wrap64 (bt268.1 - bt265.1)] : List Int) : List Int)).bind fun y275 => (if 0 ≤ a0_0 then (if a0_0 < (y275.length : Int) then ((ephemerisref1_Mod.f k (rd y275 a0_0) a0_1).bind fun t279 => (if t279 = 0 then (if (l0_7.length : Int) > 0 then ((ephemerisref1_has.f k l0_7 bt268.2.1).bind fun t280 => (if t280 = true then (if (l0_5.length : Int) > 0 then ((ephemerisref1_Week.f k a1).bind fun t281 => ((ephemerisref1_has.f k l0_5 t281).bind fun t282 => (ephemerisref1_RecurFits.j0 k a1 (!t282) a0_0 a0_1 a0_2 a0_3 a0_4 l0_5 l0_6 l0_7 bt265.1 bt265.2.1 bt265.2.2 bt268.1 bt268.2.1 bt268.2.2))) else (ephemerisref1_RecurFits.j0 k a1 false a0_0 a0_1 a0_2 a0_3 a0_4 l0_5 l0_6 l0_7 bt265.1 bt265.2.1 bt265.2.2 bt268.1 bt268.2.1 bt268.2.2)) else (ephemerisref1_RecurFits.j0 k a1 true a0_0 a0_1 a0_2 a0_3 a0_4 l0_5 l0_6 l0_7 bt265.1 bt265.2.1 bt265.2.2 bt268.1 bt268.2.1 bt268.2.2))) else (if (l0_5.length : Int) > 0 then ((ephemerisref1_Week.f k a1).bind fun t283 => ((ephemerisref1_has.f k l0_5 t283).bind fun t284 => (ephemerisref1_RecurFits.j0 k a1 (!t284) a0_0 a0_1 a0_2 a0_3 a0_4 l0_5 l0_6 l0_7 bt265.1 bt265.2.1 bt265.2.2 bt268.1 bt268.2.1 bt268.2.2))) else (ephemerisref1_RecurFits.j0 k a1 false a0_0 a0_1 a0_2 a0_3 a0_4 l0_5 l0_6 l0_7 bt265.1 bt265.2.1 bt265.2.2 bt268.1 bt268.2.1 bt268.2.2))) else (some false))) else (none)) else (none))))))) else (some false))) = some r := h
 clear h
 replace H := Option.bind_eq_some_iff.mp H
 obtain ⟨t264, A30, H⟩ := H
 replace H : (if t264 = true then ((ephemerisref1_Greg.f k a0_2).bind fun bt265 => ((ephemerisref1_Greg.f k a1).bind fun bt268 => ((ephemerisref1_Floor.f k (wrap64 (a1 + 6)) 7).bind fun t273 => ((ephemerisref1_Floor.f k (wrap64 (a0_2 + 6)) 7).bind fun t274 => ((some (([0, wrap64 (a1 - a0_2), wrap64 (t273 - t274), wrap64 ((wrap64 ((wrap64 (bt268.1 * 12)) + bt268.2.1)) - (wrap64 ((wrap64 (bt265.1 * 12)) + bt265.2.1))), wrap64 (bt268.1 - bt265.1)] : List Int) : List Int)).bind fun y275 => (if 0 ≤ a0_0 then (if a0_0 < (y275.length : Int) then ((ephemerisref1_Mod.f k (rd y275 a0_0) a0_1).bind fun t279 => (if t279 = 0 then (if (l0_7.length : Int) > 0 then ((ephemerisref1_has.f k l0_7 bt268.2.1).bind fun t280 => (if t280 = true then (if (l0_5.length : Int) > 0 then ((ephemerisref1_Week.f k a1).bind fun t281 => ((ephemerisref1_has.f k l0_5 t281).bind fun t282 => (ephemerisref1_RecurFits.j0 k a1 (!t282) a0_0 a0_1 a0_2 a0_3 a0_4 l0_5 l0_6 l0_7 bt265.1 bt265.2.1 bt265.2.2 bt268.1 bt268.2.1 bt268.2.2))) else (ephemerisref1_RecurFits.j0 k a1 false a0_0 a0_1 a0_2 a0_3 a0_4 l0_5 l0_6 l0_7 bt265.1 bt265.2.1 bt265.2.2 bt268.1 bt268.2.1 bt268.2.2)) else (ephemerisref1_RecurFits.j0 k a1 true a0_0 a0_1 a0_2 a0_3 a0_4 l0_5 l0_6 l0_7 bt265.1 bt265.2.1 bt265.2.2 bt268.1 bt268.2.1 bt268.2.2))) else (if (l0_5.length : Int) > 0 then ((ephemerisref1_Week.f k a1).bind fun t283 => ((ephemerisref1_has.f k l0_5 t283).bind fun t284 => (ephemerisref1_RecurFits.j0 k a1 (!t284) a0_0 a0_1 a0_2 a0_3 a0_4 l0_5 l0_6 l0_7 bt265.1 bt265.2.1 bt265.2.2 bt268.1 bt268.2.1 bt268.2.2))) else (ephemerisref1_RecurFits.j0 k a1 false a0_0 a0_1 a0_2 a0_3 a0_4 l0_5 l0_6 l0_7 bt265.1 bt265.2.1 bt265.2.2 bt268.1 bt268.2.1 bt268.2.2))) else (some false))) else (none)) else (none))))))) else (some false)) = some r := H
 have A3 := Aside0.mk A30
 clear A30
 by_cases c4 : t264 = true
 ·subst c4
  have H1 : ((ephemerisref1_Greg.f k a0_2).bind fun bt265 => ((ephemerisref1_Greg.f k a1).bind fun bt268 => ((ephemerisref1_Floor.f k (wrap64 (a1 + 6)) 7).bind fun t273 => ((ephemerisref1_Floor.f k (wrap64 (a0_2 + 6)) 7).bind fun t274 => ((some (([0, wrap64 (a1 - a0_2), wrap64 (t273 - t274), wrap64 ((wrap64 ((wrap64 (bt268.1 * 12)) + bt268.2.1)) - (wrap64 ((wrap64 (bt265.1 * 12)) + bt265.2.1))), wrap64 (bt268.1 - bt265.1)] : List Int) : List Int)).bind fun y275 => (if 0 ≤ a0_0 then (if a0_0 < (y275.length : Int) then ((ephemerisref1_Mod.f k (rd y275 a0_0) a0_1).bind fun t279 => (if t279 = 0 then (if (l0_7.length : Int) > 0 then ((ephemerisref1_has.f k l0_7 bt268.2.1).bind fun t280 => (if t280 = true then (if (l0_5.length : Int) > 0 then ((ephemerisref1_Week.f k a1).bind fun t281 => ((ephemerisref1_has.f k l0_5 t281).bind fun t282 => (ephemerisref1_RecurFits.j0 k a1 (!t282) a0_0 a0_1 a0_2 a0_3 a0_4 l0_5 l0_6 l0_7 bt265.1 bt265.2.1 bt265.2.2 bt268.1 bt268.2.1 bt268.2.2))) else (ephemerisref1_RecurFits.j0 k a1 false a0_0 a0_1 a0_2 a0_3 a0_4 l0_5 l0_6 l0_7 bt265.1 bt265.2.1 bt265.2.2 bt268.1 bt268.2.1 bt268.2.2)) else (ephemerisref1_RecurFits.j0 k a1 true a0_0 a0_1 a0_2 a0_3 a0_4 l0_5 l0_6 l0_7 bt265.1 bt265.2.1 bt265.2.2 bt268.1 bt268.2.1 bt268.2.2))) else (if (l0_5.length : Int) > 0 then ((ephemerisref1_Week.f k a1).bind fun t283 => ((ephemerisref1_has.f k l0_5 t283).bind fun t284 => (ephemerisref1_RecurFits.j0 k a1 (!t284) a0_0 a0_1 a0_2 a0_3 a0_4 l0_5 l0_6 l0_7 bt265.1 bt265.2.1 bt265.2.2 bt268.1 bt268.2.1 bt268.2.2))) else (ephemerisref1_RecurFits.j0 k a1 false a0_0 a0_1 a0_2 a0_3 a0_4 l0_5 l0_6 l0_7 bt265.1 bt265.2.1 bt265.2.2 bt268.1 bt268.2.1 bt268.2.2))) else (some false))) else (none)) else (none))))))) = some r := by rw [if_pos rfl] at H; exact H
  clear H
  have H := H1
  clear H1
  replace H := Option.bind_eq_some_iff.mp H
  obtain ⟨⟨t265, t266, t267⟩, A50, H⟩ := H
  replace H : ((ephemerisref1_Greg.f k a1).bind fun bt268 => ((ephemerisref1_Floor.f k (wrap64 (a1 + 6)) 7).bind fun t273 => ((ephemerisref1_Floor.f k (wrap64 (a0_2 + 6)) 7).bind fun t274 => ((some (([0, wrap64 (a1 - a0_2), wrap64 (t273 - t274), wrap64 ((wrap64 ((wrap64 (bt268.1 * 12)) + bt268.2.1)) - (wrap64 ((wrap64 (t265 * 12)) + t266))), wrap64 (bt268.1 - t265)] : List Int) : List Int)).bind fun y275 => (if 0 ≤ a0_0 then (if a0_0 < (y275.length : Int) then ((ephemerisref1_Mod.f k (rd y275 a0_0) a0_1).bind fun t279 => (if t279 = 0 then (if (l0_7.length : Int) > 0 then ((ephemerisref1_has.f k l0_7 bt268.2.1).bind fun t280 => (if t280 = true then (if (l0_5.length : Int) > 0 then ((ephemerisref1_Week.f k a1).bind fun t281 => ((ephemerisref1_has.f k l0_5 t281).bind fun t282 => (ephemerisref1_RecurFits.j0 k a1 (!t282) a0_0 a0_1 a0_2 a0_3 a0_4 l0_5 l0_6 l0_7 t265 t266 t267 bt268.1 bt268.2.1 bt268.2.2))) else (ephemerisref1_RecurFits.j0 k a1 false a0_0 a0_1 a0_2 a0_3 a0_4 l0_5 l0_6 l0_7 t265 t266 t267 bt268.1 bt268.2.1 bt268.2.2)) else (ephemerisref1_RecurFits.j0 k a1 true a0_0 a0_1 a0_2 a0_3 a0_4 l0_5 l0_6 l0_7 t265 t266 t267 bt268.1 bt268.2.1 bt268.2.2))) else (if (l0_5.length : Int) > 0 then ((ephemerisref1_Week.f k a1).bind fun t283 => ((ephemerisref1_has.f k l0_5 t283).bind fun t284 => (ephemerisref1_RecurFits.j0 k a1 (!t284) a0_0 a0_1 a0_2 a0_3 a0_4 l0_5 l0_6 l0_7 t265 t266 t267 bt268.1 bt268.2.1 bt268.2.2))) else (ephemerisref1_RecurFits.j0 k a1 false a0_0 a0_1 a0_2 a0_3 a0_4 l0_5 l0_6 l0_7 t265 t266 t267 bt268.1 bt268.2.1 bt268.2.2))) else (some false))) else (none)) else (none)))))) = some r := H
  have A5 := Aside0.mk A50
  clear A50
  replace H := Option.bind_eq_some_iff.mp H
  obtain ⟨⟨t268, t269, t270⟩, A60, H⟩ := H
  replace H : ((ephemerisref1_Floor.f k (wrap64 (a1 + 6)) 7).bind fun t273 => ((ephemerisref1_Floor.f k (wrap64 (a0_2 + 6)) 7).bind fun t274 => ((some (([0, wrap64 (a1 - a0_2), wrap64 (t273 - t274), wrap64 ((wrap64 ((wrap64 (t268 * 12)) + t269)) - (wrap64 ((wrap64 (t265 * 12)) + t266))), wrap64 (t268 - t265)] : List Int) : List Int)).bind fun y275 => (if 0 ≤ a0_0 then (if a0_0 < (y275.length : Int) then ((ephemerisref1_Mod.f k (rd y275 a0_0) a0_1).bind fun t279 => (if t279 = 0 then (if (l0_7.length : Int) > 0 then ((ephemerisref1_has.f k l0_7 t269).bind fun t280 => (if t280 = true then (if (l0_5.length : Int) > 0 then ((ephemerisref1_Week.f k a1).bind fun t281 => ((ephemerisref1_has.f k l0_5 t281).bind fun t282 => (ephemerisref1_RecurFits.j0 k a1 (!t282) a0_0 a0_1 a0_2 a0_3 a0_4 l0_5 l0_6 l0_7 t265 t266 t267 t268 t269 t270))) else (ephemerisref1_RecurFits.j0 k a1 false a0_0 a0_1 a0_2 a0_3 a0_4 l0_5 l0_6 l0_7 t265 t266 t267 t268 t269 t270)) else (ephemerisref1_RecurFits.j0 k a1 true a0_0 a0_1 a0_2 a0_3 a0_4 l0_5 l0_6 l0_7 t265 t266 t267 t268 t269 t270))) else (if (l0_5.length : Int) > 0 then ((ephemerisref1_Week.f k a1).bind fun t283 => ((ephemerisref1_has.f k l0_5 t283).bind fun t284 => (ephemerisref1_RecurFits.j0 k a1 (!t284) a0_0 a0_1 a0_2 a0_3 a0_4 l0_5 l0_6 l0_7 t265 t266 t267 t268 t269 t270))) else (ephemerisref1_RecurFits.j0 k a1 false a0_0 a0_1 a0_2 a0_3 a0_4 l0_5 l0_6 l0_7 t265 t266 t267 t268 t269 t270))) else (some false))) else (none)) else (none))))) = some r := H
  have A6 := Aside0.mk A60
  clear A60
  replace H := Option.bind_eq_some_iff.mp H
  obtain ⟨t273, A70, H⟩ := H
  replace H : ((ephemerisref1_Floor.f k (wrap64 (a0_2 + 6)) 7).bind fun t274 => ((some (([0, wrap64 (a1 - a0_2), wrap64 (t273 - t274), wrap64 ((wrap64 ((wrap64 (t268 * 12)) + t269)) - (wrap64 ((wrap64 (t265 * 12)) + t266))), wrap64 (t268 - t265)] : List Int) : List Int)).bind fun y275 => (if 0 ≤ a0_0 then (if a0_0 < (y275.length : Int) then ((ephemerisref1_Mod.f k (rd y275 a0_0) a0_1).bind fun t279 => (if t279 = 0 then (if (l0_7.length : Int) > 0 then ((ephemerisref1_has.f k l0_7 t269).bind fun t280 => (if t280 = true then (if (l0_5.length : Int) > 0 then ((ephemerisref1_Week.f k a1).bind fun t281 => ((ephemerisref1_has.f k l0_5 t281).bind fun t282 => (ephemerisref1_RecurFits.j0 k a1 (!t282) a0_0 a0_1 a0_2 a0_3 a0_4 l0_5 l0_6 l0_7 t265 t266 t267 t268 t269 t270))) else (ephemerisref1_RecurFits.j0 k a1 false a0_0 a0_1 a0_2 a0_3 a0_4 l0_5 l0_6 l0_7 t265 t266 t267 t268 t269 t270)) else (ephemerisref1_RecurFits.j0 k a1 true a0_0 a0_1 a0_2 a0_3 a0_4 l0_5 l0_6 l0_7 t265 t266 t267 t268 t269 t270))) else (if (l0_5.length : Int) > 0 then ((ephemerisref1_Week.f k a1).bind fun t283 => ((ephemerisref1_has.f k l0_5 t283).bind fun t284 => (ephemerisref1_RecurFits.j0 k a1 (!t284) a0_0 a0_1 a0_2 a0_3 a0_4 l0_5 l0_6 l0_7 t265 t266 t267 t268 t269 t270))) else (ephemerisref1_RecurFits.j0 k a1 false a0_0 a0_1 a0_2 a0_3 a0_4 l0_5 l0_6 l0_7 t265 t266 t267 t268 t269 t270))) else (some false))) else (none)) else (none)))) = some r := H
  have A7 := Aside0.mk A70
  clear A70
  replace H := Option.bind_eq_some_iff.mp H
  obtain ⟨t274, A80, H⟩ := H
  replace H : ((some (([0, wrap64 (a1 - a0_2), wrap64 (t273 - t274), wrap64 ((wrap64 ((wrap64 (t268 * 12)) + t269)) - (wrap64 ((wrap64 (t265 * 12)) + t266))), wrap64 (t268 - t265)] : List Int) : List Int)).bind fun y275 => (if 0 ≤ a0_0 then (if a0_0 < (y275.length : Int) then ((ephemerisref1_Mod.f k (rd y275 a0_0) a0_1).bind fun t279 => (if t279 = 0 then (if (l0_7.length : Int) > 0 then ((ephemerisref1_has.f k l0_7 t269).bind fun t280 => (if t280 = true then (if (l0_5.length : Int) > 0 then ((ephemerisref1_Week.f k a1).bind fun t281 => ((ephemerisref1_has.f k l0_5 t281).bind fun t282 => (ephemerisref1_RecurFits.j0 k a1 (!t282) a0_0 a0_1 a0_2 a0_3 a0_4 l0_5 l0_6 l0_7 t265 t266 t267 t268 t269 t270))) else (ephemerisref1_RecurFits.j0 k a1 false a0_0 a0_1 a0_2 a0_3 a0_4 l0_5 l0_6 l0_7 t265 t266 t267 t268 t269 t270)) else (ephemerisref1_RecurFits.j0 k a1 true a0_0 a0_1 a0_2 a0_3 a0_4 l0_5 l0_6 l0_7 t265 t266 t267 t268 t269 t270))) else (if (l0_5.length : Int) > 0 then ((ephemerisref1_Week.f k a1).bind fun t283 => ((ephemerisref1_has.f k l0_5 t283).bind fun t284 => (ephemerisref1_RecurFits.j0 k a1 (!t284) a0_0 a0_1 a0_2 a0_3 a0_4 l0_5 l0_6 l0_7 t265 t266 t267 t268 t269 t270))) else (ephemerisref1_RecurFits.j0 k a1 false a0_0 a0_1 a0_2 a0_3 a0_4 l0_5 l0_6 l0_7 t265 t266 t267 t268 t269 t270))) else (some false))) else (none)) else (none))) = some r := H
  have A8 := Aside0.mk A80
  clear A80
  obtain ⟨y275, hy275⟩ : ∃ y_ : List Int, y_ = (([0, wrap64 (a1 - a0_2), wrap64 (t273 - t274), wrap64 ((wrap64 ((wrap64 (t268 * 12)) + t269)) - (wrap64 ((wrap64 (t265 * 12)) + t266))), wrap64 (t268 - t265)] : List Int)) := ⟨_, rfl⟩
  replace H : (if 0 ≤ a0_0 then (if a0_0 < (y275.length : Int) then ((ephemerisref1_Mod.f k (rd y275 a0_0) a0_1).bind fun t279 => (if t279 = 0 then (if (l0_7.length : Int) > 0 then ((ephemerisref1_has.f k l0_7 t269).bind fun t280 => (if t280 = true then (if (l0_5.length : Int) > 0 then ((ephemerisref1_Week.f k a1).bind fun t281 => ((ephemerisref1_has.f k l0_5 t281).bind fun t282 => (ephemerisref1_RecurFits.j0 k a1 (!t282) a0_0 a0_1 a0_2 a0_3 a0_4 l0_5 l0_6 l0_7 t265 t266 t267 t268 t269 t270))) else (ephemerisref1_RecurFits.j0 k a1 false a0_0 a0_1 a0_2 a0_3 a0_4 l0_5 l0_6 l0_7 t265 t266 t267 t268 t269 t270)) else (ephemerisref1_RecurFits.j0 k a1 true a0_0 a0_1 a0_2 a0_3 a0_4 l0_5 l0_6 l0_7 t265 t266 t267 t268 t269 t270))) else (if (l0_5.length : Int) > 0 then ((ephemerisref1_Week.f k a1).bind fun t283 => ((ephemerisref1_has.f k l0_5 t283).bind fun t284 => (ephemerisref1_RecurFits.j0 k a1 (!t284) a0_0 a0_1 a0_2 a0_3 a0_4 l0_5 l0_6 l0_7 t265 t266 t267 t268 t269 t270))) else (ephemerisref1_RecurFits.j0 k a1 false a0_0 a0_1 a0_2 a0_3 a0_4 l0_5 l0_6 l0_7 t265 t266 t267 t268 t269 t270))) else (some false))) else (none)) else (none)) = some r := rp hy275 H
  have Ny275 := Aside0.mk hy275
  clear hy275
  by_cases c9 : 0 ≤ a0_0
  ·rw [if_pos c9] at H
   have c9b0 : decide (0 ≤ a0_0) = true := decide_eq_true c9
   clear c9
   by_cases c10 : a0_0 < (y275.length : Int)
   ·rw [if_pos c10] at H
    have c10b0 : decide (a0_0 < (y275.length : Int)) = true := decide_eq_true c10
    clear c10
    replace H := Option.bind_eq_some_iff.mp H
    obtain ⟨t279, A110, H⟩ := H
    replace H : (if t279 = 0 then (if (l0_7.length : Int) > 0 then ((ephemerisref1_has.f k l0_7 t269).bind fun t280 => (if t280 = true then (if (l0_5.length : Int) > 0 then ((ephemerisref1_Week.f k a1).bind fun t281 => ((ephemerisref1_has.f k l0_5 t281).bind fun t282 => (ephemerisref1_RecurFits.j0 k a1 (!t282) a0_0 a0_1 a0_2 a0_3 a0_4 l0_5 l0_6 l0_7 t265 t266 t267 t268 t269 t270))) else (ephemerisref1_RecurFits.j0 k a1 false a0_0 a0_1 a0_2 a0_3 a0_4 l0_5 l0_6 l0_7 t265 t266 t267 t268 t269 t270)) else (ephemerisref1_RecurFits.j0 k a1 true a0_0 a0_1 a0_2 a0_3 a0_4 l0_5 l0_6 l0_7 t265 t266 t267 t268 t269 t270))) else (if (l0_5.length : Int) > 0 then ((ephemerisref1_Week.f k a1).bind fun t283 => ((ephemerisref1_has.f k l0_5 t283).bind fun t284 => (ephemerisref1_RecurFits.j0 k a1 (!t284) a0_0 a0_1 a0_2 a0_3 a0_4 l0_5 l0_6 l0_7 t265 t266 t267 t268 t269 t270))) else (ephemerisref1_RecurFits.j0 k a1 false a0_0 a0_1 a0_2 a0_3 a0_4 l0_5 l0_6 l0_7 t265 t266 t267 t268 t269 t270))) else (some false)) = some r := H
    have A11 := Aside0.mk A110
    clear A110
    by_cases c12 : t279 = 0
    ·rw [if_pos c12] at H
     have c12b0 : (t279 == 0) = true := beq_iff_eq.mpr c12
     have c12b1 : (t279 != 0) = false := bne_eq_false_iff_eq.mpr c12
     clear c12
     have HC13 := Aside0.mk H
     clear H
     go_enter Try.func60, Try.ntmps60
     try go_wp2_with (first | ((with_reducible refine gate_dst (N := 2) rfl ?_); (try (refine gate_guard (by rfl) ?_; dsimp only)); refine box_event ?hg (N := 2) ?hd (cs := #[.int .i64 a0_0, .int .i64 a0_1, .int .i64 a0_2, .int .i64 a0_3, .int .i64 a0_4, .slice A0_5 l0_5.length c0_5, .slice A0_6 l0_6.length c0_6, .slice A0_7 l0_7.length c0_7]) (t := 33) ?hr ?_; (case hd => rfl); (case hg => rfl); (case hr => first | (go_simp; done) | (go_simp; rfl)); intro gb263 hg w14 hbox hb; have n0_ := Aside0.mk (below_step be hb); have n1_ := Aside0.mk (hbox); have n2_ := gs hg HB; have n3_ := n2_; clear HB; have HB := n0_; have BK263 := n1_; have GW263 := n2_; have GE263 := n3_; clear n0_ n1_ n2_ n3_; clear hb hbox hg; obtain ⟨hcz15_0, hcz15_1, hcz15_2, hcz15_3, hcz15_4, hcz15_5, hcz15_6, hcz15_7, hfz15_0, hfz15_1, hfz15_2, hfz15_3, hfz15_4, hfz15_5, hfz15_6, hfz15_7⟩ := bc8 BK263) | ((with_reducible refine gate_callee (f := 21) rfl ?_); refine goesL_ (some 15) rfl rfl Try.func21 kx rfl #[.int .i64 a1, .int .i64 a0_2, .int .i64 a0_4] rfl aa ?_; (with_reducible refine (ephemerisref1_In.calls a1 a0_2 a0_4 true _ A3.out).mono ?_); rintro e w' ⟨rfl, ⟨nd, rfl⟩⟩; refine ⟨_, rfl, ?_⟩; (try (rw [drewN_self w14]; generalize hq_ : World.drewN w14 _ = w14; have n0_ : Aside0 (w14.heap[gb263]? = some (.cells #[.int .i64 a0_0, .int .i64 a0_1, .int .i64 a0_2, .int .i64 a0_3, .int .i64 a0_4, .slice A0_5 l0_5.length c0_5, .slice A0_6 l0_6.length c0_6, .slice A0_7 l0_7.length c0_7] 33 (0, 0))) := ⟨by rw [← hq_]; exact (bk BK263)⟩; have n1_ : Aside0 (Below w.heap.size w w14) := ⟨by rw [← hq_]; exact be⟩; clear BK263 HB hq_; have BK263 := n0_; have HB := n1_; clear n0_ n1_; obtain ⟨hgz263_0, hgf263_0⟩ := bc1 BK263; have hgz263_1 : w14.cell? ⟨gb263, 1, none⟩ = some (.int .i64 a0_1) := (blk_cell BK263.out 1).trans rfl; have hgf263_1 := blk_frozen BK263.out 1; have hgz263_2 : w14.cell? ⟨gb263, 2, none⟩ = some (.int .i64 a0_2) := (blk_cell BK263.out 2).trans rfl; have hgf263_2 := blk_frozen BK263.out 2; have hgz263_3 : w14.cell? ⟨gb263, 3, none⟩ = some (.int .i64 a0_3) := (blk_cell BK263.out 3).trans rfl; have hgf263_3 := blk_frozen BK263.out 3; have hgz263_4 : w14.cell? ⟨gb263, 4, none⟩ = some (.int .i64 a0_4) := (blk_cell BK263.out 4).trans rfl; have hgf263_4 := blk_frozen BK263.out 4; have hgz263_5 : w14.cell? ⟨gb263, 5, none⟩ = some (.slice A0_5 l0_5.length c0_5) := (blk_cell BK263.out 5).trans rfl; have hgf263_5 := blk_frozen BK263.out 5; have hgz263_6 : w14.cell? ⟨gb263, 6, none⟩ = some (.slice A0_6 l0_6.length c0_6) := (blk_cell BK263.out 6).trans rfl; have hgf263_6 := blk_frozen BK263.out 6; have hgz263_7 : w14.cell? ⟨gb263, 7, none⟩ = some (.slice A0_7 l0_7.length c0_7) := (blk_cell BK263.out 7).trans rfl; have hgf263_7 := blk_frozen BK263.out 7))) | ((with_reducible refine gate_callee (f := 99) rfl ?_); refine goesL_ (some 19) rfl rfl Try.func99 kx rfl #[.int .i64 a0_2] rfl aa ?_; (with_reducible refine (ephemerisref1_Greg.calls k a0_2 t265 t266 t267 _ A5.out).mono ?_); rintro e w16 ⟨rfl, hb⟩; refine ⟨_, rfl, ?_⟩; have n0_ := bb BK263 hb; have n1_ := Aside0.mk (below_step be hb); clear BK263; clear HB; have BK263 := n0_; have HB := n1_; clear n0_ n1_; (try clear hb); (try clear hb2); (try clear hk); (try clear hi)) | ((with_reducible refine gate_callee (f := 99) rfl ?_); refine goesL_ (some 21) rfl rfl Try.func99 kx rfl #[.int .i64 a1] rfl aa ?_; (with_reducible refine (ephemerisref1_Greg.calls k a1 t268 t269 t270 _ A6.out).mono ?_); rintro e w17 ⟨rfl, hb⟩; refine ⟨_, rfl, ?_⟩; have n0_ := bb BK263 hb; have n1_ := Aside0.mk (below_step be hb); clear BK263; clear HB; have BK263 := n0_; have HB := n1_; clear n0_ n1_; (try clear hb); (try clear hb2); (try clear hk); (try clear hi)) | ((with_reducible refine gate_dst (N := 5) rfl ?_); (try (refine gate_guard (by rfl) ?_; dsimp only)); refine box_event ?hg (N := 5) ?hd (cs := #[.int .i64 0, .int .i64 0, .int .i64 0]) (t := 107) ?hr ?_; (case hd => rfl); (case hg => rfl); (case hr => first | (go_simp; done) | (go_simp; rfl)); intro gb271 hg w18 hbox hb; have n0_ := bb BK263 hb; have n1_ := Aside0.mk (below_step be hb); have n2_ := Aside0.mk (hbox); have n3_ := gs hg HB; have n4_ := n3_; have n5_ := nl BK263 hg; have n6_ := ns n5_; clear BK263; clear HB; have BK263 := n0_; have HB := n1_; have BK271 := n2_; have GW271 := n3_; have GE271 := n4_; have NB263_271 := n5_; have NB271_263 := n6_; clear n0_ n1_ n2_ n3_ n4_ n5_ n6_; clear hb hbox hg) | ((with_reducible refine gate_dst (N := 6) rfl ?_); (try (refine gate_guard (by rfl) ?_; dsimp only)); refine box_event ?hg (N := 6) ?hd (cs := #[.int .i64 0, .int .i64 0, .int .i64 0]) (t := 107) ?hr ?_; (case hd => rfl); (case hg => rfl); (case hr => first | (go_simp; done) | (go_simp; rfl)); intro gb272 hg w19 hbox hb; have n0_ := bb BK263 hb; have n1_ := bb BK271 hb; have n2_ := Aside0.mk (below_step be hb); have n3_ := Aside0.mk (hbox); have n4_ := gs hg HB; have n5_ := n4_; have n6_ := nl BK263 hg; have n7_ := ns n6_; have n8_ := nl BK271 hg; have n9_ := ns n8_; clear BK263; clear BK271; clear HB; have BK263 := n0_; have BK271 := n1_; have HB := n2_; have BK272 := n3_; have GW272 := n4_; have GE272 := n5_; have NB263_272 := n6_; have NB272_263 := n7_; have NB271_272 := n8_; have NB272_271 := n9_; clear n0_ n1_ n2_ n3_ n4_ n5_ n6_ n7_ n8_ n9_; clear hb hbox hg; have hnb20 := NB271_263.out; have hnc20 := NB263_271.out; have hnb21 := NB271_272.out; have hnc21 := NB272_271.out; obtain ⟨hcz22_0, hcz22_1, hcz22_2, hfz22_0, hfz22_1, hfz22_2⟩ := bc3 BK271; have hnb23 := NB272_263.out; have hnc23 := NB263_272.out; obtain ⟨hcz24_0, hcz24_1, hcz24_2, hfz24_0, hfz24_1, hfz24_2⟩ := bc3 BK272))
     have pi278 : (0 ≤ (a0_0 : Int)) = True := eq_true (of_decide_eq_true ka)
     have qi278 : (a0_0 < (y275.length : Int)) = True := eq_true (of_decide_eq_true ka)
     have n0_ : Aside0 (((((((w19.setCell ⟨gb271, 0, none⟩ (.int .i64 t265)).setCell ⟨gb271, 1, none⟩ (.int .i64 t266)).setCell ⟨gb271, 2, none⟩ (.int .i64 t267)).setCell ⟨gb272, 0, none⟩ (.int .i64 t268)).setCell ⟨gb272, 1, none⟩ (.int .i64 t269)).setCell ⟨gb272, 2, none⟩ (.int .i64 t270)).heap[gb263]? = some (.cells #[.int .i64 a0_0, .int .i64 a0_1, .int .i64 a0_2, .int .i64 a0_3, .int .i64 a0_4, .slice A0_5 l0_5.length c0_5, .slice A0_6 l0_6.length c0_6, .slice A0_7 l0_7.length c0_7] 33 (0, 0))) := ⟨bk BK263⟩
     have n1_ : Aside0 (((((((w19.setCell ⟨gb271, 0, none⟩ (.int .i64 t265)).setCell ⟨gb271, 1, none⟩ (.int .i64 t266)).setCell ⟨gb271, 2, none⟩ (.int .i64 t267)).setCell ⟨gb272, 0, none⟩ (.int .i64 t268)).setCell ⟨gb272, 1, none⟩ (.int .i64 t269)).setCell ⟨gb272, 2, none⟩ (.int .i64 t270)).heap[gb271]? = some (.cells #[.int .i64 t265, .int .i64 t266, .int .i64 t267] 107 (0, 0))) := ⟨bk BK271⟩
     have n2_ : Aside0 (((((((w19.setCell ⟨gb271, 0, none⟩ (.int .i64 t265)).setCell ⟨gb271, 1, none⟩ (.int .i64 t266)).setCell ⟨gb271, 2, none⟩ (.int .i64 t267)).setCell ⟨gb272, 0, none⟩ (.int .i64 t268)).setCell ⟨gb272, 1, none⟩ (.int .i64 t269)).setCell ⟨gb272, 2, none⟩ (.int .i64 t270)).heap[gb272]? = some (.cells #[.int .i64 t268, .int .i64 t269, .int .i64 t270] 107 (0, 0))) := ⟨bk BK272⟩
     have n3_ : Aside0 (Below w.heap.size w ((((((w19.setCell ⟨gb271, 0, none⟩ (.int .i64 t265)).setCell ⟨gb271, 1, none⟩ (.int .i64 t266)).setCell ⟨gb271, 2, none⟩ (.int .i64 t267)).setCell ⟨gb272, 0, none⟩ (.int .i64 t268)).setCell ⟨gb272, 1, none⟩ (.int .i64 t269)).setCell ⟨gb272, 2, none⟩ (.int .i64 t270))) := ⟨be⟩
     (try clear BK263)
     (try clear BK271)
     (try clear BK272)
     (try clear HB)
     generalize ((((((w19.setCell ⟨gb271, 0, none⟩ (.int .i64 t265)).setCell ⟨gb271, 1, none⟩ (.int .i64 t266)).setCell ⟨gb271, 2, none⟩ (.int .i64 t267)).setCell ⟨gb272, 0, none⟩ (.int .i64 t268)).setCell ⟨gb272, 1, none⟩ (.int .i64 t269)).setCell ⟨gb272, 2, none⟩ (.int .i64 t270)) = w25 at n0_ n1_ n2_ n3_ ⊢
     have BK263 := n0_
     have BK271 := n1_
     have BK272 := n2_
     have HB := n3_
     clear n0_ n1_ n2_ n3_
     have n0_ := Aside0.mk (blk_drew BK263.out)
     have n1_ := Aside0.mk (blk_drew BK271.out)
     have n2_ := Aside0.mk (blk_drew BK272.out)
     have n3_ := Aside0.mk (below_drew1 HB.out)
     clear BK263
     clear BK271
     clear BK272
     clear HB
     have BK263 := n0_
     have BK271 := n1_
     have BK272 := n2_
     have HB := n3_
     clear n0_ n1_ n2_ n3_
     refine start_ (n := 36) (S := fun w' => w'.cell? ⟨gb263, 0, none⟩ = some (.int .i64 a0_0) ∧ w'.cell? ⟨gb263, 1, none⟩ = some (.int .i64 a0_1) ∧ w'.cell? ⟨gb263, 2, none⟩ = some (.int .i64 a0_2) ∧ w'.cell? ⟨gb263, 3, none⟩ = some (.int .i64 a0_3) ∧ w'.cell? ⟨gb263, 4, none⟩ = some (.int .i64 a0_4) ∧ w'.cell? ⟨gb263, 5, none⟩ = some (.slice A0_5 l0_5.length c0_5) ∧ w'.cell? ⟨gb263, 6, none⟩ = some (.slice A0_6 l0_6.length c0_6) ∧ w'.cell? ⟨gb263, 7, none⟩ = some (.slice A0_7 l0_7.length c0_7) ∧ w'.cell? ⟨gb272, 0, none⟩ = some (.int .i64 t268) ∧ w'.cell? ⟨gb272, 1, none⟩ = some (.int .i64 t269) ∧ w'.cell? ⟨gb272, 2, none⟩ = some (.int .i64 t270) ∧ w'.cell? ⟨gb271, 0, none⟩ = some (.int .i64 t265) ∧ w'.cell? ⟨gb271, 1, none⟩ = some (.int .i64 t266) ∧ w'.cell? ⟨gb271, 2, none⟩ = some (.int .i64 t267)) (ds := []) #[false, false, false, false, false, false, false, false, false, false, false, false, false, false, false, false, false, false, false, false, false, false, false, false, false, false, false, false, false, false, false, false, false, false, false, false] kx rfl rfl ⟨(blk_cell BK263.out 0).trans rfl, (blk_cell BK263.out 1).trans rfl, (blk_cell BK263.out 2).trans rfl, (blk_cell BK263.out 3).trans rfl, (blk_cell BK263.out 4).trans rfl, (blk_cell BK263.out 5).trans rfl, (blk_cell BK263.out 6).trans rfl, (blk_cell BK263.out 7).trans rfl, (blk_cell BK272.out 0).trans rfl, (blk_cell BK272.out 1).trans rfl, (blk_cell BK272.out 2).trans rfl, (blk_cell BK271.out 0).trans rfl, (blk_cell BK271.out 1).trans rfl, (blk_cell BK271.out 2).trans rfl⟩ (fun hHeld => ?_); refine with_tabW ephemerisref1_RecurFits.tab4 ephemerisref1_RecurFits.bits4 (fun HT_ HW_ => ?_)
     generalize w25.drew = w26 at BK263 BK271 BK272 HB hHeld ⊢
     refine pure_ (i := 0) (N := some 22) (v := ?_) (a' := ?_) #[true, false, false, false, false, false, false, false, false, false, false, false, false, false, false, false, false, false, false, false, false, false, false, false, false, false, false, false, false, false, false, false, false, false, false, false] rfl rfl (any_of HT_.out kx) (fun _ _ _ h => h) (Or.inl ⟨by rfl, ?_⟩) ?_ ?_
     rotate_left
     ·intro w'
      go_simp
      with_reducible rfl
     rotate_left
     ·simp only [Act.put, List.setIfInBounds_toArray, List.set_cons_zero, List.set_cons_succ, i64_w, i32_w]
      rfl
     refine pure_ (i := 1) (N := some 23) (v := ?_) (a' := ?_) #[true, true, false, false, false, false, false, false, false, false, false, false, false, false, false, false, false, false, false, false, false, false, false, false, false, false, false, false, false, false, false, false, false, false, false, false] rfl rfl (any_of HT_.out kx) (fun _ _ _ h => h) (Or.inl ⟨by rfl, ?_⟩) ?_ ?_
     rotate_left
     ·intro w'
      go_simp
      with_reducible rfl
     rotate_left
     ·simp only [Act.put, List.setIfInBounds_toArray, List.set_cons_zero, List.set_cons_succ, i64_w, i32_w]
      rfl
     refine pure_ (i := 4) (N := some 26) (v := ?_) (a' := ?_) #[true, true, false, false, true, false, false, false, false, false, false, false, false, false, false, false, false, false, false, false, false, false, false, false, false, false, false, false, false, false, false, false, false, false, false, false] rfl rfl (any_of HT_.out kx) (fun _ _ _ h => h) (Or.inl ⟨by rfl, ?_⟩) ?_ ?_
     rotate_left
     ·intro w'
      go_simp
      with_reducible rfl
     rotate_left
     ·simp only [Act.put, List.setIfInBounds_toArray, List.set_cons_zero, List.set_cons_succ, i64_w, i32_w]
      rfl
     refine pure_ (i := 5) (N := some 27) (v := ?_) (a' := ?_) #[true, true, false, false, true, true, false, false, false, false, false, false, false, false, false, false, false, false, false, false, false, false, false, false, false, false, false, false, false, false, false, false, false, false, false, false] rfl rfl (any_of HT_.out kx) (fun _ _ _ h => h) (Or.inl ⟨by rfl, ?_⟩) ?_ ?_
     rotate_left
     ·intro w'
      go_simp
      with_reducible rfl
     rotate_left
     ·simp only [Act.put, List.setIfInBounds_toArray, List.set_cons_zero, List.set_cons_succ, i64_w, i32_w]
      rfl
     refine pure_ (i := 7) (N := some 29) (v := ?_) (a' := ?_) #[true, true, false, false, true, true, false, true, false, false, false, false, false, false, false, false, false, false, false, false, false, false, false, false, false, false, false, false, false, false, false, false, false, false, false, false] rfl rfl (any_of HT_.out kx) (fun _ _ _ h => h) (Or.inl ⟨by rfl, ?_⟩) ?_ ?_
     rotate_left
     ·intro w'
      go_simp
      with_reducible rfl
     rotate_left
     ·simp only [Act.put, List.setIfInBounds_toArray, List.set_cons_zero, List.set_cons_succ, i64_w, i32_w]
      rfl
     refine pure_ (i := 12) (N := some 34) (v := ?_) (a' := ?_) #[true, true, false, false, true, true, false, true, false, false, false, false, true, false, false, false, false, false, false, false, false, false, false, false, false, false, false, false, false, false, false, false, false, false, false, false] rfl rfl (any_of HT_.out kx) (fun _ _ _ h => h) (Or.inl ⟨by rfl, ?_⟩) ?_ ?_
     rotate_left
     ·intro w'
      go_simp
      with_reducible rfl
     rotate_left
     ·simp only [Act.put, List.setIfInBounds_toArray, List.set_cons_zero, List.set_cons_succ, i64_w, i32_w]
      rfl
     refine pure_ (i := 15) (N := some 37) (v := ?_) (a' := ?_) #[true, true, false, false, true, true, false, true, false, false, false, false, true, false, false, true, false, false, false, false, false, false, false, false, false, false, false, false, false, false, false, false, false, false, false, false] rfl rfl (any_of HT_.out kx) (fun _ _ _ h => h) (Or.inl ⟨by rfl, ?_⟩) ?_ ?_
     rotate_left
     ·intro w'
      go_simp
      with_reducible rfl
     rotate_left
     ·simp only [Act.put, List.setIfInBounds_toArray, List.set_cons_zero, List.set_cons_succ, i64_w, i32_w]
      rfl
     refine pure_ (i := 18) (N := some 40) (v := ?_) (a' := ?_) #[true, true, false, false, true, true, false, true, false, false, false, false, true, false, false, true, false, false, true, false, false, false, false, false, false, false, false, false, false, false, false, false, false, false, false, false] rfl rfl (any_of HT_.out kx) (fun _ _ _ h => h) (Or.inl ⟨by rfl, ?_⟩) ?_ ?_
     rotate_left
     ·intro w'
      go_simp
      with_reducible rfl
     rotate_left
     ·simp only [Act.put, List.setIfInBounds_toArray, List.set_cons_zero, List.set_cons_succ, i64_w, i32_w]
      rfl
     refine pure_ (i := 21) (N := some 43) (v := ?_) (a' := ?_) #[true, true, false, false, true, true, false, true, false, false, false, false, true, false, false, true, false, false, true, false, false, true, false, false, false, false, false, false, false, false, false, false, false, false, false, false] rfl rfl (any_of HT_.out kx) (fun _ _ _ h => h) (Or.inl ⟨by rfl, ?_⟩) ?_ ?_
     rotate_left
     ·intro w'
      go_simp
      with_reducible rfl
     rotate_left
     ·simp only [Act.put, List.setIfInBounds_toArray, List.set_cons_zero, List.set_cons_succ, i64_w, i32_w]
      rfl
     refine pure_ (i := 25) (N := some 47) (v := ?_) (a' := ?_) #[true, true, false, false, true, true, false, true, false, false, false, false, true, false, false, true, false, false, true, false, false, true, false, false, false, true, false, false, false, false, false, false, false, false, false, false] rfl rfl (any_of HT_.out kx) (fun _ _ _ h => h) (Or.inl ⟨by rfl, ?_⟩) ?_ ?_
     rotate_left
     ·intro w'
      go_simp
      with_reducible rfl
     rotate_left
     ·simp only [Act.put, List.setIfInBounds_toArray, List.set_cons_zero, List.set_cons_succ, i64_w, i32_w]
      rfl
     refine pure_ (i := 27) (N := some 49) (v := ?_) (a' := ?_) #[true, true, false, false, true, true, false, true, false, false, false, false, true, false, false, true, false, false, true, false, false, true, false, false, false, true, false, true, false, false, false, false, false, false, false, false] rfl rfl (any_of HT_.out kx) (fun _ _ _ h => h) (Or.inl ⟨by rfl, ?_⟩) ?_ ?_
     rotate_left
     ·intro w'
      go_simp
      with_reducible rfl
     rotate_left
     ·simp only [Act.put, List.setIfInBounds_toArray, List.set_cons_zero, List.set_cons_succ, i64_w, i32_w]
      rfl
     refine pure_ (i := 31) (N := some 53) (v := ?_) (a' := ?_) #[true, true, false, false, true, true, false, true, false, false, false, false, true, false, false, true, false, false, true, false, false, true, false, false, false, true, false, true, false, false, false, true, false, false, false, false] rfl rfl (any_of HT_.out kx) (fun _ _ _ h => h) (Or.inl ⟨by rfl, ?_⟩) ?_ ?_
     rotate_left
     ·intro w'
      go_simp
      with_reducible rfl
     rotate_left
     ·simp only [Act.put, List.setIfInBounds_toArray, List.set_cons_zero, List.set_cons_succ, i64_w, i32_w]
      rfl
     refine take_ (i := 2) (N := some 24) (v := ?_) (a' := ?_) #[true, true, true, false, true, true, false, true, false, false, false, false, true, false, false, true, false, false, true, false, false, true, false, false, false, true, false, true, false, false, false, true, false, false, false, false] rfl rfl (take_ofW HT_.out HW_.out kx) (fun _ _ _ h => h) (Or.inl ⟨by rfl, ?_⟩) hHeld ?_ ?_
     rotate_left
     ·rintro w' ⟨s0, s1, s2, s3, s4, s5, s6, s7, s8, s9, s10, s11, s12, s13⟩
      go_simp
      with_reducible rfl
     rotate_left
     ·simp only [Act.put, List.setIfInBounds_toArray, List.set_cons_zero, List.set_cons_succ, i64_w, i32_w]
      rfl
     refine pure_ (i := 3) (N := some 25) (v := ?_) (a' := ?_) #[true, true, true, true, true, true, false, true, false, false, false, false, true, false, false, true, false, false, true, false, false, true, false, false, false, true, false, true, false, false, false, true, false, false, false, false] rfl rfl (any_of HT_.out kx) (fun _ _ _ h => h) (Or.inl ⟨by rfl, ?_⟩) ?_ ?_
     rotate_left
     ·intro w'
      go_simp
      with_reducible rfl
     rotate_left
     ·simp only [Act.put, List.setIfInBounds_toArray, List.set_cons_zero, List.set_cons_succ, i64_w, i32_w]
      rfl
     refine take_ (i := 8) (N := some 30) (v := ?_) (a' := ?_) #[true, true, true, true, true, true, false, true, true, false, false, false, true, false, false, true, false, false, true, false, false, true, false, false, false, true, false, true, false, false, false, true, false, false, false, false] rfl rfl (take_ofW HT_.out HW_.out kx) (fun _ _ _ h => h) (Or.inl ⟨by rfl, ?_⟩) hHeld ?_ ?_
     rotate_left
     ·rintro w' ⟨s0, s1, s2, s3, s4, s5, s6, s7, s8, s9, s10, s11, s12, s13⟩
      go_simp
      with_reducible rfl
     rotate_left
     ·simp only [Act.put, List.setIfInBounds_toArray, List.set_cons_zero, List.set_cons_succ, i64_w, i32_w]
      rfl
     refine pure_ (i := 9) (N := some 31) (v := ?_) (a' := ?_) #[true, true, true, true, true, true, false, true, true, true, false, false, true, false, false, true, false, false, true, false, false, true, false, false, false, true, false, true, false, false, false, true, false, false, false, false] rfl rfl (any_of HT_.out kx) (fun _ _ _ h => h) (Or.inl ⟨by rfl, ?_⟩) ?_ ?_
     rotate_left
     ·intro w'
      go_simp
      with_reducible rfl
     rotate_left
     ·simp only [Act.put, List.setIfInBounds_toArray, List.set_cons_zero, List.set_cons_succ, i64_w, i32_w]
      rfl
     refine take_ (i := 13) (N := some 35) (v := ?_) (a' := ?_) #[true, true, true, true, true, true, false, true, true, true, false, false, true, true, false, true, false, false, true, false, false, true, false, false, false, true, false, true, false, false, false, true, false, false, false, false] rfl rfl (take_ofW HT_.out HW_.out kx) (fun _ _ _ h => h) (Or.inl ⟨by rfl, ?_⟩) hHeld ?_ ?_
     rotate_left
     ·rintro w' ⟨s0, s1, s2, s3, s4, s5, s6, s7, s8, s9, s10, s11, s12, s13⟩
      go_simp
      with_reducible rfl
     rotate_left
     ·simp only [Act.put, List.setIfInBounds_toArray, List.set_cons_zero, List.set_cons_succ, i64_w, i32_w]
      rfl
     refine pure_ (i := 14) (N := some 36) (v := ?_) (a' := ?_) #[true, true, true, true, true, true, false, true, true, true, false, false, true, true, true, true, false, false, true, false, false, true, false, false, false, true, false, true, false, false, false, true, false, false, false, false] rfl rfl (any_of HT_.out kx) (fun _ _ _ h => h) (Or.inl ⟨by rfl, ?_⟩) ?_ ?_
     rotate_left
     ·intro w'
      go_simp
      with_reducible rfl
     rotate_left
     ·simp only [Act.put, List.setIfInBounds_toArray, List.set_cons_zero, List.set_cons_succ, i64_w, i32_w]
      rfl
     refine take_ (i := 16) (N := some 38) (v := ?_) (a' := ?_) #[true, true, true, true, true, true, false, true, true, true, false, false, true, true, true, true, true, false, true, false, false, true, false, false, false, true, false, true, false, false, false, true, false, false, false, false] rfl rfl (take_ofW HT_.out HW_.out kx) (fun _ _ _ h => h) (Or.inl ⟨by rfl, ?_⟩) hHeld ?_ ?_
     rotate_left
     ·rintro w' ⟨s0, s1, s2, s3, s4, s5, s6, s7, s8, s9, s10, s11, s12, s13⟩
      go_simp
      with_reducible rfl
     rotate_left
     ·simp only [Act.put, List.setIfInBounds_toArray, List.set_cons_zero, List.set_cons_succ, i64_w, i32_w]
      rfl
     refine pure_ (i := 17) (N := some 39) (v := ?_) (a' := ?_) #[true, true, true, true, true, true, false, true, true, true, false, false, true, true, true, true, true, true, true, false, false, true, false, false, false, true, false, true, false, false, false, true, false, false, false, false] rfl rfl (any_of HT_.out kx) (fun _ _ _ h => h) (Or.inl ⟨by rfl, ?_⟩) ?_ ?_
     rotate_left
     ·intro w'
      go_simp
      with_reducible rfl
     rotate_left
     ·simp only [Act.put, List.setIfInBounds_toArray, List.set_cons_zero, List.set_cons_succ, i64_w, i32_w]
      rfl
     refine take_ (i := 19) (N := some 41) (v := ?_) (a' := ?_) #[true, true, true, true, true, true, false, true, true, true, false, false, true, true, true, true, true, true, true, true, false, true, false, false, false, true, false, true, false, false, false, true, false, false, false, false] rfl rfl (take_ofW HT_.out HW_.out kx) (fun _ _ _ h => h) (Or.inl ⟨by rfl, ?_⟩) hHeld ?_ ?_
     rotate_left
     ·rintro w' ⟨s0, s1, s2, s3, s4, s5, s6, s7, s8, s9, s10, s11, s12, s13⟩
      go_simp
      with_reducible rfl
     rotate_left
     ·simp only [Act.put, List.setIfInBounds_toArray, List.set_cons_zero, List.set_cons_succ, i64_w, i32_w]
      rfl
     refine pure_ (i := 20) (N := some 42) (v := ?_) (a' := ?_) #[true, true, true, true, true, true, false, true, true, true, false, false, true, true, true, true, true, true, true, true, true, true, false, false, false, true, false, true, false, false, false, true, false, false, false, false] rfl rfl (any_of HT_.out kx) (fun _ _ _ h => h) (Or.inl ⟨by rfl, ?_⟩) ?_ ?_
     rotate_left
     ·intro w'
      go_simp
      with_reducible rfl
     rotate_left
     ·simp only [Act.put, List.setIfInBounds_toArray, List.set_cons_zero, List.set_cons_succ, i64_w, i32_w]
      rfl
     refine take_ (i := 22) (N := some 44) (v := ?_) (a' := ?_) #[true, true, true, true, true, true, false, true, true, true, false, false, true, true, true, true, true, true, true, true, true, true, true, false, false, true, false, true, false, false, false, true, false, false, false, false] rfl rfl (take_ofW HT_.out HW_.out kx) (fun _ _ _ h => h) (Or.inl ⟨by rfl, ?_⟩) hHeld ?_ ?_
     rotate_left
     ·rintro w' ⟨s0, s1, s2, s3, s4, s5, s6, s7, s8, s9, s10, s11, s12, s13⟩
      go_simp
      with_reducible rfl
     rotate_left
     ·simp only [Act.put, List.setIfInBounds_toArray, List.set_cons_zero, List.set_cons_succ, i64_w, i32_w]
      rfl
     refine pure_ (i := 23) (N := some 45) (v := ?_) (a' := ?_) #[true, true, true, true, true, true, false, true, true, true, false, false, true, true, true, true, true, true, true, true, true, true, true, true, false, true, false, true, false, false, false, true, false, false, false, false] rfl rfl (any_of HT_.out kx) (fun _ _ _ h => h) (Or.inl ⟨by rfl, ?_⟩) ?_ ?_
     rotate_left
     ·intro w'
      go_simp
      with_reducible rfl
     rotate_left
     ·simp only [Act.put, List.setIfInBounds_toArray, List.set_cons_zero, List.set_cons_succ, i64_w, i32_w]
      rfl
     refine pure_ (i := 24) (N := some 46) (v := ?_) (a' := ?_) #[true, true, true, true, true, true, false, true, true, true, false, false, true, true, true, true, true, true, true, true, true, true, true, true, true, true, false, true, false, false, false, true, false, false, false, false] rfl rfl (any_of HT_.out kx) (fun _ _ _ h => h) (Or.inl ⟨by rfl, ?_⟩) ?_ ?_
     rotate_left
     ·intro w'
      go_simp
      with_reducible rfl
     rotate_left
     ·simp only [Act.put, List.setIfInBounds_toArray, List.set_cons_zero, List.set_cons_succ, i64_w, i32_w]
      rfl
     refine take_ (i := 26) (N := some 48) (v := ?_) (a' := ?_) #[true, true, true, true, true, true, false, true, true, true, false, false, true, true, true, true, true, true, true, true, true, true, true, true, true, true, true, true, false, false, false, true, false, false, false, false] rfl rfl (take_ofW HT_.out HW_.out kx) (fun _ _ _ h => h) (Or.inl ⟨by rfl, ?_⟩) hHeld ?_ ?_
     rotate_left
     ·rintro w' ⟨s0, s1, s2, s3, s4, s5, s6, s7, s8, s9, s10, s11, s12, s13⟩
      go_simp
      with_reducible rfl
     rotate_left
     ·simp only [Act.put, List.setIfInBounds_toArray, List.set_cons_zero, List.set_cons_succ, i64_w, i32_w]
      rfl
     refine take_ (i := 28) (N := some 50) (v := ?_) (a' := ?_) #[true, true, true, true, true, true, false, true, true, true, false, false, true, true, true, true, true, true, true, true, true, true, true, true, true, true, true, true, true, false, false, true, false, false, false, false] rfl rfl (take_ofW HT_.out HW_.out kx) (fun _ _ _ h => h) (Or.inl ⟨by rfl, ?_⟩) hHeld ?_ ?_
     rotate_left
     ·rintro w' ⟨s0, s1, s2, s3, s4, s5, s6, s7, s8, s9, s10, s11, s12, s13⟩
      go_simp
      with_reducible rfl
     rotate_left
     ·simp only [Act.put, List.setIfInBounds_toArray, List.set_cons_zero, List.set_cons_succ, i64_w, i32_w]
      rfl
     refine pure_ (i := 29) (N := some 51) (v := ?_) (a' := ?_) #[true, true, true, true, true, true, false, true, true, true, false, false, true, true, true, true, true, true, true, true, true, true, true, true, true, true, true, true, true, true, false, true, false, false, false, false] rfl rfl (any_of HT_.out kx) (fun _ _ _ h => h) (Or.inl ⟨by rfl, ?_⟩) ?_ ?_
     rotate_left
     ·intro w'
      go_simp
      with_reducible rfl
     rotate_left
     ·simp only [Act.put, List.setIfInBounds_toArray, List.set_cons_zero, List.set_cons_succ, i64_w, i32_w]
      rfl
     refine take_ (i := 32) (N := some 54) (v := ?_) (a' := ?_) #[true, true, true, true, true, true, false, true, true, true, false, false, true, true, true, true, true, true, true, true, true, true, true, true, true, true, true, true, true, true, false, true, true, false, false, false] rfl rfl (take_ofW HT_.out HW_.out kx) (fun _ _ _ h => h) (Or.inl ⟨by rfl, ?_⟩) hHeld ?_ ?_
     rotate_left
     ·rintro w' ⟨s0, s1, s2, s3, s4, s5, s6, s7, s8, s9, s10, s11, s12, s13⟩
      go_simp
      with_reducible rfl
     rotate_left
     ·simp only [Act.put, List.setIfInBounds_toArray, List.set_cons_zero, List.set_cons_succ, i64_w, i32_w]
      rfl
     refine one_ (i := 6) (N := some 28) #[true, true, true, true, true, true, true, true, true, true, false, false, true, true, true, true, true, true, true, true, true, true, true, true, true, true, true, true, true, true, false, true, true, false, false, false] rfl rfl (one_of HT_.out kx) (by decide) (fun K hK => ?_)
     refine goes_ Try.func77 kx rfl #[.int .i64 (wrap64 (a1 + 6)), .int .i64 7] (by rfl) rfl rfl aa ?_
     with_reducible refine (ephemerisref1_Floor.calls k (wrap64 (a1 + 6)) 7 t273 _ A7.out).mono ?_
     rintro e w' ⟨rfl, ⟨nd, rfl⟩⟩
     refine ⟨_, rfl, ?_⟩
     refine hK.out _ _ ⟨(blk_cell BK263.out 0).trans rfl, (blk_cell BK263.out 1).trans rfl, (blk_cell BK263.out 2).trans rfl, (blk_cell BK263.out 3).trans rfl, (blk_cell BK263.out 4).trans rfl, (blk_cell BK263.out 5).trans rfl, (blk_cell BK263.out 6).trans rfl, (blk_cell BK263.out 7).trans rfl, (blk_cell BK272.out 0).trans rfl, (blk_cell BK272.out 1).trans rfl, (blk_cell BK272.out 2).trans rfl, (blk_cell BK271.out 0).trans rfl, (blk_cell BK271.out 1).trans rfl, (blk_cell BK271.out 2).trans rfl⟩ (fun hHeld => ?_)
     clear hK K
     refine norm_ (a' := ?_) ?_ ?_
     rotate_left
     ·show Act.put _ (some 28) _ = _
      simp only [Act.put, List.setIfInBounds_toArray, List.set_cons_zero, List.set_cons_succ, i64_w, i32_w]
      rfl
     refine one_ (i := 10) (N := some 32) #[true, true, true, true, true, true, true, true, true, true, true, false, true, true, true, true, true, true, true, true, true, true, true, true, true, true, true, true, true, true, false, true, true, false, false, false] rfl rfl (one_of HT_.out kx) (by decide) (fun K hK => ?_)
     refine goes_ Try.func77 kx rfl #[.int .i64 (wrap64 (a0_2 + 6)), .int .i64 7] (by rfl) rfl rfl aa ?_
     with_reducible refine (ephemerisref1_Floor.calls k (wrap64 (a0_2 + 6)) 7 t274 _ A8.out).mono ?_
     rintro e w' ⟨rfl, ⟨nd, rfl⟩⟩
     refine ⟨_, rfl, ?_⟩
     refine hK.out _ _ ⟨(blk_cell BK263.out 0).trans rfl, (blk_cell BK263.out 1).trans rfl, (blk_cell BK263.out 2).trans rfl, (blk_cell BK263.out 3).trans rfl, (blk_cell BK263.out 4).trans rfl, (blk_cell BK263.out 5).trans rfl, (blk_cell BK263.out 6).trans rfl, (blk_cell BK263.out 7).trans rfl, (blk_cell BK272.out 0).trans rfl, (blk_cell BK272.out 1).trans rfl, (blk_cell BK272.out 2).trans rfl, (blk_cell BK271.out 0).trans rfl, (blk_cell BK271.out 1).trans rfl, (blk_cell BK271.out 2).trans rfl⟩ (fun hHeld => ?_)
     clear hK K
     refine norm_ (a' := ?_) ?_ ?_
     rotate_left
     ·show Act.put _ (some 32) _ = _
      simp only [Act.put, List.setIfInBounds_toArray, List.set_cons_zero, List.set_cons_succ, i64_w, i32_w]
      rfl
     refine pure_ (i := 11) (N := some 33) (v := ?_) (a' := ?_) #[true, true, true, true, true, true, true, true, true, true, true, true, true, true, true, true, true, true, true, true, true, true, true, true, true, true, true, true, true, true, false, true, true, false, false, false] rfl rfl (any_of HT_.out kx) (fun _ _ _ h => h) (Or.inl ⟨by rfl, ?_⟩) ?_ ?_
     rotate_left
     ·intro w'
      go_simp
      with_reducible rfl
     rotate_left
     ·simp only [Act.put, List.setIfInBounds_toArray, List.set_cons_zero, List.set_cons_succ, i64_w, i32_w]
      rfl
     refine one_ (i := 30) (N := some 52) #[true, true, true, true, true, true, true, true, true, true, true, true, true, true, true, true, true, true, true, true, true, true, true, true, true, true, true, true, true, true, true, true, true, false, false, false] rfl rfl (one_of HT_.out kx) (by decide) (fun K hK => ?_)
     refine Kd.R_lit_step (Kd.int .i64) _ 3 ?hg (N := 52) ?hd (xs := ([0, wrap64 (a1 - a0_2), wrap64 (t273 - t274), wrap64 ((wrap64 ((wrap64 (t268 * 12)) + t269)) - (wrap64 ((wrap64 (t265 * 12)) + t266))), wrap64 (t268 - t265)] : List Int)) (inner := [.int .i64 0, .int .i64 (wrap64 (a1 - a0_2)), .int .i64 (wrap64 (t273 - t274)), .int .i64 (wrap64 ((wrap64 ((wrap64 (t268 * 12)) + t269)) - (wrap64 ((wrap64 (t265 * 12)) + t266)))), .int .i64 (wrap64 (t268 - t265))]) (ok := fun _ => True) (okp := fun _ => True) ?hr ?hp (fun _ hk => hk) trivial (Below.refl _ _) (Nat.le_refl _) (by simp) ?_; (case hd => rfl); (case hg => rfl); (case hr => first | (go_simp; done) | (go_simp; rfl)); (case hp => exact (Reps.one (show Kd.M (Kd.int .i64) _ _ _ 0 [.int .i64 0] from rfl) (Reps.one (show Kd.M (Kd.int .i64) _ _ _ (wrap64 (a1 - a0_2)) [.int .i64 (wrap64 (a1 - a0_2))] from rfl) (Reps.one (show Kd.M (Kd.int .i64) _ _ _ (wrap64 (t273 - t274)) [.int .i64 (wrap64 (t273 - t274))] from rfl) (Reps.one (show Kd.M (Kd.int .i64) _ _ _ (wrap64 ((wrap64 ((wrap64 (t268 * 12)) + t269)) - (wrap64 ((wrap64 (t265 * 12)) + t266)))) [.int .i64 (wrap64 ((wrap64 ((wrap64 (t268 * 12)) + t269)) - (wrap64 ((wrap64 (t265 * 12)) + t266))))] from rfl) (Reps.one (show Kd.M (Kd.int .i64) _ _ _ (wrap64 (t268 - t265)) [.int .i64 (wrap64 (t268 - t265))] from rfl) (Reps.none _ _)))))))
     intro v276 w27 ho28 hb hg_ hnew_
     clear hg_ hnew_
     (first | rw [← Ny275.out] at ho28 | (simp only [Int.reduceToNat] at ho28; rw [← Ny275.out] at ho28))
     have n0_ := Aside0.mk (Kd.R_lower ho28 (below_size be))
     have n1_ := bb BK263 hb
     have n2_ := bb BK271 hb
     have n3_ := bb BK272 hb
     have n4_ := Aside0.mk (below_step be hb)
     clear BK263
     clear BK271
     clear BK272
     clear HB
     have HO277 := n0_
     have BK263 := n1_
     have BK271 := n2_
     have BK272 := n3_
     have HB := n4_
     clear n0_ n1_ n2_ n3_ n4_
     clear hb ho28
     obtain ⟨Ao29, co29, eo29⟩ := Kd.R_slice HO277.out
     subst eo29
     obtain ⟨ado29, fo29, _⟩ := Kd.at_int (Kd.R_reads' HO277.out).2.2 0 (by decide) (by rw [Ny275.out]; simp)
     cases fo29
     refine hK.out _ _ ⟨(blk_cell BK263.out 0).trans rfl, (blk_cell BK263.out 1).trans rfl, (blk_cell BK263.out 2).trans rfl, (blk_cell BK263.out 3).trans rfl, (blk_cell BK263.out 4).trans rfl, (blk_cell BK263.out 5).trans rfl, (blk_cell BK263.out 6).trans rfl, (blk_cell BK263.out 7).trans rfl, (blk_cell BK272.out 0).trans rfl, (blk_cell BK272.out 1).trans rfl, (blk_cell BK272.out 2).trans rfl, (blk_cell BK271.out 0).trans rfl, (blk_cell BK271.out 1).trans rfl, (blk_cell BK271.out 2).trans rfl⟩ (fun hHeld => ?_)
     clear hK K
     refine norm_ (a' := ?_) ?_ ?_
     rotate_left
     ·show Act.put _ (some 52) _ = _
      simp only [Act.put, List.setIfInBounds_toArray, List.set_cons_zero, List.set_cons_succ, i64_w, i32_w]
      rfl
     refine pure_ (i := 33) (N := some 55) (v := ?_) (a' := ?_) #[true, true, true, true, true, true, true, true, true, true, true, true, true, true, true, true, true, true, true, true, true, true, true, true, true, true, true, true, true, true, true, true, true, true, false, false] rfl rfl (any_of HT_.out kx) (fun _ _ _ h => h) (Or.inl ⟨by rfl, ?_⟩) ?_ ?_
     rotate_left
     ·intro w'
      go_simp
      with_reducible rfl
     rotate_left
     ·simp only [Act.put, List.setIfInBounds_toArray, List.set_cons_zero, List.set_cons_succ, i64_w, i32_w]
      rfl
     refine one_ (i := 34) (N := some 56) #[true, true, true, true, true, true, true, true, true, true, true, true, true, true, true, true, true, true, true, true, true, true, true, true, true, true, true, true, true, true, true, true, true, true, true, false] rfl rfl (one_of HT_.out kx) (by decide) (fun K hK => ?_)
     (have p278 : 0 ≤ (a0_0 : Int) := of_decide_eq_true ka; have q278 : a0_0 < (y275.length : Int) := of_decide_eq_true ka; obtain ⟨ad278, e278, hx278_0⟩ := Kd.at_int (Kd.R_reads' HO277.out).2.2 a0_0 p278 q278; obtain rfl : ado29 = ad278 := (by injection e278))
     refine value_ (w1 := ?_) (v := ?_) (by rfl) rfl ?_ ?_
     rotate_left 2
     ·go_simp
      constructor
      ·rfl
      ·rfl
     clear hx278_0
     refine hK.out _ _ ⟨(blk_cell BK263.out 0).trans rfl, (blk_cell BK263.out 1).trans rfl, (blk_cell BK263.out 2).trans rfl, (blk_cell BK263.out 3).trans rfl, (blk_cell BK263.out 4).trans rfl, (blk_cell BK263.out 5).trans rfl, (blk_cell BK263.out 6).trans rfl, (blk_cell BK263.out 7).trans rfl, (blk_cell BK272.out 0).trans rfl, (blk_cell BK272.out 1).trans rfl, (blk_cell BK272.out 2).trans rfl, (blk_cell BK271.out 0).trans rfl, (blk_cell BK271.out 1).trans rfl, (blk_cell BK271.out 2).trans rfl⟩ (fun hHeld => ?_)
     clear hK K
     refine norm_ (a' := ?_) ?_ ?_
     rotate_left
     ·show Act.put _ (some 56) _ = _
      simp only [Act.put, List.setIfInBounds_toArray, List.set_cons_zero, List.set_cons_succ, i64_w, i32_w]
      rfl
     refine pure_ (i := 35) (N := some 7) (v := ?_) (a' := ?_) #[true, true, true, true, true, true, true, true, true, true, true, true, true, true, true, true, true, true, true, true, true, true, true, true, true, true, true, true, true, true, true, true, true, true, true, true] rfl rfl (any_of HT_.out kx) (fun _ _ _ h => h) (Or.inl ⟨by rfl, ?_⟩) ?_ ?_
     rotate_left
     ·intro w'
      go_simp
      with_reducible rfl
     rotate_left
     ·simp only [Act.put, List.setIfInBounds_toArray, List.set_cons_zero, List.set_cons_succ, i64_w, i32_w]
      rfl
     refine done_ (done_of HT_.out kx) ?_
     obtain ⟨hcz30_0, hcz30_1, hcz30_2, hcz30_3, hcz30_4, hcz30_5, hcz30_6, hcz30_7, hfz30_0, hfz30_1, hfz30_2, hfz30_3, hfz30_4, hfz30_5, hfz30_6, hfz30_7⟩ := bc8 BK263
     go_upto_region 7 with (first | ((with_reducible refine gate_callee (f := 39) rfl ?_); refine goesL_ (some 60) rfl rfl Try.func39 kx rfl #[.int .i64 (rd y275 a0_0), .int .i64 a0_1] rfl aa ?_; (with_reducible refine (ephemerisref1_Mod.calls k (rd y275 a0_0) a0_1 t279 _ A11.out).mono ?_); rintro e w' ⟨rfl, ⟨nd, rfl⟩⟩; refine ⟨_, rfl, ?_⟩))
     (try simp only [Act.put, List.setIfInBounds_toArray, List.set_cons_zero, List.set_cons_succ])
     go_cut [87] (fun v87 wc => ∃ (kq : Nat) (x87_12 : Bool), v87 = .bool x87_12 ∧ Aside0 (ephemerisref1_RecurFits.j0 kq a1 x87_12 a0_0 a0_1 a0_2 a0_3 a0_4 l0_5 l0_6 l0_7 t265 t266 t267 t268 t269 t270 = some r) ∧ Aside0 (kq ≤ k) ∧ Aside0 (wc.heap[gb263]? = some (.cells #[.int .i64 a0_0, .int .i64 a0_1, .int .i64 a0_2, .int .i64 a0_3, .int .i64 a0_4, (.slice A0_5 l0_5.length c0_5), (.slice A0_6 l0_6.length c0_6), (.slice A0_7 l0_7.length c0_7)] 33 (0, 0))) ∧ Aside0 (wc.heap[gb271]? = some (.cells #[.int .i64 t265, .int .i64 t266, .int .i64 t267] 107 (0, 0))) ∧ Aside0 (wc.heap[gb272]? = some (.cells #[.int .i64 t268, .int .i64 t269, .int .i64 t270] 107 (0, 0))) ∧ Aside0 (Below w.heap.size w wc))
     case first =>
      have H := HC13.out
      clear HC13
      by_cases c31 : (l0_7.length : Int) > 0
      ·rw [if_pos c31] at H
       have c31b0 : decide (0 < (l0_7.length : Int)) = true := decide_eq_true c31
       have c31b1 : decide (0 < l0_7.length) = true := decide_eq_true (by omega)
       clear c31
       (first | rw [c31b0] | (simp only [i64_w, i32_w]; rw [c31b0]) | skip)
       replace H := Option.bind_eq_some_iff.mp H
       obtain ⟨t280, A320, H⟩ := H
       replace H : (if t280 = true then (if (l0_5.length : Int) > 0 then ((ephemerisref1_Week.f k a1).bind fun t281 => ((ephemerisref1_has.f k l0_5 t281).bind fun t282 => (ephemerisref1_RecurFits.j0 k a1 (!t282) a0_0 a0_1 a0_2 a0_3 a0_4 l0_5 l0_6 l0_7 t265 t266 t267 t268 t269 t270))) else (ephemerisref1_RecurFits.j0 k a1 false a0_0 a0_1 a0_2 a0_3 a0_4 l0_5 l0_6 l0_7 t265 t266 t267 t268 t269 t270)) else (ephemerisref1_RecurFits.j0 k a1 true a0_0 a0_1 a0_2 a0_3 a0_4 l0_5 l0_6 l0_7 t265 t266 t267 t268 t269 t270)) = some r := H
       have A32 := Aside0.mk A320
       clear A320
       by_cases c33 : t280 = true
       ·subst c33
        have H1 : (if (l0_5.length : Int) > 0 then ((ephemerisref1_Week.f k a1).bind fun t281 => ((ephemerisref1_has.f k l0_5 t281).bind fun t282 => (ephemerisref1_RecurFits.j0 k a1 (!t282) a0_0 a0_1 a0_2 a0_3 a0_4 l0_5 l0_6 l0_7 t265 t266 t267 t268 t269 t270))) else (ephemerisref1_RecurFits.j0 k a1 false a0_0 a0_1 a0_2 a0_3 a0_4 l0_5 l0_6 l0_7 t265 t266 t267 t268 t269 t270)) = some r := by rw [if_pos rfl] at H; exact H
        clear H
        have H := H1
        clear H1
        by_cases c34 : (l0_5.length : Int) > 0
        ·rw [if_pos c34] at H
         have c34b0 : decide (0 < (l0_5.length : Int)) = true := decide_eq_true c34
         have c34b1 : decide (0 < l0_5.length) = true := decide_eq_true (by omega)
         clear c34
         replace H := Option.bind_eq_some_iff.mp H
         obtain ⟨t281, A350, H⟩ := H
         replace H : ((ephemerisref1_has.f k l0_5 t281).bind fun t282 => (ephemerisref1_RecurFits.j0 k a1 (!t282) a0_0 a0_1 a0_2 a0_3 a0_4 l0_5 l0_6 l0_7 t265 t266 t267 t268 t269 t270)) = some r := H
         have A35 := Aside0.mk A350
         clear A350
         replace H := Option.bind_eq_some_iff.mp H
         obtain ⟨t282, A360, H⟩ := H
         replace H : (ephemerisref1_RecurFits.j0 k a1 (!t282) a0_0 a0_1 a0_2 a0_3 a0_4 l0_5 l0_6 l0_7 t265 t266 t267 t268 t269 t270) = some r := H
         have A36 := Aside0.mk A360
         clear A360
         have H' := Aside0.mk H
         clear H
         try go_wp2
         generalize hq_ : World.drewN w27 _ = wq_
         obtain ⟨nd_, hnd_⟩ : ∃ n_, World.drewN w27 n_ = wq_ := ⟨_, hq_⟩
         clear hq_
         have t_ := Kd.R_drewN HO277.out nd_
         rw [hnd_] at t_
         have m0_ := Aside0.mk t_
         clear t_
         have t_ := blk_drewN BK263.out nd_
         rw [hnd_] at t_
         have m1_ := Aside0.mk t_
         clear t_
         have t_ := blk_drewN BK271.out nd_
         rw [hnd_] at t_
         have m2_ := Aside0.mk t_
         clear t_
         have t_ := blk_drewN BK272.out nd_
         rw [hnd_] at t_
         have m3_ := Aside0.mk t_
         clear t_
         have t_ := pw_below_drewN (n := nd_) HB.out
         rw [hnd_] at t_
         have mB_ := Aside0.mk t_
         clear t_ hnd_
         clear HO277 BK263 BK271 BK272 HB
         have HO277 := m0_
         have BK263 := m1_
         have BK271 := m2_
         have BK272 := m3_
         have HB := mB_
         clear m0_ m1_ m2_ m3_ mB_
         have n0_ := Aside0.mk (Kd.R_drew HO277.out)
         have n1_ := Aside0.mk (blk_drew BK263.out)
         have n2_ := Aside0.mk (blk_drew BK271.out)
         have n3_ := Aside0.mk (blk_drew BK272.out)
         have n4_ := Aside0.mk (below_drew1 HB.out)
         clear HO277
         clear BK263
         clear BK271
         clear BK272
         clear HB
         have HO277 := n0_
         have BK263 := n1_
         have BK271 := n2_
         have BK272 := n3_
         have HB := n4_
         clear n0_ n1_ n2_ n3_ n4_
         refine start_ (n := 26) (S := fun w' => w'.cell? ⟨gb263, 0, none⟩ = some (.int .i64 a0_0) ∧ w'.cell? ⟨gb263, 1, none⟩ = some (.int .i64 a0_1) ∧ w'.cell? ⟨gb263, 2, none⟩ = some (.int .i64 a0_2) ∧ w'.cell? ⟨gb263, 3, none⟩ = some (.int .i64 a0_3) ∧ w'.cell? ⟨gb263, 4, none⟩ = some (.int .i64 a0_4) ∧ w'.cell? ⟨gb263, 5, none⟩ = some (.slice A0_5 l0_5.length c0_5) ∧ w'.cell? ⟨gb263, 6, none⟩ = some (.slice A0_6 l0_6.length c0_6) ∧ w'.cell? ⟨gb263, 7, none⟩ = some (.slice A0_7 l0_7.length c0_7) ∧ w'.cell? ⟨gb272, 0, none⟩ = some (.int .i64 t268) ∧ w'.cell? ⟨gb272, 1, none⟩ = some (.int .i64 t269) ∧ w'.cell? ⟨gb272, 2, none⟩ = some (.int .i64 t270)) (ds := []) #[false, false, false, false, false, false, false, false, false, false, false, false, false, false, false, false, false, false, false, false, false, false, false, false, false, false] kx rfl rfl ⟨(blk_cell BK263.out 0).trans rfl, (blk_cell BK263.out 1).trans rfl, (blk_cell BK263.out 2).trans rfl, (blk_cell BK263.out 3).trans rfl, (blk_cell BK263.out 4).trans rfl, (blk_cell BK263.out 5).trans rfl, (blk_cell BK263.out 6).trans rfl, (blk_cell BK263.out 7).trans rfl, (blk_cell BK272.out 0).trans rfl, (blk_cell BK272.out 1).trans rfl, (blk_cell BK272.out 2).trans rfl⟩ (fun hHeld => ?_); refine with_tabW ephemerisref1_RecurFits.tab7 ephemerisref1_RecurFits.bits7 (fun HT_ HW_ => ?_)
         generalize wq_.drew = w37 at HO277 BK263 BK271 BK272 HB hHeld ⊢
         refine pure_ (i := 0) (N := some 62) (v := ?_) (a' := ?_) #[true, false, false, false, false, false, false, false, false, false, false, false, false, false, false, false, false, false, false, false, false, false, false, false, false, false] rfl rfl (any_of HT_.out kx) (fun _ _ _ h => h) (Or.inl ⟨by rfl, ?_⟩) ?_ ?_
         rotate_left
         ·intro w'
          go_simp
          with_reducible rfl
         rotate_left
         ·simp only [Act.put, List.setIfInBounds_toArray, List.set_cons_zero, List.set_cons_succ, i64_w, i32_w]
          rfl
         refine take_ (i := 1) (N := some 63) (v := ?_) (a' := ?_) #[true, true, false, false, false, false, false, false, false, false, false, false, false, false, false, false, false, false, false, false, false, false, false, false, false, false] rfl rfl (take_ofW HT_.out HW_.out kx) (fun _ _ _ h => h) (Or.inl ⟨by rfl, ?_⟩) hHeld ?_ ?_
         rotate_left
         ·rintro w' ⟨s0, s1, s2, s3, s4, s5, s6, s7, s8, s9, s10⟩
          go_simp
          with_reducible rfl
         rotate_left
         ·simp only [Act.put, List.setIfInBounds_toArray, List.set_cons_zero, List.set_cons_succ, i64_w, i32_w]
          rfl
         refine pure_ (i := 2) (N := some 64) (v := ?_) (a' := ?_) #[true, true, true, false, false, false, false, false, false, false, false, false, false, false, false, false, false, false, false, false, false, false, false, false, false, false] rfl rfl (any_of HT_.out kx) (fun _ _ _ h => h) (Or.inl ⟨by rfl, ?_⟩) ?_ ?_
         rotate_left
         ·intro w'
          go_simp
          with_reducible rfl
         rotate_left
         ·simp only [Act.put, List.setIfInBounds_toArray, List.set_cons_zero, List.set_cons_succ, i64_w, i32_w]
          rfl
         refine pure_ (i := 3) (N := some 65) (v := ?_) (a' := ?_) #[true, true, true, true, false, false, false, false, false, false, false, false, false, false, false, false, false, false, false, false, false, false, false, false, false, false] rfl rfl (any_of HT_.out kx) (fun _ _ _ h => h) (Or.inl ⟨by rfl, ?_⟩) ?_ ?_
         rotate_left
         ·intro w'
          go_simp
          with_reducible rfl
         rotate_left
         ·simp only [Act.put, List.setIfInBounds_toArray, List.set_cons_zero, List.set_cons_succ, i64_w, i32_w]
          rfl
         refine pure_ (i := 4) (N := some 66) (v := ?_) (a' := ?_) #[true, true, true, true, true, false, false, false, false, false, false, false, false, false, false, false, false, false, false, false, false, false, false, false, false, false] rfl rfl (any_of HT_.out kx) (fun _ _ _ h => h) (Or.inl ⟨by rfl, ?_⟩) ?_ ?_
         rotate_left
         ·intro w'
          go_simp
          with_reducible rfl
         rotate_left
         ·simp only [Act.put, List.setIfInBounds_toArray, List.set_cons_zero, List.set_cons_succ, i64_w, i32_w]
          rfl
         refine pure_ (i := 5) (N := some 67) (v := ?_) (a' := ?_) #[true, true, true, true, true, true, false, false, false, false, false, false, false, false, false, false, false, false, false, false, false, false, false, false, false, false] rfl rfl (any_of HT_.out kx) (fun _ _ _ h => h) (Or.inl ⟨by rfl, ?_⟩) ?_ ?_
         rotate_left
         ·intro w'
          go_simp
          with_reducible rfl
         rotate_left
         ·simp only [Act.put, List.setIfInBounds_toArray, List.set_cons_zero, List.set_cons_succ, i64_w, i32_w]
          rfl
         refine pure_ (i := 7) (N := some 69) (v := ?_) (a' := ?_) #[true, true, true, true, true, true, false, true, false, false, false, false, false, false, false, false, false, false, false, false, false, false, false, false, false, false] rfl rfl (any_of HT_.out kx) (fun _ _ _ h => h) (Or.inl ⟨by rfl, ?_⟩) ?_ ?_
         rotate_left
         ·intro w'
          go_simp
          with_reducible rfl
         rotate_left
         ·simp only [Act.put, List.setIfInBounds_toArray, List.set_cons_zero, List.set_cons_succ, i64_w, i32_w]
          rfl
         refine take_ (i := 6) (N := some 68) (v := ?_) (a' := ?_) #[true, true, true, true, true, true, true, true, false, false, false, false, false, false, false, false, false, false, false, false, false, false, false, false, false, false] rfl rfl (take_ofW HT_.out HW_.out kx) (fun _ _ _ h => h) (Or.inl ⟨by rfl, ?_⟩) hHeld ?_ ?_
         rotate_left
         ·rintro w' ⟨s0, s1, s2, s3, s4, s5, s6, s7, s8, s9, s10⟩
          go_simp
          with_reducible rfl
         rotate_left
         ·simp only [Act.put, List.setIfInBounds_toArray, List.set_cons_zero, List.set_cons_succ, i64_w, i32_w]
          rfl
         refine take_ (i := 8) (N := some 70) (v := ?_) (a' := ?_) #[true, true, true, true, true, true, true, true, true, false, false, false, false, false, false, false, false, false, false, false, false, false, false, false, false, false] rfl rfl (take_ofW HT_.out HW_.out kx) (fun _ _ _ h => h) (Or.inl ⟨by rfl, ?_⟩) hHeld ?_ ?_
         rotate_left
         ·rintro w' ⟨s0, s1, s2, s3, s4, s5, s6, s7, s8, s9, s10⟩
          go_simp
          with_reducible rfl
         rotate_left
         ·simp only [Act.put, List.setIfInBounds_toArray, List.set_cons_zero, List.set_cons_succ, i64_w, i32_w]
          rfl
         refine one_ (i := 9) (N := some 71) #[true, true, true, true, true, true, true, true, true, true, false, false, false, false, false, false, false, false, false, false, false, false, false, false, false, false] rfl rfl (one_of HT_.out kx) (by decide) (fun K hK => ?_)
         refine goes_ Try.func100 kx rfl #[.slice A0_7 l0_7.length c0_7, .int .i64 t269] (by rfl) rfl rfl aa ?_
         with_reducible refine (ephemerisref1_has.calls k _ _ l0_7 t269 true _ ?side1 ?side2 A32.out).mono ?_
         (case side1 => exact kc (Kd.C_below HR0_7.out HB.out))
         (case side2 => exact HC0_7.out)
         rintro e w' ⟨rfl, ⟨nd, rfl⟩⟩
         refine ⟨_, rfl, ?_⟩
         refine hK.out _ _ ⟨(blk_cell BK263.out 0).trans rfl, (blk_cell BK263.out 1).trans rfl, (blk_cell BK263.out 2).trans rfl, (blk_cell BK263.out 3).trans rfl, (blk_cell BK263.out 4).trans rfl, (blk_cell BK263.out 5).trans rfl, (blk_cell BK263.out 6).trans rfl, (blk_cell BK263.out 7).trans rfl, (blk_cell BK272.out 0).trans rfl, (blk_cell BK272.out 1).trans rfl, (blk_cell BK272.out 2).trans rfl⟩ (fun hHeld => ?_)
         clear hK K
         refine norm_ (a' := ?_) ?_ ?_
         rotate_left
         ·show Act.put _ (some 71) _ = _
          simp only [Act.put, List.setIfInBounds_toArray, List.set_cons_zero, List.set_cons_succ, i64_w, i32_w]
          rfl
         refine pure_ (i := 10) (N := some 72) (v := ?_) (a' := ?_) #[true, true, true, true, true, true, true, true, true, true, true, false, false, false, false, false, false, false, false, false, false, false, false, false, false, false] rfl rfl (any_of HT_.out kx) (fun _ _ _ h => h) (Or.inl ⟨by rfl, ?_⟩) ?_ ?_
         rotate_left
         ·intro w'
          go_simp
          with_reducible rfl
         rotate_left
         ·simp only [Act.put, List.setIfInBounds_toArray, List.set_cons_zero, List.set_cons_succ, i64_w, i32_w]
          rfl
         refine pure_ (i := 11) (N := some 73) (v := ?_) (a' := ?_) #[true, true, true, true, true, true, true, true, true, true, true, true, false, false, false, false, false, false, false, false, false, false, false, false, false, false] rfl rfl (any_of HT_.out kx) (fun _ _ _ h => h) (Or.inl ⟨by rfl, ?_⟩) ?_ ?_
         rotate_left
         ·intro w'
          go_simp
          with_reducible rfl
         rotate_left
         ·simp only [Act.put, List.setIfInBounds_toArray, List.set_cons_zero, List.set_cons_succ, i64_w, i32_w]
          rfl
         refine pure_ (i := 12) (N := some 74) (v := ?_) (a' := ?_) #[true, true, true, true, true, true, true, true, true, true, true, true, true, false, false, false, false, false, false, false, false, false, false, false, false, false] rfl rfl (any_of HT_.out kx) (fun _ _ _ h => h) (Or.inl ⟨by rfl, ?_⟩) ?_ ?_
         rotate_left
         ·intro w'
          go_simp
          with_reducible rfl
         rotate_left
         ·simp only [Act.put, List.setIfInBounds_toArray, List.set_cons_zero, List.set_cons_succ, i64_w, i32_w]
          rfl
         refine pure_ (i := 13) (N := some 75) (v := ?_) (a' := ?_) #[true, true, true, true, true, true, true, true, true, true, true, true, true, true, false, false, false, false, false, false, false, false, false, false, false, false] rfl rfl (any_of HT_.out kx) (fun _ _ _ h => h) (Or.inl ⟨by rfl, ?_⟩) ?_ ?_
         rotate_left
         ·intro w'
          go_simp
          with_reducible rfl
         rotate_left
         ·simp only [Act.put, List.setIfInBounds_toArray, List.set_cons_zero, List.set_cons_succ, i64_w, i32_w]
          rfl
         refine take_ (i := 14) (N := some 76) (v := ?_) (a' := ?_) #[true, true, true, true, true, true, true, true, true, true, true, true, true, true, true, false, false, false, false, false, false, false, false, false, false, false] rfl rfl (take_ofW HT_.out HW_.out kx) (fun _ _ _ h => h) (Or.inl ⟨by rfl, ?_⟩) hHeld ?_ ?_
         rotate_left
         ·rintro w' ⟨s0, s1, s2, s3, s4, s5, s6, s7, s8, s9, s10⟩
          go_simp
          with_reducible rfl
         rotate_left
         ·simp only [Act.put, List.setIfInBounds_toArray, List.set_cons_zero, List.set_cons_succ, i64_w, i32_w]
          rfl
         refine pure_ (i := 15) (N := some 77) (v := ?_) (a' := ?_) #[true, true, true, true, true, true, true, true, true, true, true, true, true, true, true, true, false, false, false, false, false, false, false, false, false, false] rfl rfl (any_of HT_.out kx) (fun _ _ _ h => h) (Or.inl ⟨by rfl, ?_⟩) ?_ ?_
         rotate_left
         ·intro w'
          go_simp
          with_reducible rfl
         rotate_left
         ·simp only [Act.put, List.setIfInBounds_toArray, List.set_cons_zero, List.set_cons_succ, i64_w, i32_w]
          rfl
         refine pure_ (i := 16) (N := some 78) (v := ?_) (a' := ?_) #[true, true, true, true, true, true, true, true, true, true, true, true, true, true, true, true, true, false, false, false, false, false, false, false, false, false] rfl rfl (any_of HT_.out kx) (fun _ _ _ h => h) (Or.inl ⟨by rfl, ?_⟩) ?_ ?_
         rotate_left
         ·intro w'
          go_simp
          with_reducible rfl
         rotate_left
         ·simp only [Act.put, List.setIfInBounds_toArray, List.set_cons_zero, List.set_cons_succ, i64_w, i32_w]
          rfl
         refine pure_ (i := 17) (N := some 79) (v := ?_) (a' := ?_) #[true, true, true, true, true, true, true, true, true, true, true, true, true, true, true, true, true, true, false, false, false, false, false, false, false, false] rfl rfl (any_of HT_.out kx) (fun _ _ _ h => h) (Or.inl ⟨by rfl, ?_⟩) ?_ ?_
         rotate_left
         ·intro w'
          go_simp
          with_reducible rfl
         rotate_left
         ·simp only [Act.put, List.setIfInBounds_toArray, List.set_cons_zero, List.set_cons_succ, i64_w, i32_w]
          rfl
         refine pure_ (i := 18) (N := some 80) (v := ?_) (a' := ?_) #[true, true, true, true, true, true, true, true, true, true, true, true, true, true, true, true, true, true, true, false, false, false, false, false, false, false] rfl rfl (any_of HT_.out kx) (fun _ _ _ h => h) (Or.inl ⟨by rfl, ?_⟩) ?_ ?_
         rotate_left
         ·intro w'
          go_simp
          with_reducible rfl
         rotate_left
         ·simp only [Act.put, List.setIfInBounds_toArray, List.set_cons_zero, List.set_cons_succ, i64_w, i32_w]
          rfl
         refine pure_ (i := 20) (N := some 82) (v := ?_) (a' := ?_) #[true, true, true, true, true, true, true, true, true, true, true, true, true, true, true, true, true, true, true, false, true, false, false, false, false, false] rfl rfl (any_of HT_.out kx) (fun _ _ _ h => h) (Or.inl ⟨by rfl, ?_⟩) ?_ ?_
         rotate_left
         ·intro w'
          go_simp
          with_reducible rfl
         rotate_left
         ·simp only [Act.put, List.setIfInBounds_toArray, List.set_cons_zero, List.set_cons_succ, i64_w, i32_w]
          rfl
         refine take_ (i := 19) (N := some 81) (v := ?_) (a' := ?_) #[true, true, true, true, true, true, true, true, true, true, true, true, true, true, true, true, true, true, true, true, true, false, false, false, false, false] rfl rfl (take_ofW HT_.out HW_.out kx) (fun _ _ _ h => h) (Or.inl ⟨by rfl, ?_⟩) hHeld ?_ ?_
         rotate_left
         ·rintro w' ⟨s0, s1, s2, s3, s4, s5, s6, s7, s8, s9, s10⟩
          go_simp
          with_reducible rfl
         rotate_left
         ·simp only [Act.put, List.setIfInBounds_toArray, List.set_cons_zero, List.set_cons_succ, i64_w, i32_w]
          rfl
         refine one_ (i := 21) (N := some 83) #[true, true, true, true, true, true, true, true, true, true, true, true, true, true, true, true, true, true, true, true, true, true, false, false, false, false] rfl rfl (one_of HT_.out kx) (by decide) (fun K hK => ?_)
         refine goes_ Try.func79 kx rfl #[.int .i64 a1] (by rfl) rfl rfl aa ?_
         with_reducible refine (ephemerisref1_Week.calls k a1 t281 _ A35.out).mono ?_
         rintro e w' ⟨rfl, ⟨nd, rfl⟩⟩
         refine ⟨_, rfl, ?_⟩
         refine hK.out _ _ ⟨(blk_cell BK263.out 0).trans rfl, (blk_cell BK263.out 1).trans rfl, (blk_cell BK263.out 2).trans rfl, (blk_cell BK263.out 3).trans rfl, (blk_cell BK263.out 4).trans rfl, (blk_cell BK263.out 5).trans rfl, (blk_cell BK263.out 6).trans rfl, (blk_cell BK263.out 7).trans rfl, (blk_cell BK272.out 0).trans rfl, (blk_cell BK272.out 1).trans rfl, (blk_cell BK272.out 2).trans rfl⟩ (fun hHeld => ?_)
         clear hK K
         refine norm_ (a' := ?_) ?_ ?_
         rotate_left
         ·show Act.put _ (some 83) _ = _
          simp only [Act.put, List.setIfInBounds_toArray, List.set_cons_zero, List.set_cons_succ, i64_w, i32_w]
          rfl
         refine one_ (i := 22) (N := some 84) #[true, true, true, true, true, true, true, true, true, true, true, true, true, true, true, true, true, true, true, true, true, true, true, false, false, false] rfl rfl (one_of HT_.out kx) (by decide) (fun K hK => ?_)
         refine goes_ Try.func100 kx rfl #[.slice A0_5 l0_5.length c0_5, .int .i64 t281] (by rfl) rfl rfl aa ?_
         with_reducible refine (ephemerisref1_has.calls k _ _ l0_5 t281 t282 _ ?side1 ?side2 A36.out).mono ?_
         (case side1 => repeat (first | exact (Kd.C_below HR0_5.out be) | (with_reducible refine Kd.C_alloc ?_ _) | (with_reducible refine Kd.C_drewN ?_ _) | (with_reducible refine Kd.C_drew ?_)))
         (case side2 => exact HC0_5.out)
         rintro e w' ⟨rfl, ⟨nd, rfl⟩⟩
         refine ⟨_, rfl, ?_⟩
         refine hK.out _ _ ⟨(blk_cell BK263.out 0).trans rfl, (blk_cell BK263.out 1).trans rfl, (blk_cell BK263.out 2).trans rfl, (blk_cell BK263.out 3).trans rfl, (blk_cell BK263.out 4).trans rfl, (blk_cell BK263.out 5).trans rfl, (blk_cell BK263.out 6).trans rfl, (blk_cell BK263.out 7).trans rfl, (blk_cell BK272.out 0).trans rfl, (blk_cell BK272.out 1).trans rfl, (blk_cell BK272.out 2).trans rfl⟩ (fun hHeld => ?_)
         clear hK K
         refine norm_ (a' := ?_) ?_ ?_
         rotate_left
         ·show Act.put _ (some 84) _ = _
          simp only [Act.put, List.setIfInBounds_toArray, List.set_cons_zero, List.set_cons_succ, i64_w, i32_w]
          rfl
         refine pure_ (i := 23) (N := some 85) (v := ?_) (a' := ?_) #[true, true, true, true, true, true, true, true, true, true, true, true, true, true, true, true, true, true, true, true, true, true, true, true, false, false] rfl rfl (any_of HT_.out kx) (fun _ _ _ h => h) (Or.inl ⟨by rfl, ?_⟩) ?_ ?_
         rotate_left
         ·intro w'
          go_simp
          with_reducible rfl
         rotate_left
         ·simp only [Act.put, List.setIfInBounds_toArray, List.set_cons_zero, List.set_cons_succ, i64_w, i32_w]
          rfl
         refine pure_ (i := 24) (N := some 86) (v := ?_) (a' := ?_) #[true, true, true, true, true, true, true, true, true, true, true, true, true, true, true, true, true, true, true, true, true, true, true, true, true, false] rfl rfl (any_of HT_.out kx) (fun _ _ _ h => h) (Or.inl ⟨by rfl, ?_⟩) ?_ ?_
         rotate_left
         ·intro w'
          go_simp
          with_reducible rfl
         rotate_left
         ·simp only [Act.put, List.setIfInBounds_toArray, List.set_cons_zero, List.set_cons_succ, i64_w, i32_w]
          rfl
         refine pure_ (i := 25) (N := some 87) (v := ?_) (a' := ?_) #[true, true, true, true, true, true, true, true, true, true, true, true, true, true, true, true, true, true, true, true, true, true, true, true, true, true] rfl rfl (any_of HT_.out kx) (fun _ _ _ h => h) (Or.inl ⟨by rfl, ?_⟩) ?_ ?_
         rotate_left
         ·intro w'
          go_simp
          with_reducible rfl
         rotate_left
         ·simp only [Act.put, List.setIfInBounds_toArray, List.set_cons_zero, List.set_cons_succ, i64_w, i32_w]
          rfl
         refine done_ (done_of HT_.out kx) ?_
         try go_wp2
         go_meet
         case rel => exact ⟨_, (!t282), rs, H', ⟨by first | omega | exact Nat.le_refl _⟩, ⟨bk BK263⟩, ⟨bk BK271⟩, ⟨bk BK272⟩, ⟨be⟩⟩
        ·rw [if_neg c34] at H
         have c34b0 : decide (0 < (l0_5.length : Int)) = false := decide_eq_false c34
         have c34b1 : decide (0 < l0_5.length) = false := decide_eq_false (by omega)
         clear c34
         have H' := Aside0.mk H
         clear H
         try go_wp2
         generalize hq_ : World.drewN w27 _ = wq_
         obtain ⟨nd_, hnd_⟩ : ∃ n_, World.drewN w27 n_ = wq_ := ⟨_, hq_⟩
         clear hq_
         have t_ := Kd.R_drewN HO277.out nd_
         rw [hnd_] at t_
         have m0_ := Aside0.mk t_
         clear t_
         have t_ := blk_drewN BK263.out nd_
         rw [hnd_] at t_
         have m1_ := Aside0.mk t_
         clear t_
         have t_ := blk_drewN BK271.out nd_
         rw [hnd_] at t_
         have m2_ := Aside0.mk t_
         clear t_
         have t_ := blk_drewN BK272.out nd_
         rw [hnd_] at t_
         have m3_ := Aside0.mk t_
         clear t_
         have t_ := pw_below_drewN (n := nd_) HB.out
         rw [hnd_] at t_
         have mB_ := Aside0.mk t_
         clear t_ hnd_
         clear HO277 BK263 BK271 BK272 HB
         have HO277 := m0_
         have BK263 := m1_
         have BK271 := m2_
         have BK272 := m3_
         have HB := mB_
         clear m0_ m1_ m2_ m3_ mB_
         have n0_ := Aside0.mk (Kd.R_drew HO277.out)
         have n1_ := Aside0.mk (blk_drew BK263.out)
         have n2_ := Aside0.mk (blk_drew BK271.out)
         have n3_ := Aside0.mk (blk_drew BK272.out)
         have n4_ := Aside0.mk (below_drew1 HB.out)
         clear HO277
         clear BK263
         clear BK271
         clear BK272
         clear HB
         have HO277 := n0_
         have BK263 := n1_
         have BK271 := n2_
         have BK272 := n3_
         have HB := n4_
         clear n0_ n1_ n2_ n3_ n4_
         refine start_ (n := 26) (S := fun w' => w'.cell? ⟨gb263, 0, none⟩ = some (.int .i64 a0_0) ∧ w'.cell? ⟨gb263, 1, none⟩ = some (.int .i64 a0_1) ∧ w'.cell? ⟨gb263, 2, none⟩ = some (.int .i64 a0_2) ∧ w'.cell? ⟨gb263, 3, none⟩ = some (.int .i64 a0_3) ∧ w'.cell? ⟨gb263, 4, none⟩ = some (.int .i64 a0_4) ∧ w'.cell? ⟨gb263, 5, none⟩ = some (.slice A0_5 l0_5.length c0_5) ∧ w'.cell? ⟨gb263, 6, none⟩ = some (.slice A0_6 l0_6.length c0_6) ∧ w'.cell? ⟨gb263, 7, none⟩ = some (.slice A0_7 l0_7.length c0_7) ∧ w'.cell? ⟨gb272, 0, none⟩ = some (.int .i64 t268) ∧ w'.cell? ⟨gb272, 1, none⟩ = some (.int .i64 t269) ∧ w'.cell? ⟨gb272, 2, none⟩ = some (.int .i64 t270)) (ds := []) #[false, false, false, false, false, false, false, false, false, false, false, false, false, false, false, false, false, false, false, false, false, false, false, false, false, false] kx rfl rfl ⟨(blk_cell BK263.out 0).trans rfl, (blk_cell BK263.out 1).trans rfl, (blk_cell BK263.out 2).trans rfl, (blk_cell BK263.out 3).trans rfl, (blk_cell BK263.out 4).trans rfl, (blk_cell BK263.out 5).trans rfl, (blk_cell BK263.out 6).trans rfl, (blk_cell BK263.out 7).trans rfl, (blk_cell BK272.out 0).trans rfl, (blk_cell BK272.out 1).trans rfl, (blk_cell BK272.out 2).trans rfl⟩ (fun hHeld => ?_); refine with_tabW ephemerisref1_RecurFits.tab7 ephemerisref1_RecurFits.bits7 (fun HT_ HW_ => ?_)
         generalize wq_.drew = w38 at HO277 BK263 BK271 BK272 HB hHeld ⊢
         refine pure_ (i := 0) (N := some 62) (v := ?_) (a' := ?_) #[true, false, false, false, false, false, false, false, false, false, false, false, false, false, false, false, false, false, false, false, false, false, false, false, false, false] rfl rfl (any_of HT_.out kx) (fun _ _ _ h => h) (Or.inl ⟨by rfl, ?_⟩) ?_ ?_
         rotate_left
         ·intro w'
          go_simp
          with_reducible rfl
         rotate_left
         ·simp only [Act.put, List.setIfInBounds_toArray, List.set_cons_zero, List.set_cons_succ, i64_w, i32_w]
          rfl
         refine take_ (i := 1) (N := some 63) (v := ?_) (a' := ?_) #[true, true, false, false, false, false, false, false, false, false, false, false, false, false, false, false, false, false, false, false, false, false, false, false, false, false] rfl rfl (take_ofW HT_.out HW_.out kx) (fun _ _ _ h => h) (Or.inl ⟨by rfl, ?_⟩) hHeld ?_ ?_
         rotate_left
         ·rintro w' ⟨s0, s1, s2, s3, s4, s5, s6, s7, s8, s9, s10⟩
          go_simp
          with_reducible rfl
         rotate_left
         ·simp only [Act.put, List.setIfInBounds_toArray, List.set_cons_zero, List.set_cons_succ, i64_w, i32_w]
          rfl
         refine pure_ (i := 2) (N := some 64) (v := ?_) (a' := ?_) #[true, true, true, false, false, false, false, false, false, false, false, false, false, false, false, false, false, false, false, false, false, false, false, false, false, false] rfl rfl (any_of HT_.out kx) (fun _ _ _ h => h) (Or.inl ⟨by rfl, ?_⟩) ?_ ?_
         rotate_left
         ·intro w'
          go_simp
          with_reducible rfl
         rotate_left
         ·simp only [Act.put, List.setIfInBounds_toArray, List.set_cons_zero, List.set_cons_succ, i64_w, i32_w]
          rfl
         refine pure_ (i := 3) (N := some 65) (v := ?_) (a' := ?_) #[true, true, true, true, false, false, false, false, false, false, false, false, false, false, false, false, false, false, false, false, false, false, false, false, false, false] rfl rfl (any_of HT_.out kx) (fun _ _ _ h => h) (Or.inl ⟨by rfl, ?_⟩) ?_ ?_
         rotate_left
         ·intro w'
          go_simp
          with_reducible rfl
         rotate_left
         ·simp only [Act.put, List.setIfInBounds_toArray, List.set_cons_zero, List.set_cons_succ, i64_w, i32_w]
          rfl
         refine pure_ (i := 4) (N := some 66) (v := ?_) (a' := ?_) #[true, true, true, true, true, false, false, false, false, false, false, false, false, false, false, false, false, false, false, false, false, false, false, false, false, false] rfl rfl (any_of HT_.out kx) (fun _ _ _ h => h) (Or.inl ⟨by rfl, ?_⟩) ?_ ?_
         rotate_left
         ·intro w'
          go_simp
          with_reducible rfl
         rotate_left
         ·simp only [Act.put, List.setIfInBounds_toArray, List.set_cons_zero, List.set_cons_succ, i64_w, i32_w]
          rfl
         refine pure_ (i := 5) (N := some 67) (v := ?_) (a' := ?_) #[true, true, true, true, true, true, false, false, false, false, false, false, false, false, false, false, false, false, false, false, false, false, false, false, false, false] rfl rfl (any_of HT_.out kx) (fun _ _ _ h => h) (Or.inl ⟨by rfl, ?_⟩) ?_ ?_
         rotate_left
         ·intro w'
          go_simp
          with_reducible rfl
         rotate_left
         ·simp only [Act.put, List.setIfInBounds_toArray, List.set_cons_zero, List.set_cons_succ, i64_w, i32_w]
          rfl
         refine pure_ (i := 7) (N := some 69) (v := ?_) (a' := ?_) #[true, true, true, true, true, true, false, true, false, false, false, false, false, false, false, false, false, false, false, false, false, false, false, false, false, false] rfl rfl (any_of HT_.out kx) (fun _ _ _ h => h) (Or.inl ⟨by rfl, ?_⟩) ?_ ?_
         rotate_left
         ·intro w'
          go_simp
          with_reducible rfl
         rotate_left
         ·simp only [Act.put, List.setIfInBounds_toArray, List.set_cons_zero, List.set_cons_succ, i64_w, i32_w]
          rfl
         refine take_ (i := 6) (N := some 68) (v := ?_) (a' := ?_) #[true, true, true, true, true, true, true, true, false, false, false, false, false, false, false, false, false, false, false, false, false, false, false, false, false, false] rfl rfl (take_ofW HT_.out HW_.out kx) (fun _ _ _ h => h) (Or.inl ⟨by rfl, ?_⟩) hHeld ?_ ?_
         rotate_left
         ·rintro w' ⟨s0, s1, s2, s3, s4, s5, s6, s7, s8, s9, s10⟩
          go_simp
          with_reducible rfl
         rotate_left
         ·simp only [Act.put, List.setIfInBounds_toArray, List.set_cons_zero, List.set_cons_succ, i64_w, i32_w]
          rfl
         refine take_ (i := 8) (N := some 70) (v := ?_) (a' := ?_) #[true, true, true, true, true, true, true, true, true, false, false, false, false, false, false, false, false, false, false, false, false, false, false, false, false, false] rfl rfl (take_ofW HT_.out HW_.out kx) (fun _ _ _ h => h) (Or.inl ⟨by rfl, ?_⟩) hHeld ?_ ?_
         rotate_left
         ·rintro w' ⟨s0, s1, s2, s3, s4, s5, s6, s7, s8, s9, s10⟩
          go_simp
          with_reducible rfl
         rotate_left
         ·simp only [Act.put, List.setIfInBounds_toArray, List.set_cons_zero, List.set_cons_succ, i64_w, i32_w]
          rfl
         refine one_ (i := 9) (N := some 71) #[true, true, true, true, true, true, true, true, true, true, false, false, false, false, false, false, false, false, false, false, false, false, false, false, false, false] rfl rfl (one_of HT_.out kx) (by decide) (fun K hK => ?_)
         refine goes_ Try.func100 kx rfl #[.slice A0_7 l0_7.length c0_7, .int .i64 t269] (by rfl) rfl rfl aa ?_
         with_reducible refine (ephemerisref1_has.calls k _ _ l0_7 t269 true _ ?side1 ?side2 A32.out).mono ?_
         (case side1 => exact kc (Kd.C_below HR0_7.out HB.out))
         (case side2 => exact HC0_7.out)
         rintro e w' ⟨rfl, ⟨nd, rfl⟩⟩
         refine ⟨_, rfl, ?_⟩
         refine hK.out _ _ ⟨(blk_cell BK263.out 0).trans rfl, (blk_cell BK263.out 1).trans rfl, (blk_cell BK263.out 2).trans rfl, (blk_cell BK263.out 3).trans rfl, (blk_cell BK263.out 4).trans rfl, (blk_cell BK263.out 5).trans rfl, (blk_cell BK263.out 6).trans rfl, (blk_cell BK263.out 7).trans rfl, (blk_cell BK272.out 0).trans rfl, (blk_cell BK272.out 1).trans rfl, (blk_cell BK272.out 2).trans rfl⟩ (fun hHeld => ?_)
         clear hK K
         refine norm_ (a' := ?_) ?_ ?_
         rotate_left
         ·show Act.put _ (some 71) _ = _
          simp only [Act.put, List.setIfInBounds_toArray, List.set_cons_zero, List.set_cons_succ, i64_w, i32_w]
          rfl
         refine pure_ (i := 10) (N := some 72) (v := ?_) (a' := ?_) #[true, true, true, true, true, true, true, true, true, true, true, false, false, false, false, false, false, false, false, false, false, false, false, false, false, false] rfl rfl (any_of HT_.out kx) (fun _ _ _ h => h) (Or.inl ⟨by rfl, ?_⟩) ?_ ?_
         rotate_left
         ·intro w'
          go_simp
          with_reducible rfl
         rotate_left
         ·simp only [Act.put, List.setIfInBounds_toArray, List.set_cons_zero, List.set_cons_succ, i64_w, i32_w]
          rfl
         refine pure_ (i := 11) (N := some 73) (v := ?_) (a' := ?_) #[true, true, true, true, true, true, true, true, true, true, true, true, false, false, false, false, false, false, false, false, false, false, false, false, false, false] rfl rfl (any_of HT_.out kx) (fun _ _ _ h => h) (Or.inl ⟨by rfl, ?_⟩) ?_ ?_
         rotate_left
         ·intro w'
          go_simp
          with_reducible rfl
         rotate_left
         ·simp only [Act.put, List.setIfInBounds_toArray, List.set_cons_zero, List.set_cons_succ, i64_w, i32_w]
          rfl
         refine pure_ (i := 12) (N := some 74) (v := ?_) (a' := ?_) #[true, true, true, true, true, true, true, true, true, true, true, true, true, false, false, false, false, false, false, false, false, false, false, false, false, false] rfl rfl (any_of HT_.out kx) (fun _ _ _ h => h) (Or.inl ⟨by rfl, ?_⟩) ?_ ?_
         rotate_left
         ·intro w'
          go_simp
          with_reducible rfl
         rotate_left
         ·simp only [Act.put, List.setIfInBounds_toArray, List.set_cons_zero, List.set_cons_succ, i64_w, i32_w]
          rfl
         refine pure_ (i := 13) (N := some 75) (v := ?_) (a' := ?_) #[true, true, true, true, true, true, true, true, true, true, true, true, true, true, false, false, false, false, false, false, false, false, false, false, false, false] rfl rfl (any_of HT_.out kx) (fun _ _ _ h => h) (Or.inl ⟨by rfl, ?_⟩) ?_ ?_
         rotate_left
         ·intro w'
          go_simp
          with_reducible rfl
         rotate_left
         ·simp only [Act.put, List.setIfInBounds_toArray, List.set_cons_zero, List.set_cons_succ, i64_w, i32_w]
          rfl
         refine take_ (i := 14) (N := some 76) (v := ?_) (a' := ?_) #[true, true, true, true, true, true, true, true, true, true, true, true, true, true, true, false, false, false, false, false, false, false, false, false, false, false] rfl rfl (take_ofW HT_.out HW_.out kx) (fun _ _ _ h => h) (Or.inl ⟨by rfl, ?_⟩) hHeld ?_ ?_
         rotate_left
         ·rintro w' ⟨s0, s1, s2, s3, s4, s5, s6, s7, s8, s9, s10⟩
          go_simp
          with_reducible rfl
         rotate_left
         ·simp only [Act.put, List.setIfInBounds_toArray, List.set_cons_zero, List.set_cons_succ, i64_w, i32_w]
          rfl
         refine pure_ (i := 15) (N := some 77) (v := ?_) (a' := ?_) #[true, true, true, true, true, true, true, true, true, true, true, true, true, true, true, true, false, false, false, false, false, false, false, false, false, false] rfl rfl (any_of HT_.out kx) (fun _ _ _ h => h) (Or.inl ⟨by rfl, ?_⟩) ?_ ?_
         rotate_left
         ·intro w'
          go_simp
          with_reducible rfl
         rotate_left
         ·simp only [Act.put, List.setIfInBounds_toArray, List.set_cons_zero, List.set_cons_succ, i64_w, i32_w]
          rfl
         refine pure_ (i := 16) (N := some 78) (v := ?_) (a' := ?_) #[true, true, true, true, true, true, true, true, true, true, true, true, true, true, true, true, true, false, false, false, false, false, false, false, false, false] rfl rfl (any_of HT_.out kx) (fun _ _ _ h => h) (Or.inl ⟨by rfl, ?_⟩) ?_ ?_
         rotate_left
         ·intro w'
          go_simp
          with_reducible rfl
         rotate_left
         ·simp only [Act.put, List.setIfInBounds_toArray, List.set_cons_zero, List.set_cons_succ, i64_w, i32_w]
          rfl
         refine pure_ (i := 17) (N := some 79) (v := ?_) (a' := ?_) #[true, true, true, true, true, true, true, true, true, true, true, true, true, true, true, true, true, true, false, false, false, false, false, false, false, false] rfl rfl (any_of HT_.out kx) (fun _ _ _ h => h) (Or.inl ⟨by rfl, ?_⟩) ?_ ?_
         rotate_left
         ·intro w'
          go_simp
          with_reducible rfl
         rotate_left
         ·simp only [Act.put, List.setIfInBounds_toArray, List.set_cons_zero, List.set_cons_succ, i64_w, i32_w]
          rfl
         refine pure_ (i := 18) (N := some 80) (v := undef) (a' := ?_) #[true, true, true, true, true, true, true, true, true, true, true, true, true, true, true, true, true, true, true, false, false, false, false, false, false, false] rfl rfl (any_of HT_.out kx) (fun _ _ _ h => h) (Or.inr ⟨by rfl, rfl⟩) ?_ ?_
         rotate_left
         ·simp only [Act.put, List.setIfInBounds_toArray, List.set_cons_zero, List.set_cons_succ, i64_w, i32_w]
          rfl
         refine pure_ (i := 19) (N := some 81) (v := undef) (a' := ?_) #[true, true, true, true, true, true, true, true, true, true, true, true, true, true, true, true, true, true, true, true, false, false, false, false, false, false] rfl rfl (any_of HT_.out kx) (fun _ _ _ h => h) (Or.inr ⟨by rfl, rfl⟩) ?_ ?_
         rotate_left
         ·simp only [Act.put, List.setIfInBounds_toArray, List.set_cons_zero, List.set_cons_succ, i64_w, i32_w]
          rfl
         refine pure_ (i := 20) (N := some 82) (v := undef) (a' := ?_) #[true, true, true, true, true, true, true, true, true, true, true, true, true, true, true, true, true, true, true, true, true, false, false, false, false, false] rfl rfl (any_of HT_.out kx) (fun _ _ _ h => h) (Or.inr ⟨by rfl, rfl⟩) ?_ ?_
         rotate_left
         ·simp only [Act.put, List.setIfInBounds_toArray, List.set_cons_zero, List.set_cons_succ, i64_w, i32_w]
          rfl
         refine pure_ (i := 21) (N := some 83) (v := undef) (a' := ?_) #[true, true, true, true, true, true, true, true, true, true, true, true, true, true, true, true, true, true, true, true, true, true, false, false, false, false] rfl rfl (any_of HT_.out kx) (fun _ _ _ h => h) (Or.inr ⟨by rfl, rfl⟩) ?_ ?_
         rotate_left
         ·simp only [Act.put, List.setIfInBounds_toArray, List.set_cons_zero, List.set_cons_succ, i64_w, i32_w]
          rfl
         refine pure_ (i := 22) (N := some 84) (v := undef) (a' := ?_) #[true, true, true, true, true, true, true, true, true, true, true, true, true, true, true, true, true, true, true, true, true, true, true, false, false, false] rfl rfl (any_of HT_.out kx) (fun _ _ _ h => h) (Or.inr ⟨by rfl, rfl⟩) ?_ ?_
         rotate_left
         ·simp only [Act.put, List.setIfInBounds_toArray, List.set_cons_zero, List.set_cons_succ, i64_w, i32_w]
          rfl
         refine pure_ (i := 23) (N := some 85) (v := undef) (a' := ?_) #[true, true, true, true, true, true, true, true, true, true, true, true, true, true, true, true, true, true, true, true, true, true, true, true, false, false] rfl rfl (any_of HT_.out kx) (fun _ _ _ h => h) (Or.inr ⟨by rfl, rfl⟩) ?_ ?_
         rotate_left
         ·simp only [Act.put, List.setIfInBounds_toArray, List.set_cons_zero, List.set_cons_succ, i64_w, i32_w]
          rfl
         refine pure_ (i := 24) (N := some 86) (v := ?_) (a' := ?_) #[true, true, true, true, true, true, true, true, true, true, true, true, true, true, true, true, true, true, true, true, true, true, true, true, true, false] rfl rfl (any_of HT_.out kx) (fun _ _ _ h => h) (Or.inl ⟨by rfl, ?_⟩) ?_ ?_
         rotate_left
         ·intro w'
          go_simp
          with_reducible rfl
         rotate_left
         ·simp only [Act.put, List.setIfInBounds_toArray, List.set_cons_zero, List.set_cons_succ, i64_w, i32_w]
          rfl
         refine pure_ (i := 25) (N := some 87) (v := ?_) (a' := ?_) #[true, true, true, true, true, true, true, true, true, true, true, true, true, true, true, true, true, true, true, true, true, true, true, true, true, true] rfl rfl (any_of HT_.out kx) (fun _ _ _ h => h) (Or.inl ⟨by rfl, ?_⟩) ?_ ?_
         rotate_left
         ·intro w'
          go_simp
          with_reducible rfl
         rotate_left
         ·simp only [Act.put, List.setIfInBounds_toArray, List.set_cons_zero, List.set_cons_succ, i64_w, i32_w]
          rfl
         refine done_ (done_of HT_.out kx) ?_
         try go_wp2
         go_meet
         case rel => exact ⟨_, (false), rs, H', ⟨by first | omega | exact Nat.le_refl _⟩, ⟨bk BK263⟩, ⟨bk BK271⟩, ⟨bk BK272⟩, ⟨be⟩⟩
       ·replace c33 := Bool.eq_false_iff.mpr c33
        subst c33
        have H1 : (ephemerisref1_RecurFits.j0 k a1 true a0_0 a0_1 a0_2 a0_3 a0_4 l0_5 l0_6 l0_7 t265 t266 t267 t268 t269 t270) = some r := by rw [if_neg (show ¬ (false = true) by decide)] at H; exact H
        clear H
        have H := H1
        clear H1
        have H' := Aside0.mk H
        clear H
        try go_wp2
        generalize hq_ : World.drewN w27 _ = wq_
        obtain ⟨nd_, hnd_⟩ : ∃ n_, World.drewN w27 n_ = wq_ := ⟨_, hq_⟩
        clear hq_
        have t_ := Kd.R_drewN HO277.out nd_
        rw [hnd_] at t_
        have m0_ := Aside0.mk t_
        clear t_
        have t_ := blk_drewN BK263.out nd_
        rw [hnd_] at t_
        have m1_ := Aside0.mk t_
        clear t_
        have t_ := blk_drewN BK271.out nd_
        rw [hnd_] at t_
        have m2_ := Aside0.mk t_
        clear t_
        have t_ := blk_drewN BK272.out nd_
        rw [hnd_] at t_
        have m3_ := Aside0.mk t_
        clear t_
        have t_ := pw_below_drewN (n := nd_) HB.out
        rw [hnd_] at t_
        have mB_ := Aside0.mk t_
        clear t_ hnd_
        clear HO277 BK263 BK271 BK272 HB
        have HO277 := m0_
        have BK263 := m1_
        have BK271 := m2_
        have BK272 := m3_
        have HB := mB_
        clear m0_ m1_ m2_ m3_ mB_
        have n0_ := Aside0.mk (Kd.R_drew HO277.out)
        have n1_ := Aside0.mk (blk_drew BK263.out)
        have n2_ := Aside0.mk (blk_drew BK271.out)
        have n3_ := Aside0.mk (blk_drew BK272.out)
        have n4_ := Aside0.mk (below_drew1 HB.out)
        clear HO277
        clear BK263
        clear BK271
        clear BK272
        clear HB
        have HO277 := n0_
        have BK263 := n1_
        have BK271 := n2_
        have BK272 := n3_
        have HB := n4_
        clear n0_ n1_ n2_ n3_ n4_
        refine start_ (n := 26) (S := fun w' => w'.cell? ⟨gb263, 0, none⟩ = some (.int .i64 a0_0) ∧ w'.cell? ⟨gb263, 1, none⟩ = some (.int .i64 a0_1) ∧ w'.cell? ⟨gb263, 2, none⟩ = some (.int .i64 a0_2) ∧ w'.cell? ⟨gb263, 3, none⟩ = some (.int .i64 a0_3) ∧ w'.cell? ⟨gb263, 4, none⟩ = some (.int .i64 a0_4) ∧ w'.cell? ⟨gb263, 5, none⟩ = some (.slice A0_5 l0_5.length c0_5) ∧ w'.cell? ⟨gb263, 6, none⟩ = some (.slice A0_6 l0_6.length c0_6) ∧ w'.cell? ⟨gb263, 7, none⟩ = some (.slice A0_7 l0_7.length c0_7) ∧ w'.cell? ⟨gb272, 0, none⟩ = some (.int .i64 t268) ∧ w'.cell? ⟨gb272, 1, none⟩ = some (.int .i64 t269) ∧ w'.cell? ⟨gb272, 2, none⟩ = some (.int .i64 t270)) (ds := []) #[false, false, false, false, false, false, false, false, false, false, false, false, false, false, false, false, false, false, false, false, false, false, false, false, false, false] kx rfl rfl ⟨(blk_cell BK263.out 0).trans rfl, (blk_cell BK263.out 1).trans rfl, (blk_cell BK263.out 2).trans rfl, (blk_cell BK263.out 3).trans rfl, (blk_cell BK263.out 4).trans rfl, (blk_cell BK263.out 5).trans rfl, (blk_cell BK263.out 6).trans rfl, (blk_cell BK263.out 7).trans rfl, (blk_cell BK272.out 0).trans rfl, (blk_cell BK272.out 1).trans rfl, (blk_cell BK272.out 2).trans rfl⟩ (fun hHeld => ?_); refine with_tabW ephemerisref1_RecurFits.tab7 ephemerisref1_RecurFits.bits7 (fun HT_ HW_ => ?_)
        generalize wq_.drew = w39 at HO277 BK263 BK271 BK272 HB hHeld ⊢
        refine pure_ (i := 0) (N := some 62) (v := ?_) (a' := ?_) #[true, false, false, false, false, false, false, false, false, false, false, false, false, false, false, false, false, false, false, false, false, false, false, false, false, false] rfl rfl (any_of HT_.out kx) (fun _ _ _ h => h) (Or.inl ⟨by rfl, ?_⟩) ?_ ?_
        rotate_left
        ·intro w'
         go_simp
         with_reducible rfl
        rotate_left
        ·simp only [Act.put, List.setIfInBounds_toArray, List.set_cons_zero, List.set_cons_succ, i64_w, i32_w]
         rfl
        refine take_ (i := 1) (N := some 63) (v := ?_) (a' := ?_) #[true, true, false, false, false, false, false, false, false, false, false, false, false, false, false, false, false, false, false, false, false, false, false, false, false, false] rfl rfl (take_ofW HT_.out HW_.out kx) (fun _ _ _ h => h) (Or.inl ⟨by rfl, ?_⟩) hHeld ?_ ?_
        rotate_left
        ·rintro w' ⟨s0, s1, s2, s3, s4, s5, s6, s7, s8, s9, s10⟩
         go_simp
         with_reducible rfl
        rotate_left
        ·simp only [Act.put, List.setIfInBounds_toArray, List.set_cons_zero, List.set_cons_succ, i64_w, i32_w]
         rfl
        refine pure_ (i := 2) (N := some 64) (v := ?_) (a' := ?_) #[true, true, true, false, false, false, false, false, false, false, false, false, false, false, false, false, false, false, false, false, false, false, false, false, false, false] rfl rfl (any_of HT_.out kx) (fun _ _ _ h => h) (Or.inl ⟨by rfl, ?_⟩) ?_ ?_
        rotate_left
        ·intro w'
         go_simp
         with_reducible rfl
        rotate_left
        ·simp only [Act.put, List.setIfInBounds_toArray, List.set_cons_zero, List.set_cons_succ, i64_w, i32_w]
         rfl
        refine pure_ (i := 3) (N := some 65) (v := ?_) (a' := ?_) #[true, true, true, true, false, false, false, false, false, false, false, false, false, false, false, false, false, false, false, false, false, false, false, false, false, false] rfl rfl (any_of HT_.out kx) (fun _ _ _ h => h) (Or.inl ⟨by rfl, ?_⟩) ?_ ?_
        rotate_left
        ·intro w'
         go_simp
         with_reducible rfl
        rotate_left
        ·simp only [Act.put, List.setIfInBounds_toArray, List.set_cons_zero, List.set_cons_succ, i64_w, i32_w]
         rfl
        refine pure_ (i := 4) (N := some 66) (v := ?_) (a' := ?_) #[true, true, true, true, true, false, false, false, false, false, false, false, false, false, false, false, false, false, false, false, false, false, false, false, false, false] rfl rfl (any_of HT_.out kx) (fun _ _ _ h => h) (Or.inl ⟨by rfl, ?_⟩) ?_ ?_
        rotate_left
        ·intro w'
         go_simp
         with_reducible rfl
        rotate_left
        ·simp only [Act.put, List.setIfInBounds_toArray, List.set_cons_zero, List.set_cons_succ, i64_w, i32_w]
         rfl
        refine pure_ (i := 5) (N := some 67) (v := ?_) (a' := ?_) #[true, true, true, true, true, true, false, false, false, false, false, false, false, false, false, false, false, false, false, false, false, false, false, false, false, false] rfl rfl (any_of HT_.out kx) (fun _ _ _ h => h) (Or.inl ⟨by rfl, ?_⟩) ?_ ?_
        rotate_left
        ·intro w'
         go_simp
         with_reducible rfl
        rotate_left
        ·simp only [Act.put, List.setIfInBounds_toArray, List.set_cons_zero, List.set_cons_succ, i64_w, i32_w]
         rfl
        refine pure_ (i := 7) (N := some 69) (v := ?_) (a' := ?_) #[true, true, true, true, true, true, false, true, false, false, false, false, false, false, false, false, false, false, false, false, false, false, false, false, false, false] rfl rfl (any_of HT_.out kx) (fun _ _ _ h => h) (Or.inl ⟨by rfl, ?_⟩) ?_ ?_
        rotate_left
        ·intro w'
         go_simp
         with_reducible rfl
        rotate_left
        ·simp only [Act.put, List.setIfInBounds_toArray, List.set_cons_zero, List.set_cons_succ, i64_w, i32_w]
         rfl
        refine take_ (i := 6) (N := some 68) (v := ?_) (a' := ?_) #[true, true, true, true, true, true, true, true, false, false, false, false, false, false, false, false, false, false, false, false, false, false, false, false, false, false] rfl rfl (take_ofW HT_.out HW_.out kx) (fun _ _ _ h => h) (Or.inl ⟨by rfl, ?_⟩) hHeld ?_ ?_
        rotate_left
        ·rintro w' ⟨s0, s1, s2, s3, s4, s5, s6, s7, s8, s9, s10⟩
         go_simp
         with_reducible rfl
        rotate_left
        ·simp only [Act.put, List.setIfInBounds_toArray, List.set_cons_zero, List.set_cons_succ, i64_w, i32_w]
         rfl
        refine take_ (i := 8) (N := some 70) (v := ?_) (a' := ?_) #[true, true, true, true, true, true, true, true, true, false, false, false, false, false, false, false, false, false, false, false, false, false, false, false, false, false] rfl rfl (take_ofW HT_.out HW_.out kx) (fun _ _ _ h => h) (Or.inl ⟨by rfl, ?_⟩) hHeld ?_ ?_
        rotate_left
        ·rintro w' ⟨s0, s1, s2, s3, s4, s5, s6, s7, s8, s9, s10⟩
         go_simp
         with_reducible rfl
        rotate_left
        ·simp only [Act.put, List.setIfInBounds_toArray, List.set_cons_zero, List.set_cons_succ, i64_w, i32_w]
         rfl
        refine one_ (i := 9) (N := some 71) #[true, true, true, true, true, true, true, true, true, true, false, false, false, false, false, false, false, false, false, false, false, false, false, false, false, false] rfl rfl (one_of HT_.out kx) (by decide) (fun K hK => ?_)
        refine goes_ Try.func100 kx rfl #[.slice A0_7 l0_7.length c0_7, .int .i64 t269] (by rfl) rfl rfl aa ?_
        with_reducible refine (ephemerisref1_has.calls k _ _ l0_7 t269 false _ ?side1 ?side2 A32.out).mono ?_
        (case side1 => exact kc (Kd.C_below HR0_7.out HB.out))
        (case side2 => exact HC0_7.out)
        rintro e w' ⟨rfl, ⟨nd, rfl⟩⟩
        refine ⟨_, rfl, ?_⟩
        refine hK.out _ _ ⟨(blk_cell BK263.out 0).trans rfl, (blk_cell BK263.out 1).trans rfl, (blk_cell BK263.out 2).trans rfl, (blk_cell BK263.out 3).trans rfl, (blk_cell BK263.out 4).trans rfl, (blk_cell BK263.out 5).trans rfl, (blk_cell BK263.out 6).trans rfl, (blk_cell BK263.out 7).trans rfl, (blk_cell BK272.out 0).trans rfl, (blk_cell BK272.out 1).trans rfl, (blk_cell BK272.out 2).trans rfl⟩ (fun hHeld => ?_)
        clear hK K
        refine norm_ (a' := ?_) ?_ ?_
        rotate_left
        ·show Act.put _ (some 71) _ = _
         simp only [Act.put, List.setIfInBounds_toArray, List.set_cons_zero, List.set_cons_succ, i64_w, i32_w]
         rfl
        refine pure_ (i := 10) (N := some 72) (v := ?_) (a' := ?_) #[true, true, true, true, true, true, true, true, true, true, true, false, false, false, false, false, false, false, false, false, false, false, false, false, false, false] rfl rfl (any_of HT_.out kx) (fun _ _ _ h => h) (Or.inl ⟨by rfl, ?_⟩) ?_ ?_
        rotate_left
        ·intro w'
         go_simp
         with_reducible rfl
        rotate_left
        ·simp only [Act.put, List.setIfInBounds_toArray, List.set_cons_zero, List.set_cons_succ, i64_w, i32_w]
         rfl
        refine pure_ (i := 11) (N := some 73) (v := ?_) (a' := ?_) #[true, true, true, true, true, true, true, true, true, true, true, true, false, false, false, false, false, false, false, false, false, false, false, false, false, false] rfl rfl (any_of HT_.out kx) (fun _ _ _ h => h) (Or.inl ⟨by rfl, ?_⟩) ?_ ?_
        rotate_left
        ·intro w'
         go_simp
         with_reducible rfl
        rotate_left
        ·simp only [Act.put, List.setIfInBounds_toArray, List.set_cons_zero, List.set_cons_succ, i64_w, i32_w]
         rfl
        refine pure_ (i := 12) (N := some 74) (v := ?_) (a' := ?_) #[true, true, true, true, true, true, true, true, true, true, true, true, true, false, false, false, false, false, false, false, false, false, false, false, false, false] rfl rfl (any_of HT_.out kx) (fun _ _ _ h => h) (Or.inl ⟨by rfl, ?_⟩) ?_ ?_
        rotate_left
        ·intro w'
         go_simp
         with_reducible rfl
        rotate_left
        ·simp only [Act.put, List.setIfInBounds_toArray, List.set_cons_zero, List.set_cons_succ, i64_w, i32_w]
         rfl
        refine pure_ (i := 13) (N := some 75) (v := undef) (a' := ?_) #[true, true, true, true, true, true, true, true, true, true, true, true, true, true, false, false, false, false, false, false, false, false, false, false, false, false] rfl rfl (any_of HT_.out kx) (fun _ _ _ h => h) (Or.inr ⟨by rfl, rfl⟩) ?_ ?_
        rotate_left
        ·simp only [Act.put, List.setIfInBounds_toArray, List.set_cons_zero, List.set_cons_succ, i64_w, i32_w]
         rfl
        refine pure_ (i := 14) (N := some 76) (v := undef) (a' := ?_) #[true, true, true, true, true, true, true, true, true, true, true, true, true, true, true, false, false, false, false, false, false, false, false, false, false, false] rfl rfl (any_of HT_.out kx) (fun _ _ _ h => h) (Or.inr ⟨by rfl, rfl⟩) ?_ ?_
        rotate_left
        ·simp only [Act.put, List.setIfInBounds_toArray, List.set_cons_zero, List.set_cons_succ, i64_w, i32_w]
         rfl
        refine pure_ (i := 15) (N := some 77) (v := undef) (a' := ?_) #[true, true, true, true, true, true, true, true, true, true, true, true, true, true, true, true, false, false, false, false, false, false, false, false, false, false] rfl rfl (any_of HT_.out kx) (fun _ _ _ h => h) (Or.inr ⟨by rfl, rfl⟩) ?_ ?_
        rotate_left
        ·simp only [Act.put, List.setIfInBounds_toArray, List.set_cons_zero, List.set_cons_succ, i64_w, i32_w]
         rfl
        refine pure_ (i := 16) (N := some 78) (v := undef) (a' := ?_) #[true, true, true, true, true, true, true, true, true, true, true, true, true, true, true, true, true, false, false, false, false, false, false, false, false, false] rfl rfl (any_of HT_.out kx) (fun _ _ _ h => h) (Or.inr ⟨by rfl, rfl⟩) ?_ ?_
        rotate_left
        ·simp only [Act.put, List.setIfInBounds_toArray, List.set_cons_zero, List.set_cons_succ, i64_w, i32_w]
         rfl
        refine pure_ (i := 17) (N := some 79) (v := undef) (a' := ?_) #[true, true, true, true, true, true, true, true, true, true, true, true, true, true, true, true, true, true, false, false, false, false, false, false, false, false] rfl rfl (any_of HT_.out kx) (fun _ _ _ h => h) (Or.inr ⟨by rfl, rfl⟩) ?_ ?_
        rotate_left
        ·simp only [Act.put, List.setIfInBounds_toArray, List.set_cons_zero, List.set_cons_succ, i64_w, i32_w]
         rfl
        refine pure_ (i := 18) (N := some 80) (v := undef) (a' := ?_) #[true, true, true, true, true, true, true, true, true, true, true, true, true, true, true, true, true, true, true, false, false, false, false, false, false, false] rfl rfl (any_of HT_.out kx) (fun _ _ _ h => h) (Or.inr ⟨by rfl, rfl⟩) ?_ ?_
        rotate_left
        ·simp only [Act.put, List.setIfInBounds_toArray, List.set_cons_zero, List.set_cons_succ, i64_w, i32_w]
         rfl
        refine pure_ (i := 19) (N := some 81) (v := undef) (a' := ?_) #[true, true, true, true, true, true, true, true, true, true, true, true, true, true, true, true, true, true, true, true, false, false, false, false, false, false] rfl rfl (any_of HT_.out kx) (fun _ _ _ h => h) (Or.inr ⟨by rfl, rfl⟩) ?_ ?_
        rotate_left
        ·simp only [Act.put, List.setIfInBounds_toArray, List.set_cons_zero, List.set_cons_succ, i64_w, i32_w]
         rfl
        refine pure_ (i := 20) (N := some 82) (v := undef) (a' := ?_) #[true, true, true, true, true, true, true, true, true, true, true, true, true, true, true, true, true, true, true, true, true, false, false, false, false, false] rfl rfl (any_of HT_.out kx) (fun _ _ _ h => h) (Or.inr ⟨by rfl, rfl⟩) ?_ ?_
        rotate_left
        ·simp only [Act.put, List.setIfInBounds_toArray, List.set_cons_zero, List.set_cons_succ, i64_w, i32_w]
         rfl
        refine pure_ (i := 21) (N := some 83) (v := undef) (a' := ?_) #[true, true, true, true, true, true, true, true, true, true, true, true, true, true, true, true, true, true, true, true, true, true, false, false, false, false] rfl rfl (any_of HT_.out kx) (fun _ _ _ h => h) (Or.inr ⟨by rfl, rfl⟩) ?_ ?_
        rotate_left
        ·simp only [Act.put, List.setIfInBounds_toArray, List.set_cons_zero, List.set_cons_succ, i64_w, i32_w]
         rfl
        refine pure_ (i := 22) (N := some 84) (v := undef) (a' := ?_) #[true, true, true, true, true, true, true, true, true, true, true, true, true, true, true, true, true, true, true, true, true, true, true, false, false, false] rfl rfl (any_of HT_.out kx) (fun _ _ _ h => h) (Or.inr ⟨by rfl, rfl⟩) ?_ ?_
        rotate_left
        ·simp only [Act.put, List.setIfInBounds_toArray, List.set_cons_zero, List.set_cons_succ, i64_w, i32_w]
         rfl
        refine pure_ (i := 23) (N := some 85) (v := undef) (a' := ?_) #[true, true, true, true, true, true, true, true, true, true, true, true, true, true, true, true, true, true, true, true, true, true, true, true, false, false] rfl rfl (any_of HT_.out kx) (fun _ _ _ h => h) (Or.inr ⟨by rfl, rfl⟩) ?_ ?_
        rotate_left
        ·simp only [Act.put, List.setIfInBounds_toArray, List.set_cons_zero, List.set_cons_succ, i64_w, i32_w]
         rfl
        refine pure_ (i := 24) (N := some 86) (v := undef) (a' := ?_) #[true, true, true, true, true, true, true, true, true, true, true, true, true, true, true, true, true, true, true, true, true, true, true, true, true, false] rfl rfl (any_of HT_.out kx) (fun _ _ _ h => h) (Or.inr ⟨by rfl, rfl⟩) ?_ ?_
        rotate_left
        ·simp only [Act.put, List.setIfInBounds_toArray, List.set_cons_zero, List.set_cons_succ, i64_w, i32_w]
         rfl
        refine pure_ (i := 25) (N := some 87) (v := ?_) (a' := ?_) #[true, true, true, true, true, true, true, true, true, true, true, true, true, true, true, true, true, true, true, true, true, true, true, true, true, true] rfl rfl (any_of HT_.out kx) (fun _ _ _ h => h) (Or.inl ⟨by rfl, ?_⟩) ?_ ?_
        rotate_left
        ·intro w'
         go_simp
         with_reducible rfl
        rotate_left
        ·simp only [Act.put, List.setIfInBounds_toArray, List.set_cons_zero, List.set_cons_succ, i64_w, i32_w]
         rfl
        refine done_ (done_of HT_.out kx) ?_
        try go_wp2
        go_meet
        case rel => exact ⟨_, (true), rs, H', ⟨by first | omega | exact Nat.le_refl _⟩, ⟨bk BK263⟩, ⟨bk BK271⟩, ⟨bk BK272⟩, ⟨be⟩⟩
      ·rw [if_neg c31] at H
       have c31b0 : decide (0 < (l0_7.length : Int)) = false := decide_eq_false c31
       have c31b1 : decide (0 < l0_7.length) = false := decide_eq_false (by omega)
       clear c31
       (first | rw [c31b0] | (simp only [i64_w, i32_w]; rw [c31b0]) | skip)
       by_cases c40 : (l0_5.length : Int) > 0
       ·rw [if_pos c40] at H
        have c40b0 : decide (0 < (l0_5.length : Int)) = true := decide_eq_true c40
        have c40b1 : decide (0 < l0_5.length) = true := decide_eq_true (by omega)
        clear c40
        replace H := Option.bind_eq_some_iff.mp H
        obtain ⟨t283, A410, H⟩ := H
        replace H : ((ephemerisref1_has.f k l0_5 t283).bind fun t284 => (ephemerisref1_RecurFits.j0 k a1 (!t284) a0_0 a0_1 a0_2 a0_3 a0_4 l0_5 l0_6 l0_7 t265 t266 t267 t268 t269 t270)) = some r := H
        have A41 := Aside0.mk A410
        clear A410
        replace H := Option.bind_eq_some_iff.mp H
        obtain ⟨t284, A420, H⟩ := H
        replace H : (ephemerisref1_RecurFits.j0 k a1 (!t284) a0_0 a0_1 a0_2 a0_3 a0_4 l0_5 l0_6 l0_7 t265 t266 t267 t268 t269 t270) = some r := H
        have A42 := Aside0.mk A420
        clear A420
        have H' := Aside0.mk H
        clear H
        try go_wp2
        generalize hq_ : World.drewN w27 _ = wq_
        obtain ⟨nd_, hnd_⟩ : ∃ n_, World.drewN w27 n_ = wq_ := ⟨_, hq_⟩
        clear hq_
        have t_ := Kd.R_drewN HO277.out nd_
        rw [hnd_] at t_
        have m0_ := Aside0.mk t_
        clear t_
        have t_ := blk_drewN BK263.out nd_
        rw [hnd_] at t_
        have m1_ := Aside0.mk t_
        clear t_
        have t_ := blk_drewN BK271.out nd_
        rw [hnd_] at t_
        have m2_ := Aside0.mk t_
        clear t_
        have t_ := blk_drewN BK272.out nd_
        rw [hnd_] at t_
        have m3_ := Aside0.mk t_
        clear t_
        have t_ := pw_below_drewN (n := nd_) HB.out
        rw [hnd_] at t_
        have mB_ := Aside0.mk t_
        clear t_ hnd_
        clear HO277 BK263 BK271 BK272 HB
        have HO277 := m0_
        have BK263 := m1_
        have BK271 := m2_
        have BK272 := m3_
        have HB := mB_
        clear m0_ m1_ m2_ m3_ mB_
        have n0_ := Aside0.mk (Kd.R_drew HO277.out)
        have n1_ := Aside0.mk (blk_drew BK263.out)
        have n2_ := Aside0.mk (blk_drew BK271.out)
        have n3_ := Aside0.mk (blk_drew BK272.out)
        have n4_ := Aside0.mk (below_drew1 HB.out)
        clear HO277
        clear BK263
        clear BK271
        clear BK272
        clear HB
        have HO277 := n0_
        have BK263 := n1_
        have BK271 := n2_
        have BK272 := n3_
        have HB := n4_
        clear n0_ n1_ n2_ n3_ n4_
        refine start_ (n := 26) (S := fun w' => w'.cell? ⟨gb263, 0, none⟩ = some (.int .i64 a0_0) ∧ w'.cell? ⟨gb263, 1, none⟩ = some (.int .i64 a0_1) ∧ w'.cell? ⟨gb263, 2, none⟩ = some (.int .i64 a0_2) ∧ w'.cell? ⟨gb263, 3, none⟩ = some (.int .i64 a0_3) ∧ w'.cell? ⟨gb263, 4, none⟩ = some (.int .i64 a0_4) ∧ w'.cell? ⟨gb263, 5, none⟩ = some (.slice A0_5 l0_5.length c0_5) ∧ w'.cell? ⟨gb263, 6, none⟩ = some (.slice A0_6 l0_6.length c0_6) ∧ w'.cell? ⟨gb263, 7, none⟩ = some (.slice A0_7 l0_7.length c0_7)) (ds := []) #[false, false, false, false, false, false, false, false, false, false, false, false, false, false, false, false, false, false, false, false, false, false, false, false, false, false] kx rfl rfl ⟨(blk_cell BK263.out 0).trans rfl, (blk_cell BK263.out 1).trans rfl, (blk_cell BK263.out 2).trans rfl, (blk_cell BK263.out 3).trans rfl, (blk_cell BK263.out 4).trans rfl, (blk_cell BK263.out 5).trans rfl, (blk_cell BK263.out 6).trans rfl, (blk_cell BK263.out 7).trans rfl⟩ (fun hHeld => ?_); refine with_tabW ephemerisref1_RecurFits.tab7 ephemerisref1_RecurFits.bits7 (fun HT_ HW_ => ?_)
        generalize wq_.drew = w43 at HO277 BK263 BK271 BK272 HB hHeld ⊢
        refine pure_ (i := 0) (N := some 62) (v := ?_) (a' := ?_) #[true, false, false, false, false, false, false, false, false, false, false, false, false, false, false, false, false, false, false, false, false, false, false, false, false, false] rfl rfl (any_of HT_.out kx) (fun _ _ _ h => h) (Or.inl ⟨by rfl, ?_⟩) ?_ ?_
        rotate_left
        ·intro w'
         go_simp
         with_reducible rfl
        rotate_left
        ·simp only [Act.put, List.setIfInBounds_toArray, List.set_cons_zero, List.set_cons_succ, i64_w, i32_w]
         rfl
        refine take_ (i := 1) (N := some 63) (v := ?_) (a' := ?_) #[true, true, false, false, false, false, false, false, false, false, false, false, false, false, false, false, false, false, false, false, false, false, false, false, false, false] rfl rfl (take_ofW HT_.out HW_.out kx) (fun _ _ _ h => h) (Or.inl ⟨by rfl, ?_⟩) hHeld ?_ ?_
        rotate_left
        ·rintro w' ⟨s0, s1, s2, s3, s4, s5, s6, s7⟩
         go_simp
         with_reducible rfl
        rotate_left
        ·simp only [Act.put, List.setIfInBounds_toArray, List.set_cons_zero, List.set_cons_succ, i64_w, i32_w]
         rfl
        refine pure_ (i := 2) (N := some 64) (v := ?_) (a' := ?_) #[true, true, true, false, false, false, false, false, false, false, false, false, false, false, false, false, false, false, false, false, false, false, false, false, false, false] rfl rfl (any_of HT_.out kx) (fun _ _ _ h => h) (Or.inl ⟨by rfl, ?_⟩) ?_ ?_
        rotate_left
        ·intro w'
         go_simp
         with_reducible rfl
        rotate_left
        ·simp only [Act.put, List.setIfInBounds_toArray, List.set_cons_zero, List.set_cons_succ, i64_w, i32_w]
         rfl
        refine pure_ (i := 3) (N := some 65) (v := ?_) (a' := ?_) #[true, true, true, true, false, false, false, false, false, false, false, false, false, false, false, false, false, false, false, false, false, false, false, false, false, false] rfl rfl (any_of HT_.out kx) (fun _ _ _ h => h) (Or.inl ⟨by rfl, ?_⟩) ?_ ?_
        rotate_left
        ·intro w'
         go_simp
         with_reducible rfl
        rotate_left
        ·simp only [Act.put, List.setIfInBounds_toArray, List.set_cons_zero, List.set_cons_succ, i64_w, i32_w]
         rfl
        refine pure_ (i := 4) (N := some 66) (v := ?_) (a' := ?_) #[true, true, true, true, true, false, false, false, false, false, false, false, false, false, false, false, false, false, false, false, false, false, false, false, false, false] rfl rfl (any_of HT_.out kx) (fun _ _ _ h => h) (Or.inl ⟨by rfl, ?_⟩) ?_ ?_
        rotate_left
        ·intro w'
         go_simp
         with_reducible rfl
        rotate_left
        ·simp only [Act.put, List.setIfInBounds_toArray, List.set_cons_zero, List.set_cons_succ, i64_w, i32_w]
         rfl
        refine pure_ (i := 5) (N := some 67) (v := undef) (a' := ?_) #[true, true, true, true, true, true, false, false, false, false, false, false, false, false, false, false, false, false, false, false, false, false, false, false, false, false] rfl rfl (any_of HT_.out kx) (fun _ _ _ h => h) (Or.inr ⟨by rfl, rfl⟩) ?_ ?_
        rotate_left
        ·simp only [Act.put, List.setIfInBounds_toArray, List.set_cons_zero, List.set_cons_succ, i64_w, i32_w]
         rfl
        refine pure_ (i := 6) (N := some 68) (v := undef) (a' := ?_) #[true, true, true, true, true, true, true, false, false, false, false, false, false, false, false, false, false, false, false, false, false, false, false, false, false, false] rfl rfl (any_of HT_.out kx) (fun _ _ _ h => h) (Or.inr ⟨by rfl, rfl⟩) ?_ ?_
        rotate_left
        ·simp only [Act.put, List.setIfInBounds_toArray, List.set_cons_zero, List.set_cons_succ, i64_w, i32_w]
         rfl
        refine pure_ (i := 7) (N := some 69) (v := undef) (a' := ?_) #[true, true, true, true, true, true, true, true, false, false, false, false, false, false, false, false, false, false, false, false, false, false, false, false, false, false] rfl rfl (any_of HT_.out kx) (fun _ _ _ h => h) (Or.inr ⟨by rfl, rfl⟩) ?_ ?_
        rotate_left
        ·simp only [Act.put, List.setIfInBounds_toArray, List.set_cons_zero, List.set_cons_succ, i64_w, i32_w]
         rfl
        refine pure_ (i := 8) (N := some 70) (v := undef) (a' := ?_) #[true, true, true, true, true, true, true, true, true, false, false, false, false, false, false, false, false, false, false, false, false, false, false, false, false, false] rfl rfl (any_of HT_.out kx) (fun _ _ _ h => h) (Or.inr ⟨by rfl, rfl⟩) ?_ ?_
        rotate_left
        ·simp only [Act.put, List.setIfInBounds_toArray, List.set_cons_zero, List.set_cons_succ, i64_w, i32_w]
         rfl
        refine pure_ (i := 9) (N := some 71) (v := undef) (a' := ?_) #[true, true, true, true, true, true, true, true, true, true, false, false, false, false, false, false, false, false, false, false, false, false, false, false, false, false] rfl rfl (any_of HT_.out kx) (fun _ _ _ h => h) (Or.inr ⟨by rfl, rfl⟩) ?_ ?_
        rotate_left
        ·simp only [Act.put, List.setIfInBounds_toArray, List.set_cons_zero, List.set_cons_succ, i64_w, i32_w]
         rfl
        refine pure_ (i := 10) (N := some 72) (v := undef) (a' := ?_) #[true, true, true, true, true, true, true, true, true, true, true, false, false, false, false, false, false, false, false, false, false, false, false, false, false, false] rfl rfl (any_of HT_.out kx) (fun _ _ _ h => h) (Or.inr ⟨by rfl, rfl⟩) ?_ ?_
        rotate_left
        ·simp only [Act.put, List.setIfInBounds_toArray, List.set_cons_zero, List.set_cons_succ, i64_w, i32_w]
         rfl
        refine pure_ (i := 11) (N := some 73) (v := ?_) (a' := ?_) #[true, true, true, true, true, true, true, true, true, true, true, true, false, false, false, false, false, false, false, false, false, false, false, false, false, false] rfl rfl (any_of HT_.out kx) (fun _ _ _ h => h) (Or.inl ⟨by rfl, ?_⟩) ?_ ?_
        rotate_left
        ·intro w'
         go_simp
         with_reducible rfl
        rotate_left
        ·simp only [Act.put, List.setIfInBounds_toArray, List.set_cons_zero, List.set_cons_succ, i64_w, i32_w]
         rfl
        refine pure_ (i := 12) (N := some 74) (v := ?_) (a' := ?_) #[true, true, true, true, true, true, true, true, true, true, true, true, true, false, false, false, false, false, false, false, false, false, false, false, false, false] rfl rfl (any_of HT_.out kx) (fun _ _ _ h => h) (Or.inl ⟨by rfl, ?_⟩) ?_ ?_
        rotate_left
        ·intro w'
         go_simp
         with_reducible rfl
        rotate_left
        ·simp only [Act.put, List.setIfInBounds_toArray, List.set_cons_zero, List.set_cons_succ, i64_w, i32_w]
         rfl
        refine pure_ (i := 13) (N := some 75) (v := ?_) (a' := ?_) #[true, true, true, true, true, true, true, true, true, true, true, true, true, true, false, false, false, false, false, false, false, false, false, false, false, false] rfl rfl (any_of HT_.out kx) (fun _ _ _ h => h) (Or.inl ⟨by rfl, ?_⟩) ?_ ?_
        rotate_left
        ·intro w'
         go_simp
         with_reducible rfl
        rotate_left
        ·simp only [Act.put, List.setIfInBounds_toArray, List.set_cons_zero, List.set_cons_succ, i64_w, i32_w]
         rfl
        refine take_ (i := 14) (N := some 76) (v := ?_) (a' := ?_) #[true, true, true, true, true, true, true, true, true, true, true, true, true, true, true, false, false, false, false, false, false, false, false, false, false, false] rfl rfl (take_ofW HT_.out HW_.out kx) (fun _ _ _ h => h) (Or.inl ⟨by rfl, ?_⟩) hHeld ?_ ?_
        rotate_left
        ·rintro w' ⟨s0, s1, s2, s3, s4, s5, s6, s7⟩
         go_simp
         with_reducible rfl
        rotate_left
        ·simp only [Act.put, List.setIfInBounds_toArray, List.set_cons_zero, List.set_cons_succ, i64_w, i32_w]
         rfl
        refine pure_ (i := 15) (N := some 77) (v := ?_) (a' := ?_) #[true, true, true, true, true, true, true, true, true, true, true, true, true, true, true, true, false, false, false, false, false, false, false, false, false, false] rfl rfl (any_of HT_.out kx) (fun _ _ _ h => h) (Or.inl ⟨by rfl, ?_⟩) ?_ ?_
        rotate_left
        ·intro w'
         go_simp
         with_reducible rfl
        rotate_left
        ·simp only [Act.put, List.setIfInBounds_toArray, List.set_cons_zero, List.set_cons_succ, i64_w, i32_w]
         rfl
        refine pure_ (i := 16) (N := some 78) (v := ?_) (a' := ?_) #[true, true, true, true, true, true, true, true, true, true, true, true, true, true, true, true, true, false, false, false, false, false, false, false, false, false] rfl rfl (any_of HT_.out kx) (fun _ _ _ h => h) (Or.inl ⟨by rfl, ?_⟩) ?_ ?_
        rotate_left
        ·intro w'
         go_simp
         with_reducible rfl
        rotate_left
        ·simp only [Act.put, List.setIfInBounds_toArray, List.set_cons_zero, List.set_cons_succ, i64_w, i32_w]
         rfl
        refine pure_ (i := 17) (N := some 79) (v := ?_) (a' := ?_) #[true, true, true, true, true, true, true, true, true, true, true, true, true, true, true, true, true, true, false, false, false, false, false, false, false, false] rfl rfl (any_of HT_.out kx) (fun _ _ _ h => h) (Or.inl ⟨by rfl, ?_⟩) ?_ ?_
        rotate_left
        ·intro w'
         go_simp
         with_reducible rfl
        rotate_left
        ·simp only [Act.put, List.setIfInBounds_toArray, List.set_cons_zero, List.set_cons_succ, i64_w, i32_w]
         rfl
        refine pure_ (i := 18) (N := some 80) (v := ?_) (a' := ?_) #[true, true, true, true, true, true, true, true, true, true, true, true, true, true, true, true, true, true, true, false, false, false, false, false, false, false] rfl rfl (any_of HT_.out kx) (fun _ _ _ h => h) (Or.inl ⟨by rfl, ?_⟩) ?_ ?_
        rotate_left
        ·intro w'
         go_simp
         with_reducible rfl
        rotate_left
        ·simp only [Act.put, List.setIfInBounds_toArray, List.set_cons_zero, List.set_cons_succ, i64_w, i32_w]
         rfl
        refine pure_ (i := 20) (N := some 82) (v := ?_) (a' := ?_) #[true, true, true, true, true, true, true, true, true, true, true, true, true, true, true, true, true, true, true, false, true, false, false, false, false, false] rfl rfl (any_of HT_.out kx) (fun _ _ _ h => h) (Or.inl ⟨by rfl, ?_⟩) ?_ ?_
        rotate_left
        ·intro w'
         go_simp
         with_reducible rfl
        rotate_left
        ·simp only [Act.put, List.setIfInBounds_toArray, List.set_cons_zero, List.set_cons_succ, i64_w, i32_w]
         rfl
        refine take_ (i := 19) (N := some 81) (v := ?_) (a' := ?_) #[true, true, true, true, true, true, true, true, true, true, true, true, true, true, true, true, true, true, true, true, true, false, false, false, false, false] rfl rfl (take_ofW HT_.out HW_.out kx) (fun _ _ _ h => h) (Or.inl ⟨by rfl, ?_⟩) hHeld ?_ ?_
        rotate_left
        ·rintro w' ⟨s0, s1, s2, s3, s4, s5, s6, s7⟩
         go_simp
         with_reducible rfl
        rotate_left
        ·simp only [Act.put, List.setIfInBounds_toArray, List.set_cons_zero, List.set_cons_succ, i64_w, i32_w]
         rfl
        refine one_ (i := 21) (N := some 83) #[true, true, true, true, true, true, true, true, true, true, true, true, true, true, true, true, true, true, true, true, true, true, false, false, false, false] rfl rfl (one_of HT_.out kx) (by decide) (fun K hK => ?_)
        refine goes_ Try.func79 kx rfl #[.int .i64 a1] (by rfl) rfl rfl aa ?_
        with_reducible refine (ephemerisref1_Week.calls k a1 t283 _ A41.out).mono ?_
        rintro e w' ⟨rfl, ⟨nd, rfl⟩⟩
        refine ⟨_, rfl, ?_⟩
        refine hK.out _ _ ⟨(blk_cell BK263.out 0).trans rfl, (blk_cell BK263.out 1).trans rfl, (blk_cell BK263.out 2).trans rfl, (blk_cell BK263.out 3).trans rfl, (blk_cell BK263.out 4).trans rfl, (blk_cell BK263.out 5).trans rfl, (blk_cell BK263.out 6).trans rfl, (blk_cell BK263.out 7).trans rfl⟩ (fun hHeld => ?_)
        clear hK K
        refine norm_ (a' := ?_) ?_ ?_
        rotate_left
        ·show Act.put _ (some 83) _ = _
         simp only [Act.put, List.setIfInBounds_toArray, List.set_cons_zero, List.set_cons_succ, i64_w, i32_w]
         rfl
        refine one_ (i := 22) (N := some 84) #[true, true, true, true, true, true, true, true, true, true, true, true, true, true, true, true, true, true, true, true, true, true, true, false, false, false] rfl rfl (one_of HT_.out kx) (by decide) (fun K hK => ?_)
        refine goes_ Try.func100 kx rfl #[.slice A0_5 l0_5.length c0_5, .int .i64 t283] (by rfl) rfl rfl aa ?_
        with_reducible refine (ephemerisref1_has.calls k _ _ l0_5 t283 t284 _ ?side1 ?side2 A42.out).mono ?_
        (case side1 => repeat (first | exact (Kd.C_below HR0_5.out be) | (with_reducible refine Kd.C_alloc ?_ _) | (with_reducible refine Kd.C_drewN ?_ _) | (with_reducible refine Kd.C_drew ?_)))
        (case side2 => exact HC0_5.out)
        rintro e w' ⟨rfl, ⟨nd, rfl⟩⟩
        refine ⟨_, rfl, ?_⟩
        refine hK.out _ _ ⟨(blk_cell BK263.out 0).trans rfl, (blk_cell BK263.out 1).trans rfl, (blk_cell BK263.out 2).trans rfl, (blk_cell BK263.out 3).trans rfl, (blk_cell BK263.out 4).trans rfl, (blk_cell BK263.out 5).trans rfl, (blk_cell BK263.out 6).trans rfl, (blk_cell BK263.out 7).trans rfl⟩ (fun hHeld => ?_)
        clear hK K
        refine norm_ (a' := ?_) ?_ ?_
        rotate_left
        ·show Act.put _ (some 84) _ = _
         simp only [Act.put, List.setIfInBounds_toArray, List.set_cons_zero, List.set_cons_succ, i64_w, i32_w]
         rfl
        refine pure_ (i := 23) (N := some 85) (v := ?_) (a' := ?_) #[true, true, true, true, true, true, true, true, true, true, true, true, true, true, true, true, true, true, true, true, true, true, true, true, false, false] rfl rfl (any_of HT_.out kx) (fun _ _ _ h => h) (Or.inl ⟨by rfl, ?_⟩) ?_ ?_
        rotate_left
        ·intro w'
         go_simp
         with_reducible rfl
        rotate_left
        ·simp only [Act.put, List.setIfInBounds_toArray, List.set_cons_zero, List.set_cons_succ, i64_w, i32_w]
         rfl
        refine pure_ (i := 24) (N := some 86) (v := ?_) (a' := ?_) #[true, true, true, true, true, true, true, true, true, true, true, true, true, true, true, true, true, true, true, true, true, true, true, true, true, false] rfl rfl (any_of HT_.out kx) (fun _ _ _ h => h) (Or.inl ⟨by rfl, ?_⟩) ?_ ?_
        rotate_left
        ·intro w'
         go_simp
         with_reducible rfl
        rotate_left
        ·simp only [Act.put, List.setIfInBounds_toArray, List.set_cons_zero, List.set_cons_succ, i64_w, i32_w]
         rfl
        refine pure_ (i := 25) (N := some 87) (v := ?_) (a' := ?_) #[true, true, true, true, true, true, true, true, true, true, true, true, true, true, true, true, true, true, true, true, true, true, true, true, true, true] rfl rfl (any_of HT_.out kx) (fun _ _ _ h => h) (Or.inl ⟨by rfl, ?_⟩) ?_ ?_
        rotate_left
        ·intro w'
         go_simp
         with_reducible rfl
        rotate_left
        ·simp only [Act.put, List.setIfInBounds_toArray, List.set_cons_zero, List.set_cons_succ, i64_w, i32_w]
         rfl
        refine done_ (done_of HT_.out kx) ?_
        try go_wp2
        go_meet
        case rel => exact ⟨_, (!t284), rs, H', ⟨by first | omega | exact Nat.le_refl _⟩, ⟨bk BK263⟩, ⟨bk BK271⟩, ⟨bk BK272⟩, ⟨be⟩⟩
       ·rw [if_neg c40] at H
        have c40b0 : decide (0 < (l0_5.length : Int)) = false := decide_eq_false c40
        have c40b1 : decide (0 < l0_5.length) = false := decide_eq_false (by omega)
        clear c40
        have H' := Aside0.mk H
        clear H
        try go_wp2
        generalize hq_ : World.drewN w27 _ = wq_
        obtain ⟨nd_, hnd_⟩ : ∃ n_, World.drewN w27 n_ = wq_ := ⟨_, hq_⟩
        clear hq_
        have t_ := Kd.R_drewN HO277.out nd_
        rw [hnd_] at t_
        have m0_ := Aside0.mk t_
        clear t_
        have t_ := blk_drewN BK263.out nd_
        rw [hnd_] at t_
        have m1_ := Aside0.mk t_
        clear t_
        have t_ := blk_drewN BK271.out nd_
        rw [hnd_] at t_
        have m2_ := Aside0.mk t_
        clear t_
        have t_ := blk_drewN BK272.out nd_
        rw [hnd_] at t_
        have m3_ := Aside0.mk t_
        clear t_
        have t_ := pw_below_drewN (n := nd_) HB.out
        rw [hnd_] at t_
        have mB_ := Aside0.mk t_
        clear t_ hnd_
        clear HO277 BK263 BK271 BK272 HB
        have HO277 := m0_
        have BK263 := m1_
        have BK271 := m2_
        have BK272 := m3_
        have HB := mB_
        clear m0_ m1_ m2_ m3_ mB_
        have n0_ := Aside0.mk (Kd.R_drew HO277.out)
        have n1_ := Aside0.mk (blk_drew BK263.out)
        have n2_ := Aside0.mk (blk_drew BK271.out)
        have n3_ := Aside0.mk (blk_drew BK272.out)
        have n4_ := Aside0.mk (below_drew1 HB.out)
        clear HO277
        clear BK263
        clear BK271
        clear BK272
        clear HB
        have HO277 := n0_
        have BK263 := n1_
        have BK271 := n2_
        have BK272 := n3_
        have HB := n4_
        clear n0_ n1_ n2_ n3_ n4_
        refine start_ (n := 26) (S := fun w' => w'.cell? ⟨gb263, 0, none⟩ = some (.int .i64 a0_0) ∧ w'.cell? ⟨gb263, 1, none⟩ = some (.int .i64 a0_1) ∧ w'.cell? ⟨gb263, 2, none⟩ = some (.int .i64 a0_2) ∧ w'.cell? ⟨gb263, 3, none⟩ = some (.int .i64 a0_3) ∧ w'.cell? ⟨gb263, 4, none⟩ = some (.int .i64 a0_4) ∧ w'.cell? ⟨gb263, 5, none⟩ = some (.slice A0_5 l0_5.length c0_5) ∧ w'.cell? ⟨gb263, 6, none⟩ = some (.slice A0_6 l0_6.length c0_6) ∧ w'.cell? ⟨gb263, 7, none⟩ = some (.slice A0_7 l0_7.length c0_7)) (ds := []) #[false, false, false, false, false, false, false, false, false, false, false, false, false, false, false, false, false, false, false, false, false, false, false, false, false, false] kx rfl rfl ⟨(blk_cell BK263.out 0).trans rfl, (blk_cell BK263.out 1).trans rfl, (blk_cell BK263.out 2).trans rfl, (blk_cell BK263.out 3).trans rfl, (blk_cell BK263.out 4).trans rfl, (blk_cell BK263.out 5).trans rfl, (blk_cell BK263.out 6).trans rfl, (blk_cell BK263.out 7).trans rfl⟩ (fun hHeld => ?_); refine with_tabW ephemerisref1_RecurFits.tab7 ephemerisref1_RecurFits.bits7 (fun HT_ HW_ => ?_)
        generalize wq_.drew = w44 at HO277 BK263 BK271 BK272 HB hHeld ⊢
        refine pure_ (i := 0) (N := some 62) (v := ?_) (a' := ?_) #[true, false, false, false, false, false, false, false, false, false, false, false, false, false, false, false, false, false, false, false, false, false, false, false, false, false] rfl rfl (any_of HT_.out kx) (fun _ _ _ h => h) (Or.inl ⟨by rfl, ?_⟩) ?_ ?_
        rotate_left
        ·intro w'
         go_simp
         with_reducible rfl
        rotate_left
        ·simp only [Act.put, List.setIfInBounds_toArray, List.set_cons_zero, List.set_cons_succ, i64_w, i32_w]
         rfl
        refine take_ (i := 1) (N := some 63) (v := ?_) (a' := ?_) #[true, true, false, false, false, false, false, false, false, false, false, false, false, false, false, false, false, false, false, false, false, false, false, false, false, false] rfl rfl (take_ofW HT_.out HW_.out kx) (fun _ _ _ h => h) (Or.inl ⟨by rfl, ?_⟩) hHeld ?_ ?_
        rotate_left
        ·rintro w' ⟨s0, s1, s2, s3, s4, s5, s6, s7⟩
         go_simp
         with_reducible rfl
        rotate_left
        ·simp only [Act.put, List.setIfInBounds_toArray, List.set_cons_zero, List.set_cons_succ, i64_w, i32_w]
         rfl
        refine pure_ (i := 2) (N := some 64) (v := ?_) (a' := ?_) #[true, true, true, false, false, false, false, false, false, false, false, false, false, false, false, false, false, false, false, false, false, false, false, false, false, false] rfl rfl (any_of HT_.out kx) (fun _ _ _ h => h) (Or.inl ⟨by rfl, ?_⟩) ?_ ?_
        rotate_left
        ·intro w'
         go_simp
         with_reducible rfl
        rotate_left
        ·simp only [Act.put, List.setIfInBounds_toArray, List.set_cons_zero, List.set_cons_succ, i64_w, i32_w]
         rfl
        refine pure_ (i := 3) (N := some 65) (v := ?_) (a' := ?_) #[true, true, true, true, false, false, false, false, false, false, false, false, false, false, false, false, false, false, false, false, false, false, false, false, false, false] rfl rfl (any_of HT_.out kx) (fun _ _ _ h => h) (Or.inl ⟨by rfl, ?_⟩) ?_ ?_
        rotate_left
        ·intro w'
         go_simp
         with_reducible rfl
        rotate_left
        ·simp only [Act.put, List.setIfInBounds_toArray, List.set_cons_zero, List.set_cons_succ, i64_w, i32_w]
         rfl
        refine pure_ (i := 4) (N := some 66) (v := ?_) (a' := ?_) #[true, true, true, true, true, false, false, false, false, false, false, false, false, false, false, false, false, false, false, false, false, false, false, false, false, false] rfl rfl (any_of HT_.out kx) (fun _ _ _ h => h) (Or.inl ⟨by rfl, ?_⟩) ?_ ?_
        rotate_left
        ·intro w'
         go_simp
         with_reducible rfl
        rotate_left
        ·simp only [Act.put, List.setIfInBounds_toArray, List.set_cons_zero, List.set_cons_succ, i64_w, i32_w]
         rfl
        refine pure_ (i := 5) (N := some 67) (v := undef) (a' := ?_) #[true, true, true, true, true, true, false, false, false, false, false, false, false, false, false, false, false, false, false, false, false, false, false, false, false, false] rfl rfl (any_of HT_.out kx) (fun _ _ _ h => h) (Or.inr ⟨by rfl, rfl⟩) ?_ ?_
        rotate_left
        ·simp only [Act.put, List.setIfInBounds_toArray, List.set_cons_zero, List.set_cons_succ, i64_w, i32_w]
         rfl
        refine pure_ (i := 6) (N := some 68) (v := undef) (a' := ?_) #[true, true, true, true, true, true, true, false, false, false, false, false, false, false, false, false, false, false, false, false, false, false, false, false, false, false] rfl rfl (any_of HT_.out kx) (fun _ _ _ h => h) (Or.inr ⟨by rfl, rfl⟩) ?_ ?_
        rotate_left
        ·simp only [Act.put, List.setIfInBounds_toArray, List.set_cons_zero, List.set_cons_succ, i64_w, i32_w]
         rfl
        refine pure_ (i := 7) (N := some 69) (v := undef) (a' := ?_) #[true, true, true, true, true, true, true, true, false, false, false, false, false, false, false, false, false, false, false, false, false, false, false, false, false, false] rfl rfl (any_of HT_.out kx) (fun _ _ _ h => h) (Or.inr ⟨by rfl, rfl⟩) ?_ ?_
        rotate_left
        ·simp only [Act.put, List.setIfInBounds_toArray, List.set_cons_zero, List.set_cons_succ, i64_w, i32_w]
         rfl
        refine pure_ (i := 8) (N := some 70) (v := undef) (a' := ?_) #[true, true, true, true, true, true, true, true, true, false, false, false, false, false, false, false, false, false, false, false, false, false, false, false, false, false] rfl rfl (any_of HT_.out kx) (fun _ _ _ h => h) (Or.inr ⟨by rfl, rfl⟩) ?_ ?_
        rotate_left
        ·simp only [Act.put, List.setIfInBounds_toArray, List.set_cons_zero, List.set_cons_succ, i64_w, i32_w]
         rfl
        refine pure_ (i := 9) (N := some 71) (v := undef) (a' := ?_) #[true, true, true, true, true, true, true, true, true, true, false, false, false, false, false, false, false, false, false, false, false, false, false, false, false, false] rfl rfl (any_of HT_.out kx) (fun _ _ _ h => h) (Or.inr ⟨by rfl, rfl⟩) ?_ ?_
        rotate_left
        ·simp only [Act.put, List.setIfInBounds_toArray, List.set_cons_zero, List.set_cons_succ, i64_w, i32_w]
         rfl
        refine pure_ (i := 10) (N := some 72) (v := undef) (a' := ?_) #[true, true, true, true, true, true, true, true, true, true, true, false, false, false, false, false, false, false, false, false, false, false, false, false, false, false] rfl rfl (any_of HT_.out kx) (fun _ _ _ h => h) (Or.inr ⟨by rfl, rfl⟩) ?_ ?_
        rotate_left
        ·simp only [Act.put, List.setIfInBounds_toArray, List.set_cons_zero, List.set_cons_succ, i64_w, i32_w]
         rfl
        refine pure_ (i := 11) (N := some 73) (v := ?_) (a' := ?_) #[true, true, true, true, true, true, true, true, true, true, true, true, false, false, false, false, false, false, false, false, false, false, false, false, false, false] rfl rfl (any_of HT_.out kx) (fun _ _ _ h => h) (Or.inl ⟨by rfl, ?_⟩) ?_ ?_
        rotate_left
        ·intro w'
         go_simp
         with_reducible rfl
        rotate_left
        ·simp only [Act.put, List.setIfInBounds_toArray, List.set_cons_zero, List.set_cons_succ, i64_w, i32_w]
         rfl
        refine pure_ (i := 12) (N := some 74) (v := ?_) (a' := ?_) #[true, true, true, true, true, true, true, true, true, true, true, true, true, false, false, false, false, false, false, false, false, false, false, false, false, false] rfl rfl (any_of HT_.out kx) (fun _ _ _ h => h) (Or.inl ⟨by rfl, ?_⟩) ?_ ?_
        rotate_left
        ·intro w'
         go_simp
         with_reducible rfl
        rotate_left
        ·simp only [Act.put, List.setIfInBounds_toArray, List.set_cons_zero, List.set_cons_succ, i64_w, i32_w]
         rfl
        refine pure_ (i := 13) (N := some 75) (v := ?_) (a' := ?_) #[true, true, true, true, true, true, true, true, true, true, true, true, true, true, false, false, false, false, false, false, false, false, false, false, false, false] rfl rfl (any_of HT_.out kx) (fun _ _ _ h => h) (Or.inl ⟨by rfl, ?_⟩) ?_ ?_
        rotate_left
        ·intro w'
         go_simp
         with_reducible rfl
        rotate_left
        ·simp only [Act.put, List.setIfInBounds_toArray, List.set_cons_zero, List.set_cons_succ, i64_w, i32_w]
         rfl
        refine take_ (i := 14) (N := some 76) (v := ?_) (a' := ?_) #[true, true, true, true, true, true, true, true, true, true, true, true, true, true, true, false, false, false, false, false, false, false, false, false, false, false] rfl rfl (take_ofW HT_.out HW_.out kx) (fun _ _ _ h => h) (Or.inl ⟨by rfl, ?_⟩) hHeld ?_ ?_
        rotate_left
        ·rintro w' ⟨s0, s1, s2, s3, s4, s5, s6, s7⟩
         go_simp
         with_reducible rfl
        rotate_left
        ·simp only [Act.put, List.setIfInBounds_toArray, List.set_cons_zero, List.set_cons_succ, i64_w, i32_w]
         rfl
        refine pure_ (i := 15) (N := some 77) (v := ?_) (a' := ?_) #[true, true, true, true, true, true, true, true, true, true, true, true, true, true, true, true, false, false, false, false, false, false, false, false, false, false] rfl rfl (any_of HT_.out kx) (fun _ _ _ h => h) (Or.inl ⟨by rfl, ?_⟩) ?_ ?_
        rotate_left
        ·intro w'
         go_simp
         with_reducible rfl
        rotate_left
        ·simp only [Act.put, List.setIfInBounds_toArray, List.set_cons_zero, List.set_cons_succ, i64_w, i32_w]
         rfl
        refine pure_ (i := 16) (N := some 78) (v := ?_) (a' := ?_) #[true, true, true, true, true, true, true, true, true, true, true, true, true, true, true, true, true, false, false, false, false, false, false, false, false, false] rfl rfl (any_of HT_.out kx) (fun _ _ _ h => h) (Or.inl ⟨by rfl, ?_⟩) ?_ ?_
        rotate_left
        ·intro w'
         go_simp
         with_reducible rfl
        rotate_left
        ·simp only [Act.put, List.setIfInBounds_toArray, List.set_cons_zero, List.set_cons_succ, i64_w, i32_w]
         rfl
        refine pure_ (i := 17) (N := some 79) (v := ?_) (a' := ?_) #[true, true, true, true, true, true, true, true, true, true, true, true, true, true, true, true, true, true, false, false, false, false, false, false, false, false] rfl rfl (any_of HT_.out kx) (fun _ _ _ h => h) (Or.inl ⟨by rfl, ?_⟩) ?_ ?_
        rotate_left
        ·intro w'
         go_simp
         with_reducible rfl
        rotate_left
        ·simp only [Act.put, List.setIfInBounds_toArray, List.set_cons_zero, List.set_cons_succ, i64_w, i32_w]
         rfl
        refine pure_ (i := 18) (N := some 80) (v := undef) (a' := ?_) #[true, true, true, true, true, true, true, true, true, true, true, true, true, true, true, true, true, true, true, false, false, false, false, false, false, false] rfl rfl (any_of HT_.out kx) (fun _ _ _ h => h) (Or.inr ⟨by rfl, rfl⟩) ?_ ?_
        rotate_left
        ·simp only [Act.put, List.setIfInBounds_toArray, List.set_cons_zero, List.set_cons_succ, i64_w, i32_w]
         rfl
        refine pure_ (i := 19) (N := some 81) (v := undef) (a' := ?_) #[true, true, true, true, true, true, true, true, true, true, true, true, true, true, true, true, true, true, true, true, false, false, false, false, false, false] rfl rfl (any_of HT_.out kx) (fun _ _ _ h => h) (Or.inr ⟨by rfl, rfl⟩) ?_ ?_
        rotate_left
        ·simp only [Act.put, List.setIfInBounds_toArray, List.set_cons_zero, List.set_cons_succ, i64_w, i32_w]
         rfl
        refine pure_ (i := 20) (N := some 82) (v := undef) (a' := ?_) #[true, true, true, true, true, true, true, true, true, true, true, true, true, true, true, true, true, true, true, true, true, false, false, false, false, false] rfl rfl (any_of HT_.out kx) (fun _ _ _ h => h) (Or.inr ⟨by rfl, rfl⟩) ?_ ?_
        rotate_left
        ·simp only [Act.put, List.setIfInBounds_toArray, List.set_cons_zero, List.set_cons_succ, i64_w, i32_w]
         rfl
        refine pure_ (i := 21) (N := some 83) (v := undef) (a' := ?_) #[true, true, true, true, true, true, true, true, true, true, true, true, true, true, true, true, true, true, true, true, true, true, false, false, false, false] rfl rfl (any_of HT_.out kx) (fun _ _ _ h => h) (Or.inr ⟨by rfl, rfl⟩) ?_ ?_
        rotate_left
        ·simp only [Act.put, List.setIfInBounds_toArray, List.set_cons_zero, List.set_cons_succ, i64_w, i32_w]
         rfl
        refine pure_ (i := 22) (N := some 84) (v := undef) (a' := ?_) #[true, true, true, true, true, true, true, true, true, true, true, true, true, true, true, true, true, true, true, true, true, true, true, false, false, false] rfl rfl (any_of HT_.out kx) (fun _ _ _ h => h) (Or.inr ⟨by rfl, rfl⟩) ?_ ?_
        rotate_left
        ·simp only [Act.put, List.setIfInBounds_toArray, List.set_cons_zero, List.set_cons_succ, i64_w, i32_w]
         rfl
        refine pure_ (i := 23) (N := some 85) (v := undef) (a' := ?_) #[true, true, true, true, true, true, true, true, true, true, true, true, true, true, true, true, true, true, true, true, true, true, true, true, false, false] rfl rfl (any_of HT_.out kx) (fun _ _ _ h => h) (Or.inr ⟨by rfl, rfl⟩) ?_ ?_
        rotate_left
        ·simp only [Act.put, List.setIfInBounds_toArray, List.set_cons_zero, List.set_cons_succ, i64_w, i32_w]
         rfl
        refine pure_ (i := 24) (N := some 86) (v := ?_) (a' := ?_) #[true, true, true, true, true, true, true, true, true, true, true, true, true, true, true, true, true, true, true, true, true, true, true, true, true, false] rfl rfl (any_of HT_.out kx) (fun _ _ _ h => h) (Or.inl ⟨by rfl, ?_⟩) ?_ ?_
        rotate_left
        ·intro w'
         go_simp
         with_reducible rfl
        rotate_left
        ·simp only [Act.put, List.setIfInBounds_toArray, List.set_cons_zero, List.set_cons_succ, i64_w, i32_w]
         rfl
        refine pure_ (i := 25) (N := some 87) (v := ?_) (a' := ?_) #[true, true, true, true, true, true, true, true, true, true, true, true, true, true, true, true, true, true, true, true, true, true, true, true, true, true] rfl rfl (any_of HT_.out kx) (fun _ _ _ h => h) (Or.inl ⟨by rfl, ?_⟩) ?_ ?_
        rotate_left
        ·intro w'
         go_simp
         with_reducible rfl
        rotate_left
        ·simp only [Act.put, List.setIfInBounds_toArray, List.set_cons_zero, List.set_cons_succ, i64_w, i32_w]
         rfl
        refine done_ (done_of HT_.out kx) ?_
        try go_wp2
        go_meet
        case rel => exact ⟨_, (false), rs, H', ⟨by first | omega | exact Nat.le_refl _⟩, ⟨bk BK263⟩, ⟨bk BK271⟩, ⟨bk BK272⟩, ⟨be⟩⟩
     case rest =>
      clear HC13
      (try clear c1); (try clear p2); (try clear c3); (try clear c4); (try clear c7); (try clear c10); (try clear c31); (try clear c31b0); (try clear c31b1); (try clear c40); (try clear c40b0); (try clear c40b1)
      obtain ⟨kq, x87_12, rfl, HA, HJ12, BK263, BK271, BK272, HB⟩ := hcut
      cases kq with
      | zero => exact absurd HA.out (by simp [ephemerisref1_RecurFits.j0])
      | succ kj12 =>
       have H := HA.out
       clear HA
       simp only [ephemerisref1_RecurFits.j0] at H
       by_cases c45 : x87_12 = true
       ·subst c45
        have H1 : (some false) = some r := by rw [if_pos rfl] at H; exact H
        clear H
        have H := H1
        clear H1
        obtain rfl := Option.some.inj H
        go_wp2
        go_ret
        exact ⟨by first | rfl | (simp [errW_none, errW_some] <;> rfl) | (simp [*, errW_none, errW_some] <;> rfl), be⟩
       ·replace c45 := Bool.eq_false_iff.mpr c45
        subst c45
        have H1 : (ephemerisref1_RecurFits.l0 kj12 a1 (-1) (wrap64 (a1 + 1)) a0_0 a0_1 a0_2 a0_3 a0_4 l0_5 l0_6 l0_7 t265 t266 t267 t268 t269 t270) = some r := by rw [if_neg (show ¬ (false = true) by decide)] at H; exact H
        clear H
        have H := H1
        clear H1
        have H' := Aside0.mk H
        clear H
        go_wp2
        go_loopg [8, 9] kj12 (fun kq v8 v9 w' => ∃ (x8_2 : Int) (x9_2 : Int), v8 = .int .i64 x8_2 ∧ v9 = .int .i64 x9_2 ∧ Aside0 (ephemerisref1_RecurFits.l0 kq a1 x8_2 x9_2 a0_0 a0_1 a0_2 a0_3 a0_4 l0_5 l0_6 l0_7 t265 t266 t267 t268 t269 t270 = some r) ∧ Aside0 (kq ≤ kj12) ∧ Aside0 (w'.heap[gb263]? = some (.cells #[.int .i64 a0_0, .int .i64 a0_1, .int .i64 a0_2, .int .i64 a0_3, .int .i64 a0_4, (.slice A0_5 l0_5.length c0_5), (.slice A0_6 l0_6.length c0_6), (.slice A0_7 l0_7.length c0_7)] 33 (0, 0))) ∧ Aside0 (w'.heap[gb271]? = some (.cells #[.int .i64 t265, .int .i64 t266, .int .i64 t267] 107 (0, 0))) ∧ Aside0 (w'.heap[gb272]? = some (.cells #[.int .i64 t268, .int .i64 t269, .int .i64 t270] 107 (0, 0))) ∧ Aside0 (Below w.heap.size w w'))
        case atStart => exact ⟨((-1)), (wrap64 (a1 + 1)), rs, rs, H', ⟨Nat.le_refl _⟩, ⟨bk BK263⟩, ⟨bk BK271⟩, ⟨bk BK272⟩, ⟨be⟩⟩
        case round =>
         clear H'
         (try clear c1); (try clear p2); (try clear c3); (try clear c4); (try clear p6); (try clear c7); (try clear c10); (try clear c31); (try clear c31b0); (try clear c31b1); (try clear c40); (try clear c40b0); (try clear c40b1); (try clear c45); (try clear p2)
         obtain ⟨x8_2, x9_2, rfl, rfl, HA, HK2, BK263, BK271, BK272, HB⟩ := hrel
         cases gk with
         | zero => exact absurd HA.out (by simp [ephemerisref1_RecurFits.l0])
         | succ k2 =>
          have H := HA.out
          clear HA
          simp only [ephemerisref1_RecurFits.l0] at H
          replace H := Option.bind_eq_some_iff.mp H
          obtain ⟨⟨t285, t286, t287⟩, A460, H⟩ := H
          replace H : (if t286 = t269 then (ephemerisref1_RecurFits.l0 k2 a1 (wrap64 (x8_2 - 1)) (wrap64 (x9_2 + 1)) a0_0 a0_1 a0_2 a0_3 a0_4 l0_5 l0_6 l0_7 t265 t266 t267 t268 t269 t270) else (if (l0_6.length : Int) > 0 then ((ephemerisref1_has.f k2 l0_6 t270).bind fun t288 => (if t288 = true then (some true) else ((ephemerisref1_has.f k2 l0_6 x8_2).bind fun t289 => (some t289)))) else (if (l0_5.length : Int) > 0 then (some true) else (if a0_0 = 2 then ((ephemerisref1_Week.f k2 a1).bind fun t290 => ((ephemerisref1_Week.f k2 a0_2).bind fun t291 => (some (t290 == t291)))) else (if a0_0 = 3 then (some (t270 == t267)) else (if a0_0 = 4 then (if t270 = t267 then (if (l0_7.length : Int) > 0 then (some true) else (some (t269 == t266))) else (some false)) else (some true))))))) = some r := H
          have A46 := Aside0.mk A460
          clear A460
          by_cases c47 : t286 = t269
          ·rw [if_pos c47] at H
           have c47b0 : (t286 == t269) = true := beq_iff_eq.mpr c47
           have c47b1 : (t286 != t269) = false := bne_eq_false_iff_eq.mpr c47
           clear c47
           have H' := Aside0.mk H
           clear H
           try go_wp2
           obtain ⟨wq_, hq0_, hq_⟩ : ∃ q, q = wr ∧ World.drewN wr 0 = q := ⟨wr, rfl, rfl⟩
           rw [← hq0_]
           clear hq0_
           obtain ⟨nd_, hnd_⟩ : ∃ n_, World.drewN wr n_ = wq_ := ⟨_, hq_⟩
           clear hq_
           have t_ := blk_drewN BK263.out nd_
           rw [hnd_] at t_
           have m0_ := Aside0.mk t_
           clear t_
           have t_ := blk_drewN BK271.out nd_
           rw [hnd_] at t_
           have m1_ := Aside0.mk t_
           clear t_
           have t_ := blk_drewN BK272.out nd_
           rw [hnd_] at t_
           have m2_ := Aside0.mk t_
           clear t_
           have t_ := pw_below_drewN (n := nd_) HB.out
           rw [hnd_] at t_
           have mB_ := Aside0.mk t_
           clear t_ hnd_
           clear BK263 BK271 BK272 HB
           have BK263 := m0_
           have BK271 := m1_
           have BK272 := m2_
           have HB := mB_
           clear m0_ m1_ m2_ mB_
           have n0_ := Aside0.mk (blk_drew BK263.out)
           have n1_ := Aside0.mk (blk_drew BK271.out)
           have n2_ := Aside0.mk (blk_drew BK272.out)
           have n3_ := Aside0.mk (below_drew1 HB.out)
           clear BK263
           clear BK271
           clear BK272
           clear HB
           have BK263 := n0_
           have BK271 := n1_
           have BK272 := n2_
           have HB := n3_
           clear n0_ n1_ n2_ n3_
           refine start_ (n := 6) (S := fun w' => w'.cell? ⟨gb272, 0, none⟩ = some (.int .i64 t268) ∧ w'.cell? ⟨gb272, 1, none⟩ = some (.int .i64 t269) ∧ w'.cell? ⟨gb272, 2, none⟩ = some (.int .i64 t270)) (ds := []) #[false, false, false, false, false, false] kx rfl rfl ⟨(blk_cell BK272.out 0).trans rfl, (blk_cell BK272.out 1).trans rfl, (blk_cell BK272.out 2).trans rfl⟩ (fun hHeld => ?_)
           generalize wq_.drew = w48 at BK263 BK271 BK272 HB hHeld ⊢
           refine pure_ (i := 0) (N := some 90) (v := ?_) (a' := ?_) #[true, false, false, false, false, false] rfl rfl kx (fun _ _ _ h => h) (Or.inl ⟨by rfl, ?_⟩) ?_ ?_
           rotate_left
           ·intro w'
            go_simp
            with_reducible rfl
           rotate_left
           ·simp only [Act.put, List.setIfInBounds_toArray, List.set_cons_zero, List.set_cons_succ, i64_w, i32_w]
            rfl
           refine pure_ (i := 3) (N := some 93) (v := ?_) (a' := ?_) #[true, false, false, true, false, false] rfl rfl kx (fun _ _ _ h => h) (Or.inl ⟨by rfl, ?_⟩) ?_ ?_
           rotate_left
           ·intro w'
            go_simp
            with_reducible rfl
           rotate_left
           ·simp only [Act.put, List.setIfInBounds_toArray, List.set_cons_zero, List.set_cons_succ, i64_w, i32_w]
            rfl
           refine take_ (i := 4) (N := some 94) (v := ?_) (a' := ?_) #[true, false, false, true, true, false] rfl rfl kx (fun _ _ _ h => h) (Or.inl ⟨by rfl, ?_⟩) hHeld ?_ ?_
           rotate_left
           ·rintro w' ⟨s0, s1, s2⟩
            go_simp
            with_reducible rfl
           rotate_left
           ·simp only [Act.put, List.setIfInBounds_toArray, List.set_cons_zero, List.set_cons_succ, i64_w, i32_w]
            rfl
           refine one_ (i := 1) (N := some 91) #[true, true, false, true, true, false] rfl rfl kx (by decide) (fun K hK => ?_)
           refine goes_ Try.func99 kx rfl #[.int .i64 x9_2] (by rfl) rfl rfl aa ?_
           with_reducible refine (ephemerisref1_Greg.calls k2 x9_2 t285 t286 t287 _ A46.out).mono ?_
           rintro e w49 ⟨rfl, hb⟩
           refine ⟨_, rfl, ?_⟩
           have n0_ := bb BK263 hb
           have n1_ := bb BK271 hb
           have n2_ := bb BK272 hb
           have n3_ := Aside0.mk (below_step be hb)
           clear BK263
           clear BK271
           clear BK272
           clear HB
           have BK263 := n0_
           have BK271 := n1_
           have BK272 := n2_
           have HB := n3_
           clear n0_ n1_ n2_ n3_
           (try clear hb)
           (try clear hb2)
           (try clear hk)
           (try clear hi)
           refine hK.out _ _ ⟨(blk_cell BK272.out 0).trans rfl, (blk_cell BK272.out 1).trans rfl, (blk_cell BK272.out 2).trans rfl⟩ (fun hHeld => ?_)
           clear hK K
           refine norm_ (a' := ?_) ?_ ?_
           rotate_left
           ·show Act.put _ (some 91) _ = _
            simp only [Act.put, List.setIfInBounds_toArray, List.set_cons_zero, List.set_cons_succ, i64_w, i32_w]
            rfl
           refine pure_ (i := 2) (N := some 92) (v := ?_) (a' := ?_) #[true, true, true, true, true, false] rfl rfl kx (fun _ _ _ h => h) (Or.inl ⟨by rfl, ?_⟩) ?_ ?_
           rotate_left
           ·intro w'
            go_simp
            with_reducible rfl
           rotate_left
           ·simp only [Act.put, List.setIfInBounds_toArray, List.set_cons_zero, List.set_cons_succ, i64_w, i32_w]
            rfl
           refine pure_ (i := 5) (N := some 95) (v := ?_) (a' := ?_) #[true, true, true, true, true, true] rfl rfl kx (fun _ _ _ h => h) (Or.inl ⟨by rfl, ?_⟩) ?_ ?_
           rotate_left
           ·intro w'
            go_simp
            with_reducible rfl
           rotate_left
           ·simp only [Act.put, List.setIfInBounds_toArray, List.set_cons_zero, List.set_cons_succ, i64_w, i32_w]
            rfl
           refine done_ kx ?_
           try go_wp2
           go_roundg k2
           case measure => have := HJ12.out; have := HK2.out; omega
           case rel => exact ⟨(wrap64 (x8_2 - 1)), (wrap64 (x9_2 + 1)), rs, rs, H', ⟨by have := HJ12.out; have := HK2.out; omega⟩, ⟨bk BK263⟩, ⟨bk BK271⟩, ⟨bk BK272⟩, ⟨be⟩⟩
          ·rw [if_neg c47] at H
           have c47b0 : (t286 == t269) = false := beq_eq_false_iff_ne.mpr c47
           have c47b1 : (t286 != t269) = true := bne_iff_ne.mpr c47
           by_cases c50 : (l0_6.length : Int) > 0
           ·rw [if_pos c50] at H
            have c50b0 : decide (0 < (l0_6.length : Int)) = true := decide_eq_true c50
            have c50b1 : decide (0 < l0_6.length) = true := decide_eq_true (by omega)
            clear c50
            replace H := Option.bind_eq_some_iff.mp H
            obtain ⟨t288, A510, H⟩ := H
            replace H : (if t288 = true then (some true) else ((ephemerisref1_has.f k2 l0_6 x8_2).bind fun t289 => (some t289))) = some r := H
            have A51 := Aside0.mk A510
            clear A510
            by_cases c52 : t288 = true
            ·subst c52
             have H1 : (some true) = some r := by rw [if_pos rfl] at H; exact H
             clear H
             have H := H1
             clear H1
             obtain rfl := Option.some.inj H
             try go_wp2
             obtain ⟨wq_, hq0_, hq_⟩ : ∃ q, q = wr ∧ World.drewN wr 0 = q := ⟨wr, rfl, rfl⟩
             rw [← hq0_]
             clear hq0_
             obtain ⟨nd_, hnd_⟩ : ∃ n_, World.drewN wr n_ = wq_ := ⟨_, hq_⟩
             clear hq_
             have t_ := blk_drewN BK263.out nd_
             rw [hnd_] at t_
             have m0_ := Aside0.mk t_
             clear t_
             have t_ := blk_drewN BK271.out nd_
             rw [hnd_] at t_
             have m1_ := Aside0.mk t_
             clear t_
             have t_ := blk_drewN BK272.out nd_
             rw [hnd_] at t_
             have m2_ := Aside0.mk t_
             clear t_
             have t_ := pw_below_drewN (n := nd_) HB.out
             rw [hnd_] at t_
             have mB_ := Aside0.mk t_
             clear t_ hnd_
             clear BK263 BK271 BK272 HB
             have BK263 := m0_
             have BK271 := m1_
             have BK272 := m2_
             have HB := mB_
             clear m0_ m1_ m2_ mB_
             have n0_ := Aside0.mk (blk_drew BK263.out)
             have n1_ := Aside0.mk (blk_drew BK271.out)
             have n2_ := Aside0.mk (blk_drew BK272.out)
             have n3_ := Aside0.mk (below_drew1 HB.out)
             clear BK263
             clear BK271
             clear BK272
             clear HB
             have BK263 := n0_
             have BK271 := n1_
             have BK272 := n2_
             have HB := n3_
             clear n0_ n1_ n2_ n3_
             refine start_ (n := 6) (S := fun w' => w'.cell? ⟨gb272, 0, none⟩ = some (.int .i64 t268) ∧ w'.cell? ⟨gb272, 1, none⟩ = some (.int .i64 t269) ∧ w'.cell? ⟨gb272, 2, none⟩ = some (.int .i64 t270)) (ds := []) #[false, false, false, false, false, false] kx rfl rfl ⟨(blk_cell BK272.out 0).trans rfl, (blk_cell BK272.out 1).trans rfl, (blk_cell BK272.out 2).trans rfl⟩ (fun hHeld => ?_)
             generalize wq_.drew = w53 at BK263 BK271 BK272 HB hHeld ⊢
             refine pure_ (i := 0) (N := some 90) (v := ?_) (a' := ?_) #[true, false, false, false, false, false] rfl rfl kx (fun _ _ _ h => h) (Or.inl ⟨by rfl, ?_⟩) ?_ ?_
             rotate_left
             ·intro w'
              go_simp
              with_reducible rfl
             rotate_left
             ·simp only [Act.put, List.setIfInBounds_toArray, List.set_cons_zero, List.set_cons_succ, i64_w, i32_w]
              rfl
             refine pure_ (i := 3) (N := some 93) (v := ?_) (a' := ?_) #[true, false, false, true, false, false] rfl rfl kx (fun _ _ _ h => h) (Or.inl ⟨by rfl, ?_⟩) ?_ ?_
             rotate_left
             ·intro w'
              go_simp
              with_reducible rfl
             rotate_left
             ·simp only [Act.put, List.setIfInBounds_toArray, List.set_cons_zero, List.set_cons_succ, i64_w, i32_w]
              rfl
             refine take_ (i := 4) (N := some 94) (v := ?_) (a' := ?_) #[true, false, false, true, true, false] rfl rfl kx (fun _ _ _ h => h) (Or.inl ⟨by rfl, ?_⟩) hHeld ?_ ?_
             rotate_left
             ·rintro w' ⟨s0, s1, s2⟩
              go_simp
              with_reducible rfl
             rotate_left
             ·simp only [Act.put, List.setIfInBounds_toArray, List.set_cons_zero, List.set_cons_succ, i64_w, i32_w]
              rfl
             refine one_ (i := 1) (N := some 91) #[true, true, false, true, true, false] rfl rfl kx (by decide) (fun K hK => ?_)
             refine goes_ Try.func99 kx rfl #[.int .i64 x9_2] (by rfl) rfl rfl aa ?_
             with_reducible refine (ephemerisref1_Greg.calls k2 x9_2 t285 t286 t287 _ A46.out).mono ?_
             rintro e w54 ⟨rfl, hb⟩
             refine ⟨_, rfl, ?_⟩
             have n0_ := bb BK263 hb
             have n1_ := bb BK271 hb
             have n2_ := bb BK272 hb
             have n3_ := Aside0.mk (below_step be hb)
             clear BK263
             clear BK271
             clear BK272
             clear HB
             have BK263 := n0_
             have BK271 := n1_
             have BK272 := n2_
             have HB := n3_
             clear n0_ n1_ n2_ n3_
             (try clear hb)
             (try clear hb2)
             (try clear hk)
             (try clear hi)
             refine hK.out _ _ ⟨(blk_cell BK272.out 0).trans rfl, (blk_cell BK272.out 1).trans rfl, (blk_cell BK272.out 2).trans rfl⟩ (fun hHeld => ?_)
             clear hK K
             refine norm_ (a' := ?_) ?_ ?_
             rotate_left
             ·show Act.put _ (some 91) _ = _
              simp only [Act.put, List.setIfInBounds_toArray, List.set_cons_zero, List.set_cons_succ, i64_w, i32_w]
              rfl
             refine pure_ (i := 2) (N := some 92) (v := ?_) (a' := ?_) #[true, true, true, true, true, false] rfl rfl kx (fun _ _ _ h => h) (Or.inl ⟨by rfl, ?_⟩) ?_ ?_
             rotate_left
             ·intro w'
              go_simp
              with_reducible rfl
             rotate_left
             ·simp only [Act.put, List.setIfInBounds_toArray, List.set_cons_zero, List.set_cons_succ, i64_w, i32_w]
              rfl
             refine pure_ (i := 5) (N := some 95) (v := ?_) (a' := ?_) #[true, true, true, true, true, true] rfl rfl kx (fun _ _ _ h => h) (Or.inl ⟨by rfl, ?_⟩) ?_ ?_
             rotate_left
             ·intro w'
              go_simp
              with_reducible rfl
             rotate_left
             ·simp only [Act.put, List.setIfInBounds_toArray, List.set_cons_zero, List.set_cons_succ, i64_w, i32_w]
              rfl
             refine done_ kx ?_
             have hnb55 := NB263_271.out
             have hnc55 := NB271_263.out
             have hnb56 := NB263_272.out
             have hnc56 := NB272_263.out
             obtain ⟨hcz57_0, hcz57_1, hcz57_2, hcz57_3, hcz57_4, hcz57_5, hcz57_6, hcz57_7, hfz57_0, hfz57_1, hfz57_2, hfz57_3, hfz57_4, hfz57_5, hfz57_6, hfz57_7⟩ := bc8 BK263
             have hnb58 := NB272_271.out
             have hnc58 := NB271_272.out
             obtain ⟨hcz59_0, hcz59_1, hcz59_2, hfz59_0, hfz59_1, hfz59_2⟩ := bc3 BK272
             try go_wp2_with (first | ((with_reducible refine gate_callee (f := 100) rfl ?_); refine goesL_ (some 108) rfl rfl Try.func100 kx rfl #[.slice A0_6 l0_6.length c0_6, .int .i64 t270] rfl aa ?_; (with_reducible refine (ephemerisref1_has.calls k2 _ _ l0_6 t270 true _ ?side1 ?side2 A51.out).mono ?_); (case side1 => exact kc (Kd.C_below HR0_6.out HB.out)); (case side2 => exact HC0_6.out); rintro e w' ⟨rfl, ⟨nd, rfl⟩⟩; refine ⟨_, rfl, ?_⟩))
             go_ret
             exact ⟨by first | rfl | (simp [errW_none, errW_some] <;> rfl) | (simp [*, errW_none, errW_some] <;> rfl), be⟩
            ·replace c52 := Bool.eq_false_iff.mpr c52
             subst c52
             have H1 : ((ephemerisref1_has.f k2 l0_6 x8_2).bind fun t289 => (some t289)) = some r := by rw [if_neg (show ¬ (false = true) by decide)] at H; exact H
             clear H
             have H := H1
             clear H1
             replace H := Option.bind_eq_some_iff.mp H
             obtain ⟨t289, A600, H⟩ := H
             replace H : (some t289) = some r := H
             have A60 := Aside0.mk A600
             clear A600
             obtain rfl := Option.some.inj H
             try go_wp2
             obtain ⟨wq_, hq0_, hq_⟩ : ∃ q, q = wr ∧ World.drewN wr 0 = q := ⟨wr, rfl, rfl⟩
             rw [← hq0_]
             clear hq0_
             obtain ⟨nd_, hnd_⟩ : ∃ n_, World.drewN wr n_ = wq_ := ⟨_, hq_⟩
             clear hq_
             have t_ := blk_drewN BK263.out nd_
             rw [hnd_] at t_
             have m0_ := Aside0.mk t_
             clear t_
             have t_ := blk_drewN BK271.out nd_
             rw [hnd_] at t_
             have m1_ := Aside0.mk t_
             clear t_
             have t_ := blk_drewN BK272.out nd_
             rw [hnd_] at t_
             have m2_ := Aside0.mk t_
             clear t_
             have t_ := pw_below_drewN (n := nd_) HB.out
             rw [hnd_] at t_
             have mB_ := Aside0.mk t_
             clear t_ hnd_
             clear BK263 BK271 BK272 HB
             have BK263 := m0_
             have BK271 := m1_
             have BK272 := m2_
             have HB := mB_
             clear m0_ m1_ m2_ mB_
             have n0_ := Aside0.mk (blk_drew BK263.out)
             have n1_ := Aside0.mk (blk_drew BK271.out)
             have n2_ := Aside0.mk (blk_drew BK272.out)
             have n3_ := Aside0.mk (below_drew1 HB.out)
             clear BK263
             clear BK271
             clear BK272
             clear HB
             have BK263 := n0_
             have BK271 := n1_
             have BK272 := n2_
             have HB := n3_
             clear n0_ n1_ n2_ n3_
             refine start_ (n := 6) (S := fun w' => w'.cell? ⟨gb272, 0, none⟩ = some (.int .i64 t268) ∧ w'.cell? ⟨gb272, 1, none⟩ = some (.int .i64 t269) ∧ w'.cell? ⟨gb272, 2, none⟩ = some (.int .i64 t270)) (ds := []) #[false, false, false, false, false, false] kx rfl rfl ⟨(blk_cell BK272.out 0).trans rfl, (blk_cell BK272.out 1).trans rfl, (blk_cell BK272.out 2).trans rfl⟩ (fun hHeld => ?_)
             generalize wq_.drew = w61 at BK263 BK271 BK272 HB hHeld ⊢
             refine pure_ (i := 0) (N := some 90) (v := ?_) (a' := ?_) #[true, false, false, false, false, false] rfl rfl kx (fun _ _ _ h => h) (Or.inl ⟨by rfl, ?_⟩) ?_ ?_
             rotate_left
             ·intro w'
              go_simp
              with_reducible rfl
             rotate_left
             ·simp only [Act.put, List.setIfInBounds_toArray, List.set_cons_zero, List.set_cons_succ, i64_w, i32_w]
              rfl
             refine pure_ (i := 3) (N := some 93) (v := ?_) (a' := ?_) #[true, false, false, true, false, false] rfl rfl kx (fun _ _ _ h => h) (Or.inl ⟨by rfl, ?_⟩) ?_ ?_
             rotate_left
             ·intro w'
              go_simp
              with_reducible rfl
             rotate_left
             ·simp only [Act.put, List.setIfInBounds_toArray, List.set_cons_zero, List.set_cons_succ, i64_w, i32_w]
              rfl
             refine take_ (i := 4) (N := some 94) (v := ?_) (a' := ?_) #[true, false, false, true, true, false] rfl rfl kx (fun _ _ _ h => h) (Or.inl ⟨by rfl, ?_⟩) hHeld ?_ ?_
             rotate_left
             ·rintro w' ⟨s0, s1, s2⟩
              go_simp
              with_reducible rfl
             rotate_left
             ·simp only [Act.put, List.setIfInBounds_toArray, List.set_cons_zero, List.set_cons_succ, i64_w, i32_w]
              rfl
             refine one_ (i := 1) (N := some 91) #[true, true, false, true, true, false] rfl rfl kx (by decide) (fun K hK => ?_)
             refine goes_ Try.func99 kx rfl #[.int .i64 x9_2] (by rfl) rfl rfl aa ?_
             with_reducible refine (ephemerisref1_Greg.calls k2 x9_2 t285 t286 t287 _ A46.out).mono ?_
             rintro e w62 ⟨rfl, hb⟩
             refine ⟨_, rfl, ?_⟩
             have n0_ := bb BK263 hb
             have n1_ := bb BK271 hb
             have n2_ := bb BK272 hb
             have n3_ := Aside0.mk (below_step be hb)
             clear BK263
             clear BK271
             clear BK272
             clear HB
             have BK263 := n0_
             have BK271 := n1_
             have BK272 := n2_
             have HB := n3_
             clear n0_ n1_ n2_ n3_
             (try clear hb)
             (try clear hb2)
             (try clear hk)
             (try clear hi)
             refine hK.out _ _ ⟨(blk_cell BK272.out 0).trans rfl, (blk_cell BK272.out 1).trans rfl, (blk_cell BK272.out 2).trans rfl⟩ (fun hHeld => ?_)
             clear hK K
             refine norm_ (a' := ?_) ?_ ?_
             rotate_left
             ·show Act.put _ (some 91) _ = _
              simp only [Act.put, List.setIfInBounds_toArray, List.set_cons_zero, List.set_cons_succ, i64_w, i32_w]
              rfl
             refine pure_ (i := 2) (N := some 92) (v := ?_) (a' := ?_) #[true, true, true, true, true, false] rfl rfl kx (fun _ _ _ h => h) (Or.inl ⟨by rfl, ?_⟩) ?_ ?_
             rotate_left
             ·intro w'
              go_simp
              with_reducible rfl
             rotate_left
             ·simp only [Act.put, List.setIfInBounds_toArray, List.set_cons_zero, List.set_cons_succ, i64_w, i32_w]
              rfl
             refine pure_ (i := 5) (N := some 95) (v := ?_) (a' := ?_) #[true, true, true, true, true, true] rfl rfl kx (fun _ _ _ h => h) (Or.inl ⟨by rfl, ?_⟩) ?_ ?_
             rotate_left
             ·intro w'
              go_simp
              with_reducible rfl
             rotate_left
             ·simp only [Act.put, List.setIfInBounds_toArray, List.set_cons_zero, List.set_cons_succ, i64_w, i32_w]
              rfl
             refine done_ kx ?_
             have hnb63 := NB263_271.out
             have hnc63 := NB271_263.out
             have hnb64 := NB263_272.out
             have hnc64 := NB272_263.out
             obtain ⟨hcz65_0, hcz65_1, hcz65_2, hcz65_3, hcz65_4, hcz65_5, hcz65_6, hcz65_7, hfz65_0, hfz65_1, hfz65_2, hfz65_3, hfz65_4, hfz65_5, hfz65_6, hfz65_7⟩ := bc8 BK263
             have hnb66 := NB272_271.out
             have hnc66 := NB271_272.out
             obtain ⟨hcz67_0, hcz67_1, hcz67_2, hfz67_0, hfz67_1, hfz67_2⟩ := bc3 BK272
             try go_wp2_with (first | ((with_reducible refine gate_callee (f := 100) rfl ?_); refine goesL_ (some 108) rfl rfl Try.func100 kx rfl #[.slice A0_6 l0_6.length c0_6, .int .i64 t270] rfl aa ?_; (with_reducible refine (ephemerisref1_has.calls k2 _ _ l0_6 t270 false _ ?side1 ?side2 A51.out).mono ?_); (case side1 => exact kc (Kd.C_below HR0_6.out HB.out)); (case side2 => exact HC0_6.out); rintro e w' ⟨rfl, ⟨nd, rfl⟩⟩; refine ⟨_, rfl, ?_⟩) | (go_at_call 100; (with_reducible refine (ephemerisref1_has.calls k2 _ _ l0_6 x8_2 t289 _ ?side1 ?side2 A60.out).mono ?_); (case side1 => repeat (first | exact (Kd.C_below HR0_6.out be) | (with_reducible refine Kd.C_alloc ?_ _) | (with_reducible refine Kd.C_drewN ?_ _) | (with_reducible refine Kd.C_drew ?_))); (case side2 => exact HC0_6.out); rintro e w' ⟨rfl, ⟨nd, rfl⟩⟩))
             go_ret
             exact ⟨by first | rfl | (simp [errW_none, errW_some] <;> rfl) | (simp [*, errW_none, errW_some] <;> rfl), be⟩
           ·rw [if_neg c50] at H
            have c50b0 : decide (0 < (l0_6.length : Int)) = false := decide_eq_false c50
            have c50b1 : decide (0 < l0_6.length) = false := decide_eq_false (by omega)
            clear c50
            by_cases c68 : (l0_5.length : Int) > 0
            ·rw [if_pos c68] at H
             have c68b0 : decide (0 < (l0_5.length : Int)) = true := decide_eq_true c68
             have c68b1 : decide (0 < l0_5.length) = true := decide_eq_true (by omega)
             clear c68
             obtain rfl := Option.some.inj H
             try go_wp2
             obtain ⟨wq_, hq0_, hq_⟩ : ∃ q, q = wr ∧ World.drewN wr 0 = q := ⟨wr, rfl, rfl⟩
             rw [← hq0_]
             clear hq0_
             obtain ⟨nd_, hnd_⟩ : ∃ n_, World.drewN wr n_ = wq_ := ⟨_, hq_⟩
             clear hq_
             have t_ := blk_drewN BK263.out nd_
             rw [hnd_] at t_
             have m0_ := Aside0.mk t_
             clear t_
             have t_ := blk_drewN BK271.out nd_
             rw [hnd_] at t_
             have m1_ := Aside0.mk t_
             clear t_
             have t_ := blk_drewN BK272.out nd_
             rw [hnd_] at t_
             have m2_ := Aside0.mk t_
             clear t_
             have t_ := pw_below_drewN (n := nd_) HB.out
             rw [hnd_] at t_
             have mB_ := Aside0.mk t_
             clear t_ hnd_
             clear BK263 BK271 BK272 HB
             have BK263 := m0_
             have BK271 := m1_
             have BK272 := m2_
             have HB := mB_
             clear m0_ m1_ m2_ mB_
             have n0_ := Aside0.mk (blk_drew BK263.out)
             have n1_ := Aside0.mk (blk_drew BK271.out)
             have n2_ := Aside0.mk (blk_drew BK272.out)
             have n3_ := Aside0.mk (below_drew1 HB.out)
             clear BK263
             clear BK271
             clear BK272
             clear HB
             have BK263 := n0_
             have BK271 := n1_
             have BK272 := n2_
             have HB := n3_
             clear n0_ n1_ n2_ n3_
             refine start_ (n := 6) (S := fun w' => w'.cell? ⟨gb272, 0, none⟩ = some (.int .i64 t268) ∧ w'.cell? ⟨gb272, 1, none⟩ = some (.int .i64 t269) ∧ w'.cell? ⟨gb272, 2, none⟩ = some (.int .i64 t270)) (ds := []) #[false, false, false, false, false, false] kx rfl rfl ⟨(blk_cell BK272.out 0).trans rfl, (blk_cell BK272.out 1).trans rfl, (blk_cell BK272.out 2).trans rfl⟩ (fun hHeld => ?_)
             generalize wq_.drew = w69 at BK263 BK271 BK272 HB hHeld ⊢
             refine pure_ (i := 0) (N := some 90) (v := ?_) (a' := ?_) #[true, false, false, false, false, false] rfl rfl kx (fun _ _ _ h => h) (Or.inl ⟨by rfl, ?_⟩) ?_ ?_
             rotate_left
             ·intro w'
              go_simp
              with_reducible rfl
             rotate_left
             ·simp only [Act.put, List.setIfInBounds_toArray, List.set_cons_zero, List.set_cons_succ, i64_w, i32_w]
              rfl
             refine pure_ (i := 3) (N := some 93) (v := ?_) (a' := ?_) #[true, false, false, true, false, false] rfl rfl kx (fun _ _ _ h => h) (Or.inl ⟨by rfl, ?_⟩) ?_ ?_
             rotate_left
             ·intro w'
              go_simp
              with_reducible rfl
             rotate_left
             ·simp only [Act.put, List.setIfInBounds_toArray, List.set_cons_zero, List.set_cons_succ, i64_w, i32_w]
              rfl
             refine take_ (i := 4) (N := some 94) (v := ?_) (a' := ?_) #[true, false, false, true, true, false] rfl rfl kx (fun _ _ _ h => h) (Or.inl ⟨by rfl, ?_⟩) hHeld ?_ ?_
             rotate_left
             ·rintro w' ⟨s0, s1, s2⟩
              go_simp
              with_reducible rfl
             rotate_left
             ·simp only [Act.put, List.setIfInBounds_toArray, List.set_cons_zero, List.set_cons_succ, i64_w, i32_w]
              rfl
             refine one_ (i := 1) (N := some 91) #[true, true, false, true, true, false] rfl rfl kx (by decide) (fun K hK => ?_)
             refine goes_ Try.func99 kx rfl #[.int .i64 x9_2] (by rfl) rfl rfl aa ?_
             with_reducible refine (ephemerisref1_Greg.calls k2 x9_2 t285 t286 t287 _ A46.out).mono ?_
             rintro e w70 ⟨rfl, hb⟩
             refine ⟨_, rfl, ?_⟩
             have n0_ := bb BK263 hb
             have n1_ := bb BK271 hb
             have n2_ := bb BK272 hb
             have n3_ := Aside0.mk (below_step be hb)
             clear BK263
             clear BK271
             clear BK272
             clear HB
             have BK263 := n0_
             have BK271 := n1_
             have BK272 := n2_
             have HB := n3_
             clear n0_ n1_ n2_ n3_
             (try clear hb)
             (try clear hb2)
             (try clear hk)
             (try clear hi)
             refine hK.out _ _ ⟨(blk_cell BK272.out 0).trans rfl, (blk_cell BK272.out 1).trans rfl, (blk_cell BK272.out 2).trans rfl⟩ (fun hHeld => ?_)
             clear hK K
             refine norm_ (a' := ?_) ?_ ?_
             rotate_left
             ·show Act.put _ (some 91) _ = _
              simp only [Act.put, List.setIfInBounds_toArray, List.set_cons_zero, List.set_cons_succ, i64_w, i32_w]
              rfl
             refine pure_ (i := 2) (N := some 92) (v := ?_) (a' := ?_) #[true, true, true, true, true, false] rfl rfl kx (fun _ _ _ h => h) (Or.inl ⟨by rfl, ?_⟩) ?_ ?_
             rotate_left
             ·intro w'
              go_simp
              with_reducible rfl
             rotate_left
             ·simp only [Act.put, List.setIfInBounds_toArray, List.set_cons_zero, List.set_cons_succ, i64_w, i32_w]
              rfl
             refine pure_ (i := 5) (N := some 95) (v := ?_) (a' := ?_) #[true, true, true, true, true, true] rfl rfl kx (fun _ _ _ h => h) (Or.inl ⟨by rfl, ?_⟩) ?_ ?_
             rotate_left
             ·intro w'
              go_simp
              with_reducible rfl
             rotate_left
             ·simp only [Act.put, List.setIfInBounds_toArray, List.set_cons_zero, List.set_cons_succ, i64_w, i32_w]
              rfl
             refine done_ kx ?_
             have hnb71 := NB263_271.out
             have hnc71 := NB271_263.out
             have hnb72 := NB263_272.out
             have hnc72 := NB272_263.out
             obtain ⟨hcz73_0, hcz73_1, hcz73_2, hcz73_3, hcz73_4, hcz73_5, hcz73_6, hcz73_7, hfz73_0, hfz73_1, hfz73_2, hfz73_3, hfz73_4, hfz73_5, hfz73_6, hfz73_7⟩ := bc8 BK263
             try go_wp2
             go_ret
             exact ⟨by first | rfl | (simp [errW_none, errW_some] <;> rfl) | (simp [*, errW_none, errW_some] <;> rfl), be⟩
            ·rw [if_neg c68] at H
             have c68b0 : decide (0 < (l0_5.length : Int)) = false := decide_eq_false c68
             have c68b1 : decide (0 < l0_5.length) = false := decide_eq_false (by omega)
             clear c68
             by_cases c74 : a0_0 = 2
             ·rw [if_pos c74] at H
              have c74b0 : (a0_0 == 2) = true := beq_iff_eq.mpr c74
              have c74b1 : (a0_0 != 2) = false := bne_eq_false_iff_eq.mpr c74
              clear c74
              replace H := Option.bind_eq_some_iff.mp H
              obtain ⟨t290, A750, H⟩ := H
              replace H : ((ephemerisref1_Week.f k2 a0_2).bind fun t291 => (some (t290 == t291))) = some r := H
              have A75 := Aside0.mk A750
              clear A750
              replace H := Option.bind_eq_some_iff.mp H
              obtain ⟨t291, A760, H⟩ := H
              replace H : (some (t290 == t291)) = some r := H
              have A76 := Aside0.mk A760
              clear A760
              obtain rfl := Option.some.inj H
              try go_wp2
              obtain ⟨wq_, hq0_, hq_⟩ : ∃ q, q = wr ∧ World.drewN wr 0 = q := ⟨wr, rfl, rfl⟩
              rw [← hq0_]
              clear hq0_
              obtain ⟨nd_, hnd_⟩ : ∃ n_, World.drewN wr n_ = wq_ := ⟨_, hq_⟩
              clear hq_
              have t_ := blk_drewN BK263.out nd_
              rw [hnd_] at t_
              have m0_ := Aside0.mk t_
              clear t_
              have t_ := blk_drewN BK271.out nd_
              rw [hnd_] at t_
              have m1_ := Aside0.mk t_
              clear t_
              have t_ := blk_drewN BK272.out nd_
              rw [hnd_] at t_
              have m2_ := Aside0.mk t_
              clear t_
              have t_ := pw_below_drewN (n := nd_) HB.out
              rw [hnd_] at t_
              have mB_ := Aside0.mk t_
              clear t_ hnd_
              clear BK263 BK271 BK272 HB
              have BK263 := m0_
              have BK271 := m1_
              have BK272 := m2_
              have HB := mB_
              clear m0_ m1_ m2_ mB_
              have n0_ := Aside0.mk (blk_drew BK263.out)
              have n1_ := Aside0.mk (blk_drew BK271.out)
              have n2_ := Aside0.mk (blk_drew BK272.out)
              have n3_ := Aside0.mk (below_drew1 HB.out)
              clear BK263
              clear BK271
              clear BK272
              clear HB
              have BK263 := n0_
              have BK271 := n1_
              have BK272 := n2_
              have HB := n3_
              clear n0_ n1_ n2_ n3_
              refine start_ (n := 6) (S := fun w' => w'.cell? ⟨gb272, 0, none⟩ = some (.int .i64 t268) ∧ w'.cell? ⟨gb272, 1, none⟩ = some (.int .i64 t269) ∧ w'.cell? ⟨gb272, 2, none⟩ = some (.int .i64 t270)) (ds := []) #[false, false, false, false, false, false] kx rfl rfl ⟨(blk_cell BK272.out 0).trans rfl, (blk_cell BK272.out 1).trans rfl, (blk_cell BK272.out 2).trans rfl⟩ (fun hHeld => ?_)
              generalize wq_.drew = w77 at BK263 BK271 BK272 HB hHeld ⊢
              refine pure_ (i := 0) (N := some 90) (v := ?_) (a' := ?_) #[true, false, false, false, false, false] rfl rfl kx (fun _ _ _ h => h) (Or.inl ⟨by rfl, ?_⟩) ?_ ?_
              rotate_left
              ·intro w'
               go_simp
               with_reducible rfl
              rotate_left
              ·simp only [Act.put, List.setIfInBounds_toArray, List.set_cons_zero, List.set_cons_succ, i64_w, i32_w]
               rfl
              refine pure_ (i := 3) (N := some 93) (v := ?_) (a' := ?_) #[true, false, false, true, false, false] rfl rfl kx (fun _ _ _ h => h) (Or.inl ⟨by rfl, ?_⟩) ?_ ?_
              rotate_left
              ·intro w'
               go_simp
               with_reducible rfl
              rotate_left
              ·simp only [Act.put, List.setIfInBounds_toArray, List.set_cons_zero, List.set_cons_succ, i64_w, i32_w]
               rfl
              refine take_ (i := 4) (N := some 94) (v := ?_) (a' := ?_) #[true, false, false, true, true, false] rfl rfl kx (fun _ _ _ h => h) (Or.inl ⟨by rfl, ?_⟩) hHeld ?_ ?_
              rotate_left
              ·rintro w' ⟨s0, s1, s2⟩
               go_simp
               with_reducible rfl
              rotate_left
              ·simp only [Act.put, List.setIfInBounds_toArray, List.set_cons_zero, List.set_cons_succ, i64_w, i32_w]
               rfl
              refine one_ (i := 1) (N := some 91) #[true, true, false, true, true, false] rfl rfl kx (by decide) (fun K hK => ?_)
              refine goes_ Try.func99 kx rfl #[.int .i64 x9_2] (by rfl) rfl rfl aa ?_
              with_reducible refine (ephemerisref1_Greg.calls k2 x9_2 t285 t286 t287 _ A46.out).mono ?_
              rintro e w78 ⟨rfl, hb⟩
              refine ⟨_, rfl, ?_⟩
              have n0_ := bb BK263 hb
              have n1_ := bb BK271 hb
              have n2_ := bb BK272 hb
              have n3_ := Aside0.mk (below_step be hb)
              clear BK263
              clear BK271
              clear BK272
              clear HB
              have BK263 := n0_
              have BK271 := n1_
              have BK272 := n2_
              have HB := n3_
              clear n0_ n1_ n2_ n3_
              (try clear hb)
              (try clear hb2)
              (try clear hk)
              (try clear hi)
              refine hK.out _ _ ⟨(blk_cell BK272.out 0).trans rfl, (blk_cell BK272.out 1).trans rfl, (blk_cell BK272.out 2).trans rfl⟩ (fun hHeld => ?_)
              clear hK K
              refine norm_ (a' := ?_) ?_ ?_
              rotate_left
              ·show Act.put _ (some 91) _ = _
               simp only [Act.put, List.setIfInBounds_toArray, List.set_cons_zero, List.set_cons_succ, i64_w, i32_w]
               rfl
              refine pure_ (i := 2) (N := some 92) (v := ?_) (a' := ?_) #[true, true, true, true, true, false] rfl rfl kx (fun _ _ _ h => h) (Or.inl ⟨by rfl, ?_⟩) ?_ ?_
              rotate_left
              ·intro w'
               go_simp
               with_reducible rfl
              rotate_left
              ·simp only [Act.put, List.setIfInBounds_toArray, List.set_cons_zero, List.set_cons_succ, i64_w, i32_w]
               rfl
              refine pure_ (i := 5) (N := some 95) (v := ?_) (a' := ?_) #[true, true, true, true, true, true] rfl rfl kx (fun _ _ _ h => h) (Or.inl ⟨by rfl, ?_⟩) ?_ ?_
              rotate_left
              ·intro w'
               go_simp
               with_reducible rfl
              rotate_left
              ·simp only [Act.put, List.setIfInBounds_toArray, List.set_cons_zero, List.set_cons_succ, i64_w, i32_w]
               rfl
              refine done_ kx ?_
              have hnb79 := NB263_271.out
              have hnc79 := NB271_263.out
              have hnb80 := NB263_272.out
              have hnc80 := NB272_263.out
              obtain ⟨hcz81_0, hcz81_1, hcz81_2, hcz81_3, hcz81_4, hcz81_5, hcz81_6, hcz81_7, hfz81_0, hfz81_1, hfz81_2, hfz81_3, hfz81_4, hfz81_5, hfz81_6, hfz81_7⟩ := bc8 BK263
              try go_wp2
              obtain ⟨wq_, hq0_, hq_⟩ : ∃ q, q = w78 ∧ World.drewN w78 0 = q := ⟨w78, rfl, rfl⟩
              rw [← hq0_]
              clear hq0_
              obtain ⟨nd_, hnd_⟩ : ∃ n_, World.drewN w78 n_ = wq_ := ⟨_, hq_⟩
              clear hq_
              have t_ := blk_drewN BK263.out nd_
              rw [hnd_] at t_
              have m0_ := Aside0.mk t_
              clear t_
              have t_ := blk_drewN BK271.out nd_
              rw [hnd_] at t_
              have m1_ := Aside0.mk t_
              clear t_
              have t_ := blk_drewN BK272.out nd_
              rw [hnd_] at t_
              have m2_ := Aside0.mk t_
              clear t_
              have t_ := pw_below_drewN (n := nd_) HB.out
              rw [hnd_] at t_
              have mB_ := Aside0.mk t_
              clear t_ hnd_
              clear BK263 BK271 BK272 HB
              have BK263 := m0_
              have BK271 := m1_
              have BK272 := m2_
              have HB := mB_
              clear m0_ m1_ m2_ mB_
              have n0_ := Aside0.mk (blk_drew BK263.out)
              have n1_ := Aside0.mk (blk_drew BK271.out)
              have n2_ := Aside0.mk (blk_drew BK272.out)
              have n3_ := Aside0.mk (below_drew1 HB.out)
              clear BK263
              clear BK271
              clear BK272
              clear HB
              have BK263 := n0_
              have BK271 := n1_
              have BK272 := n2_
              have HB := n3_
              clear n0_ n1_ n2_ n3_
              refine start_ (n := 7) (S := fun w' => w'.cell? ⟨gb263, 0, none⟩ = some (.int .i64 a0_0) ∧ w'.cell? ⟨gb263, 1, none⟩ = some (.int .i64 a0_1) ∧ w'.cell? ⟨gb263, 2, none⟩ = some (.int .i64 a0_2) ∧ w'.cell? ⟨gb263, 3, none⟩ = some (.int .i64 a0_3) ∧ w'.cell? ⟨gb263, 4, none⟩ = some (.int .i64 a0_4) ∧ w'.cell? ⟨gb263, 5, none⟩ = some (.slice A0_5 l0_5.length c0_5) ∧ w'.cell? ⟨gb263, 6, none⟩ = some (.slice A0_6 l0_6.length c0_6) ∧ w'.cell? ⟨gb263, 7, none⟩ = some (.slice A0_7 l0_7.length c0_7)) (ds := []) #[false, false, false, false, false, false, false] kx rfl rfl ⟨(blk_cell BK263.out 0).trans rfl, (blk_cell BK263.out 1).trans rfl, (blk_cell BK263.out 2).trans rfl, (blk_cell BK263.out 3).trans rfl, (blk_cell BK263.out 4).trans rfl, (blk_cell BK263.out 5).trans rfl, (blk_cell BK263.out 6).trans rfl, (blk_cell BK263.out 7).trans rfl⟩ (fun hHeld => ?_)
              generalize wq_.drew = w82 at BK263 BK271 BK272 HB hHeld ⊢
              refine pure_ (i := 0) (N := some 123) (v := ?_) (a' := ?_) #[true, false, false, false, false, false, false] rfl rfl kx (fun _ _ _ h => h) (Or.inl ⟨by rfl, ?_⟩) ?_ ?_
              rotate_left
              ·intro w'
               go_simp
               with_reducible rfl
              rotate_left
              ·simp only [Act.put, List.setIfInBounds_toArray, List.set_cons_zero, List.set_cons_succ, i64_w, i32_w]
               rfl
              refine pure_ (i := 2) (N := some 125) (v := ?_) (a' := ?_) #[true, false, true, false, false, false, false] rfl rfl kx (fun _ _ _ h => h) (Or.inl ⟨by rfl, ?_⟩) ?_ ?_
              rotate_left
              ·intro w'
               go_simp
               with_reducible rfl
              rotate_left
              ·simp only [Act.put, List.setIfInBounds_toArray, List.set_cons_zero, List.set_cons_succ, i64_w, i32_w]
               rfl
              refine take_ (i := 3) (N := some 126) (v := ?_) (a' := ?_) #[true, false, true, true, false, false, false] rfl rfl kx (fun _ _ _ h => h) (Or.inl ⟨by rfl, ?_⟩) hHeld ?_ ?_
              rotate_left
              ·rintro w' ⟨s0, s1, s2, s3, s4, s5, s6, s7⟩
               go_simp
               with_reducible rfl
              rotate_left
              ·simp only [Act.put, List.setIfInBounds_toArray, List.set_cons_zero, List.set_cons_succ, i64_w, i32_w]
               rfl
              refine one_ (i := 1) (N := some 124) #[true, true, true, true, false, false, false] rfl rfl kx (by decide) (fun K hK => ?_)
              refine goes_ Try.func79 kx rfl #[.int .i64 a1] (by rfl) rfl rfl aa ?_
              with_reducible refine (ephemerisref1_Week.calls k2 a1 t290 _ A75.out).mono ?_
              rintro e w' ⟨rfl, ⟨nd, rfl⟩⟩
              refine ⟨_, rfl, ?_⟩
              refine hK.out _ _ ⟨(blk_cell BK263.out 0).trans rfl, (blk_cell BK263.out 1).trans rfl, (blk_cell BK263.out 2).trans rfl, (blk_cell BK263.out 3).trans rfl, (blk_cell BK263.out 4).trans rfl, (blk_cell BK263.out 5).trans rfl, (blk_cell BK263.out 6).trans rfl, (blk_cell BK263.out 7).trans rfl⟩ (fun hHeld => ?_)
              clear hK K
              refine norm_ (a' := ?_) ?_ ?_
              rotate_left
              ·show Act.put _ (some 124) _ = _
               simp only [Act.put, List.setIfInBounds_toArray, List.set_cons_zero, List.set_cons_succ, i64_w, i32_w]
               rfl
              refine one_ (i := 4) (N := some 127) #[true, true, true, true, true, false, false] rfl rfl kx (by decide) (fun K hK => ?_)
              refine goes_ Try.func79 kx rfl #[.int .i64 a0_2] (by rfl) rfl rfl aa ?_
              with_reducible refine (ephemerisref1_Week.calls k2 a0_2 t291 _ A76.out).mono ?_
              rintro e w' ⟨rfl, ⟨nd, rfl⟩⟩
              refine ⟨_, rfl, ?_⟩
              refine hK.out _ _ ⟨(blk_cell BK263.out 0).trans rfl, (blk_cell BK263.out 1).trans rfl, (blk_cell BK263.out 2).trans rfl, (blk_cell BK263.out 3).trans rfl, (blk_cell BK263.out 4).trans rfl, (blk_cell BK263.out 5).trans rfl, (blk_cell BK263.out 6).trans rfl, (blk_cell BK263.out 7).trans rfl⟩ (fun hHeld => ?_)
              clear hK K
              refine norm_ (a' := ?_) ?_ ?_
              rotate_left
              ·show Act.put _ (some 127) _ = _
               simp only [Act.put, List.setIfInBounds_toArray, List.set_cons_zero, List.set_cons_succ, i64_w, i32_w]
               rfl
              refine pure_ (i := 5) (N := some 128) (v := ?_) (a' := ?_) #[true, true, true, true, true, true, false] rfl rfl kx (fun _ _ _ h => h) (Or.inl ⟨by rfl, ?_⟩) ?_ ?_
              rotate_left
              ·intro w'
               go_simp
               with_reducible rfl
              rotate_left
              ·simp only [Act.put, List.setIfInBounds_toArray, List.set_cons_zero, List.set_cons_succ, i64_w, i32_w]
               rfl
              refine pure_ (i := 6) (N := some 4) (v := ?_) (a' := ?_) #[true, true, true, true, true, true, true] rfl rfl kx (fun _ _ _ h => h) (Or.inl ⟨by rfl, ?_⟩) ?_ ?_
              rotate_left
              ·intro w'
               go_simp
               with_reducible rfl
              rotate_left
              ·simp only [Act.put, List.setIfInBounds_toArray, List.set_cons_zero, List.set_cons_succ, i64_w, i32_w]
               rfl
              refine done_ kx ?_
              try go_wp2
              go_ret
              exact ⟨by first | rfl | (simp [errW_none, errW_some] <;> rfl) | (simp [*, errW_none, errW_some] <;> rfl), be⟩
             ·rw [if_neg c74] at H
              have c74b0 : (a0_0 == 2) = false := beq_eq_false_iff_ne.mpr c74
              have c74b1 : (a0_0 != 2) = true := bne_iff_ne.mpr c74
              by_cases c83 : a0_0 = 3
              ·rw [if_pos c83] at H
               have c83b0 : (a0_0 == 3) = true := beq_iff_eq.mpr c83
               have c83b1 : (a0_0 != 3) = false := bne_eq_false_iff_eq.mpr c83
               clear c83
               obtain rfl := Option.some.inj H
               try go_wp2
               obtain ⟨wq_, hq0_, hq_⟩ : ∃ q, q = wr ∧ World.drewN wr 0 = q := ⟨wr, rfl, rfl⟩
               rw [← hq0_]
               clear hq0_
               obtain ⟨nd_, hnd_⟩ : ∃ n_, World.drewN wr n_ = wq_ := ⟨_, hq_⟩
               clear hq_
               have t_ := blk_drewN BK263.out nd_
               rw [hnd_] at t_
               have m0_ := Aside0.mk t_
               clear t_
               have t_ := blk_drewN BK271.out nd_
               rw [hnd_] at t_
               have m1_ := Aside0.mk t_
               clear t_
               have t_ := blk_drewN BK272.out nd_
               rw [hnd_] at t_
               have m2_ := Aside0.mk t_
               clear t_
               have t_ := pw_below_drewN (n := nd_) HB.out
               rw [hnd_] at t_
               have mB_ := Aside0.mk t_
               clear t_ hnd_
               clear BK263 BK271 BK272 HB
               have BK263 := m0_
               have BK271 := m1_
               have BK272 := m2_
               have HB := mB_
               clear m0_ m1_ m2_ mB_
               have n0_ := Aside0.mk (blk_drew BK263.out)
               have n1_ := Aside0.mk (blk_drew BK271.out)
               have n2_ := Aside0.mk (blk_drew BK272.out)
               have n3_ := Aside0.mk (below_drew1 HB.out)
               clear BK263
               clear BK271
               clear BK272
               clear HB
               have BK263 := n0_
               have BK271 := n1_
               have BK272 := n2_
               have HB := n3_
               clear n0_ n1_ n2_ n3_
               refine start_ (n := 6) (S := fun w' => w'.cell? ⟨gb272, 0, none⟩ = some (.int .i64 t268) ∧ w'.cell? ⟨gb272, 1, none⟩ = some (.int .i64 t269) ∧ w'.cell? ⟨gb272, 2, none⟩ = some (.int .i64 t270)) (ds := []) #[false, false, false, false, false, false] kx rfl rfl ⟨(blk_cell BK272.out 0).trans rfl, (blk_cell BK272.out 1).trans rfl, (blk_cell BK272.out 2).trans rfl⟩ (fun hHeld => ?_)
               generalize wq_.drew = w84 at BK263 BK271 BK272 HB hHeld ⊢
               refine pure_ (i := 0) (N := some 90) (v := ?_) (a' := ?_) #[true, false, false, false, false, false] rfl rfl kx (fun _ _ _ h => h) (Or.inl ⟨by rfl, ?_⟩) ?_ ?_
               rotate_left
               ·intro w'
                go_simp
                with_reducible rfl
               rotate_left
               ·simp only [Act.put, List.setIfInBounds_toArray, List.set_cons_zero, List.set_cons_succ, i64_w, i32_w]
                rfl
               refine pure_ (i := 3) (N := some 93) (v := ?_) (a' := ?_) #[true, false, false, true, false, false] rfl rfl kx (fun _ _ _ h => h) (Or.inl ⟨by rfl, ?_⟩) ?_ ?_
               rotate_left
               ·intro w'
                go_simp
                with_reducible rfl
               rotate_left
               ·simp only [Act.put, List.setIfInBounds_toArray, List.set_cons_zero, List.set_cons_succ, i64_w, i32_w]
                rfl
               refine take_ (i := 4) (N := some 94) (v := ?_) (a' := ?_) #[true, false, false, true, true, false] rfl rfl kx (fun _ _ _ h => h) (Or.inl ⟨by rfl, ?_⟩) hHeld ?_ ?_
               rotate_left
               ·rintro w' ⟨s0, s1, s2⟩
                go_simp
                with_reducible rfl
               rotate_left
               ·simp only [Act.put, List.setIfInBounds_toArray, List.set_cons_zero, List.set_cons_succ, i64_w, i32_w]
                rfl
               refine one_ (i := 1) (N := some 91) #[true, true, false, true, true, false] rfl rfl kx (by decide) (fun K hK => ?_)
               refine goes_ Try.func99 kx rfl #[.int .i64 x9_2] (by rfl) rfl rfl aa ?_
               with_reducible refine (ephemerisref1_Greg.calls k2 x9_2 t285 t286 t287 _ A46.out).mono ?_
               rintro e w85 ⟨rfl, hb⟩
               refine ⟨_, rfl, ?_⟩
               have n0_ := bb BK263 hb
               have n1_ := bb BK271 hb
               have n2_ := bb BK272 hb
               have n3_ := Aside0.mk (below_step be hb)
               clear BK263
               clear BK271
               clear BK272
               clear HB
               have BK263 := n0_
               have BK271 := n1_
               have BK272 := n2_
               have HB := n3_
               clear n0_ n1_ n2_ n3_
               (try clear hb)
               (try clear hb2)
               (try clear hk)
               (try clear hi)
               refine hK.out _ _ ⟨(blk_cell BK272.out 0).trans rfl, (blk_cell BK272.out 1).trans rfl, (blk_cell BK272.out 2).trans rfl⟩ (fun hHeld => ?_)
               clear hK K
               refine norm_ (a' := ?_) ?_ ?_
               rotate_left
               ·show Act.put _ (some 91) _ = _
                simp only [Act.put, List.setIfInBounds_toArray, List.set_cons_zero, List.set_cons_succ, i64_w, i32_w]
                rfl
               refine pure_ (i := 2) (N := some 92) (v := ?_) (a' := ?_) #[true, true, true, true, true, false] rfl rfl kx (fun _ _ _ h => h) (Or.inl ⟨by rfl, ?_⟩) ?_ ?_
               rotate_left
               ·intro w'
                go_simp
                with_reducible rfl
               rotate_left
               ·simp only [Act.put, List.setIfInBounds_toArray, List.set_cons_zero, List.set_cons_succ, i64_w, i32_w]
                rfl
               refine pure_ (i := 5) (N := some 95) (v := ?_) (a' := ?_) #[true, true, true, true, true, true] rfl rfl kx (fun _ _ _ h => h) (Or.inl ⟨by rfl, ?_⟩) ?_ ?_
               rotate_left
               ·intro w'
                go_simp
                with_reducible rfl
               rotate_left
               ·simp only [Act.put, List.setIfInBounds_toArray, List.set_cons_zero, List.set_cons_succ, i64_w, i32_w]
                rfl
               refine done_ kx ?_
               have hnb86 := NB263_271.out
               have hnc86 := NB271_263.out
               have hnb87 := NB263_272.out
               have hnc87 := NB272_263.out
               obtain ⟨hcz88_0, hcz88_1, hcz88_2, hcz88_3, hcz88_4, hcz88_5, hcz88_6, hcz88_7, hfz88_0, hfz88_1, hfz88_2, hfz88_3, hfz88_4, hfz88_5, hfz88_6, hfz88_7⟩ := bc8 BK263
               have hnb89 := NB272_271.out
               have hnc89 := NB271_272.out
               obtain ⟨hcz90_0, hcz90_1, hcz90_2, hfz90_0, hfz90_1, hfz90_2⟩ := bc3 BK272
               obtain ⟨hcz91_0, hcz91_1, hcz91_2, hfz91_0, hfz91_1, hfz91_2⟩ := bc3 BK271
               try go_wp2
               go_ret
               exact ⟨by first | rfl | (simp [errW_none, errW_some] <;> rfl) | (simp [*, errW_none, errW_some] <;> rfl), be⟩
              ·rw [if_neg c83] at H
               have c83b0 : (a0_0 == 3) = false := beq_eq_false_iff_ne.mpr c83
               have c83b1 : (a0_0 != 3) = true := bne_iff_ne.mpr c83
               by_cases c92 : a0_0 = 4
               ·rw [if_pos c92] at H
                have c92b0 : (a0_0 == 4) = true := beq_iff_eq.mpr c92
                have c92b1 : (a0_0 != 4) = false := bne_eq_false_iff_eq.mpr c92
                clear c92
                by_cases c93 : t270 = t267
                ·rw [if_pos c93] at H
                 have c93b0 : (t270 == t267) = true := beq_iff_eq.mpr c93
                 have c93b1 : (t270 != t267) = false := bne_eq_false_iff_eq.mpr c93
                 clear c93
                 by_cases c94 : (l0_7.length : Int) > 0
                 ·rw [if_pos c94] at H
                  have c94b0 : decide (0 < (l0_7.length : Int)) = true := decide_eq_true c94
                  have c94b1 : decide (0 < l0_7.length) = true := decide_eq_true (by omega)
                  clear c94
                  obtain rfl := Option.some.inj H
                  try go_wp2
                  obtain ⟨wq_, hq0_, hq_⟩ : ∃ q, q = wr ∧ World.drewN wr 0 = q := ⟨wr, rfl, rfl⟩
                  rw [← hq0_]
                  clear hq0_
                  obtain ⟨nd_, hnd_⟩ : ∃ n_, World.drewN wr n_ = wq_ := ⟨_, hq_⟩
                  clear hq_
                  have t_ := blk_drewN BK263.out nd_
                  rw [hnd_] at t_
                  have m0_ := Aside0.mk t_
                  clear t_
                  have t_ := blk_drewN BK271.out nd_
                  rw [hnd_] at t_
                  have m1_ := Aside0.mk t_
                  clear t_
                  have t_ := blk_drewN BK272.out nd_
                  rw [hnd_] at t_
                  have m2_ := Aside0.mk t_
                  clear t_
                  have t_ := pw_below_drewN (n := nd_) HB.out
                  rw [hnd_] at t_
                  have mB_ := Aside0.mk t_
                  clear t_ hnd_
                  clear BK263 BK271 BK272 HB
                  have BK263 := m0_
                  have BK271 := m1_
                  have BK272 := m2_
                  have HB := mB_
                  clear m0_ m1_ m2_ mB_
                  have n0_ := Aside0.mk (blk_drew BK263.out)
                  have n1_ := Aside0.mk (blk_drew BK271.out)
                  have n2_ := Aside0.mk (blk_drew BK272.out)
                  have n3_ := Aside0.mk (below_drew1 HB.out)
                  clear BK263
                  clear BK271
                  clear BK272
                  clear HB
                  have BK263 := n0_
                  have BK271 := n1_
                  have BK272 := n2_
                  have HB := n3_
                  clear n0_ n1_ n2_ n3_
                  refine start_ (n := 6) (S := fun w' => w'.cell? ⟨gb272, 0, none⟩ = some (.int .i64 t268) ∧ w'.cell? ⟨gb272, 1, none⟩ = some (.int .i64 t269) ∧ w'.cell? ⟨gb272, 2, none⟩ = some (.int .i64 t270)) (ds := []) #[false, false, false, false, false, false] kx rfl rfl ⟨(blk_cell BK272.out 0).trans rfl, (blk_cell BK272.out 1).trans rfl, (blk_cell BK272.out 2).trans rfl⟩ (fun hHeld => ?_)
                  generalize wq_.drew = w95 at BK263 BK271 BK272 HB hHeld ⊢
                  refine pure_ (i := 0) (N := some 90) (v := ?_) (a' := ?_) #[true, false, false, false, false, false] rfl rfl kx (fun _ _ _ h => h) (Or.inl ⟨by rfl, ?_⟩) ?_ ?_
                  rotate_left
                  ·intro w'
                   go_simp
                   with_reducible rfl
                  rotate_left
                  ·simp only [Act.put, List.setIfInBounds_toArray, List.set_cons_zero, List.set_cons_succ, i64_w, i32_w]
                   rfl
                  refine pure_ (i := 3) (N := some 93) (v := ?_) (a' := ?_) #[true, false, false, true, false, false] rfl rfl kx (fun _ _ _ h => h) (Or.inl ⟨by rfl, ?_⟩) ?_ ?_
                  rotate_left
                  ·intro w'
                   go_simp
                   with_reducible rfl
                  rotate_left
                  ·simp only [Act.put, List.setIfInBounds_toArray, List.set_cons_zero, List.set_cons_succ, i64_w, i32_w]
                   rfl
                  refine take_ (i := 4) (N := some 94) (v := ?_) (a' := ?_) #[true, false, false, true, true, false] rfl rfl kx (fun _ _ _ h => h) (Or.inl ⟨by rfl, ?_⟩) hHeld ?_ ?_
                  rotate_left
                  ·rintro w' ⟨s0, s1, s2⟩
                   go_simp
                   with_reducible rfl
                  rotate_left
                  ·simp only [Act.put, List.setIfInBounds_toArray, List.set_cons_zero, List.set_cons_succ, i64_w, i32_w]
                   rfl
                  refine one_ (i := 1) (N := some 91) #[true, true, false, true, true, false] rfl rfl kx (by decide) (fun K hK => ?_)
                  refine goes_ Try.func99 kx rfl #[.int .i64 x9_2] (by rfl) rfl rfl aa ?_
                  with_reducible refine (ephemerisref1_Greg.calls k2 x9_2 t285 t286 t287 _ A46.out).mono ?_
                  rintro e w96 ⟨rfl, hb⟩
                  refine ⟨_, rfl, ?_⟩
                  have n0_ := bb BK263 hb
                  have n1_ := bb BK271 hb
                  have n2_ := bb BK272 hb
                  have n3_ := Aside0.mk (below_step be hb)
                  clear BK263
                  clear BK271
                  clear BK272
                  clear HB
                  have BK263 := n0_
                  have BK271 := n1_
                  have BK272 := n2_
                  have HB := n3_
                  clear n0_ n1_ n2_ n3_
                  (try clear hb)
                  (try clear hb2)
                  (try clear hk)
                  (try clear hi)
                  refine hK.out _ _ ⟨(blk_cell BK272.out 0).trans rfl, (blk_cell BK272.out 1).trans rfl, (blk_cell BK272.out 2).trans rfl⟩ (fun hHeld => ?_)
                  clear hK K
                  refine norm_ (a' := ?_) ?_ ?_
                  rotate_left
                  ·show Act.put _ (some 91) _ = _
                   simp only [Act.put, List.setIfInBounds_toArray, List.set_cons_zero, List.set_cons_succ, i64_w, i32_w]
                   rfl
                  refine pure_ (i := 2) (N := some 92) (v := ?_) (a' := ?_) #[true, true, true, true, true, false] rfl rfl kx (fun _ _ _ h => h) (Or.inl ⟨by rfl, ?_⟩) ?_ ?_
                  rotate_left
                  ·intro w'
                   go_simp
                   with_reducible rfl
                  rotate_left
                  ·simp only [Act.put, List.setIfInBounds_toArray, List.set_cons_zero, List.set_cons_succ, i64_w, i32_w]
                   rfl
                  refine pure_ (i := 5) (N := some 95) (v := ?_) (a' := ?_) #[true, true, true, true, true, true] rfl rfl kx (fun _ _ _ h => h) (Or.inl ⟨by rfl, ?_⟩) ?_ ?_
                  rotate_left
                  ·intro w'
                   go_simp
                   with_reducible rfl
                  rotate_left
                  ·simp only [Act.put, List.setIfInBounds_toArray, List.set_cons_zero, List.set_cons_succ, i64_w, i32_w]
                   rfl
                  refine done_ kx ?_
                  have hnb97 := NB263_271.out
                  have hnc97 := NB271_263.out
                  have hnb98 := NB263_272.out
                  have hnc98 := NB272_263.out
                  obtain ⟨hcz99_0, hcz99_1, hcz99_2, hcz99_3, hcz99_4, hcz99_5, hcz99_6, hcz99_7, hfz99_0, hfz99_1, hfz99_2, hfz99_3, hfz99_4, hfz99_5, hfz99_6, hfz99_7⟩ := bc8 BK263
                  have hnb100 := NB272_271.out
                  have hnc100 := NB271_272.out
                  obtain ⟨hcz101_0, hcz101_1, hcz101_2, hfz101_0, hfz101_1, hfz101_2⟩ := bc3 BK272
                  obtain ⟨hcz102_0, hcz102_1, hcz102_2, hfz102_0, hfz102_1, hfz102_2⟩ := bc3 BK271
                  try go_wp2
                  go_ret
                  exact ⟨by first | rfl | (simp [errW_none, errW_some] <;> rfl) | (simp [*, errW_none, errW_some] <;> rfl), be⟩
                 ·rw [if_neg c94] at H
                  have c94b0 : decide (0 < (l0_7.length : Int)) = false := decide_eq_false c94
                  have c94b1 : decide (0 < l0_7.length) = false := decide_eq_false (by omega)
                  clear c94
                  obtain rfl := Option.some.inj H
                  try go_wp2
                  obtain ⟨wq_, hq0_, hq_⟩ : ∃ q, q = wr ∧ World.drewN wr 0 = q := ⟨wr, rfl, rfl⟩
                  rw [← hq0_]
                  clear hq0_
                  obtain ⟨nd_, hnd_⟩ : ∃ n_, World.drewN wr n_ = wq_ := ⟨_, hq_⟩
                  clear hq_
                  have t_ := blk_drewN BK263.out nd_
                  rw [hnd_] at t_
                  have m0_ := Aside0.mk t_
                  clear t_
                  have t_ := blk_drewN BK271.out nd_
                  rw [hnd_] at t_
                  have m1_ := Aside0.mk t_
                  clear t_
                  have t_ := blk_drewN BK272.out nd_
                  rw [hnd_] at t_
                  have m2_ := Aside0.mk t_
                  clear t_
                  have t_ := pw_below_drewN (n := nd_) HB.out
                  rw [hnd_] at t_
                  have mB_ := Aside0.mk t_
                  clear t_ hnd_
                  clear BK263 BK271 BK272 HB
                  have BK263 := m0_
                  have BK271 := m1_
                  have BK272 := m2_
                  have HB := mB_
                  clear m0_ m1_ m2_ mB_
                  have n0_ := Aside0.mk (blk_drew BK263.out)
                  have n1_ := Aside0.mk (blk_drew BK271.out)
                  have n2_ := Aside0.mk (blk_drew BK272.out)
                  have n3_ := Aside0.mk (below_drew1 HB.out)
                  clear BK263
                  clear BK271
                  clear BK272
                  clear HB
                  have BK263 := n0_
                  have BK271 := n1_
                  have BK272 := n2_
                  have HB := n3_
                  clear n0_ n1_ n2_ n3_
                  refine start_ (n := 6) (S := fun w' => w'.cell? ⟨gb272, 0, none⟩ = some (.int .i64 t268) ∧ w'.cell? ⟨gb272, 1, none⟩ = some (.int .i64 t269) ∧ w'.cell? ⟨gb272, 2, none⟩ = some (.int .i64 t270)) (ds := []) #[false, false, false, false, false, false] kx rfl rfl ⟨(blk_cell BK272.out 0).trans rfl, (blk_cell BK272.out 1).trans rfl, (blk_cell BK272.out 2).trans rfl⟩ (fun hHeld => ?_)
                  generalize wq_.drew = w103 at BK263 BK271 BK272 HB hHeld ⊢
                  refine pure_ (i := 0) (N := some 90) (v := ?_) (a' := ?_) #[true, false, false, false, false, false] rfl rfl kx (fun _ _ _ h => h) (Or.inl ⟨by rfl, ?_⟩) ?_ ?_
                  rotate_left
                  ·intro w'
                   go_simp
                   with_reducible rfl
                  rotate_left
                  ·simp only [Act.put, List.setIfInBounds_toArray, List.set_cons_zero, List.set_cons_succ, i64_w, i32_w]
                   rfl
                  refine pure_ (i := 3) (N := some 93) (v := ?_) (a' := ?_) #[true, false, false, true, false, false] rfl rfl kx (fun _ _ _ h => h) (Or.inl ⟨by rfl, ?_⟩) ?_ ?_
                  rotate_left
                  ·intro w'
                   go_simp
                   with_reducible rfl
                  rotate_left
                  ·simp only [Act.put, List.setIfInBounds_toArray, List.set_cons_zero, List.set_cons_succ, i64_w, i32_w]
                   rfl
                  refine take_ (i := 4) (N := some 94) (v := ?_) (a' := ?_) #[true, false, false, true, true, false] rfl rfl kx (fun _ _ _ h => h) (Or.inl ⟨by rfl, ?_⟩) hHeld ?_ ?_
                  rotate_left
                  ·rintro w' ⟨s0, s1, s2⟩
                   go_simp
                   with_reducible rfl
                  rotate_left
                  ·simp only [Act.put, List.setIfInBounds_toArray, List.set_cons_zero, List.set_cons_succ, i64_w, i32_w]
                   rfl
                  refine one_ (i := 1) (N := some 91) #[true, true, false, true, true, false] rfl rfl kx (by decide) (fun K hK => ?_)
                  refine goes_ Try.func99 kx rfl #[.int .i64 x9_2] (by rfl) rfl rfl aa ?_
                  with_reducible refine (ephemerisref1_Greg.calls k2 x9_2 t285 t286 t287 _ A46.out).mono ?_
                  rintro e w104 ⟨rfl, hb⟩
                  refine ⟨_, rfl, ?_⟩
                  have n0_ := bb BK263 hb
                  have n1_ := bb BK271 hb
                  have n2_ := bb BK272 hb
                  have n3_ := Aside0.mk (below_step be hb)
                  clear BK263
                  clear BK271
                  clear BK272
                  clear HB
                  have BK263 := n0_
                  have BK271 := n1_
                  have BK272 := n2_
                  have HB := n3_
                  clear n0_ n1_ n2_ n3_
                  (try clear hb)
                  (try clear hb2)
                  (try clear hk)
                  (try clear hi)
                  refine hK.out _ _ ⟨(blk_cell BK272.out 0).trans rfl, (blk_cell BK272.out 1).trans rfl, (blk_cell BK272.out 2).trans rfl⟩ (fun hHeld => ?_)
                  clear hK K
                  refine norm_ (a' := ?_) ?_ ?_
                  rotate_left
                  ·show Act.put _ (some 91) _ = _
                   simp only [Act.put, List.setIfInBounds_toArray, List.set_cons_zero, List.set_cons_succ, i64_w, i32_w]
                   rfl
                  refine pure_ (i := 2) (N := some 92) (v := ?_) (a' := ?_) #[true, true, true, true, true, false] rfl rfl kx (fun _ _ _ h => h) (Or.inl ⟨by rfl, ?_⟩) ?_ ?_
                  rotate_left
                  ·intro w'
                   go_simp
                   with_reducible rfl
                  rotate_left
                  ·simp only [Act.put, List.setIfInBounds_toArray, List.set_cons_zero, List.set_cons_succ, i64_w, i32_w]
                   rfl
                  refine pure_ (i := 5) (N := some 95) (v := ?_) (a' := ?_) #[true, true, true, true, true, true] rfl rfl kx (fun _ _ _ h => h) (Or.inl ⟨by rfl, ?_⟩) ?_ ?_
                  rotate_left
                  ·intro w'
                   go_simp
                   with_reducible rfl
                  rotate_left
                  ·simp only [Act.put, List.setIfInBounds_toArray, List.set_cons_zero, List.set_cons_succ, i64_w, i32_w]
                   rfl
                  refine done_ kx ?_
                  have hnb105 := NB263_271.out
                  have hnc105 := NB271_263.out
                  have hnb106 := NB263_272.out
                  have hnc106 := NB272_263.out
                  obtain ⟨hcz107_0, hcz107_1, hcz107_2, hcz107_3, hcz107_4, hcz107_5, hcz107_6, hcz107_7, hfz107_0, hfz107_1, hfz107_2, hfz107_3, hfz107_4, hfz107_5, hfz107_6, hfz107_7⟩ := bc8 BK263
                  have hnb108 := NB272_271.out
                  have hnc108 := NB271_272.out
                  obtain ⟨hcz109_0, hcz109_1, hcz109_2, hfz109_0, hfz109_1, hfz109_2⟩ := bc3 BK272
                  obtain ⟨hcz110_0, hcz110_1, hcz110_2, hfz110_0, hfz110_1, hfz110_2⟩ := bc3 BK271
                  try go_wp2
                  go_ret
                  exact ⟨by first | rfl | (simp [errW_none, errW_some] <;> rfl) | (simp [*, errW_none, errW_some] <;> rfl), be⟩
                ·rw [if_neg c93] at H
                 have c93b0 : (t270 == t267) = false := beq_eq_false_iff_ne.mpr c93
                 have c93b1 : (t270 != t267) = true := bne_iff_ne.mpr c93
                 obtain rfl := Option.some.inj H
                 try go_wp2
                 obtain ⟨wq_, hq0_, hq_⟩ : ∃ q, q = wr ∧ World.drewN wr 0 = q := ⟨wr, rfl, rfl⟩
                 rw [← hq0_]
                 clear hq0_
                 obtain ⟨nd_, hnd_⟩ : ∃ n_, World.drewN wr n_ = wq_ := ⟨_, hq_⟩
                 clear hq_
                 have t_ := blk_drewN BK263.out nd_
                 rw [hnd_] at t_
                 have m0_ := Aside0.mk t_
                 clear t_
                 have t_ := blk_drewN BK271.out nd_
                 rw [hnd_] at t_
                 have m1_ := Aside0.mk t_
                 clear t_
                 have t_ := blk_drewN BK272.out nd_
                 rw [hnd_] at t_
                 have m2_ := Aside0.mk t_
                 clear t_
                 have t_ := pw_below_drewN (n := nd_) HB.out
                 rw [hnd_] at t_
                 have mB_ := Aside0.mk t_
                 clear t_ hnd_
                 clear BK263 BK271 BK272 HB
                 have BK263 := m0_
                 have BK271 := m1_
                 have BK272 := m2_
                 have HB := mB_
                 clear m0_ m1_ m2_ mB_
                 have n0_ := Aside0.mk (blk_drew BK263.out)
                 have n1_ := Aside0.mk (blk_drew BK271.out)
                 have n2_ := Aside0.mk (blk_drew BK272.out)
                 have n3_ := Aside0.mk (below_drew1 HB.out)
                 clear BK263
                 clear BK271
                 clear BK272
                 clear HB
                 have BK263 := n0_
                 have BK271 := n1_
                 have BK272 := n2_
                 have HB := n3_
                 clear n0_ n1_ n2_ n3_
                 refine start_ (n := 6) (S := fun w' => w'.cell? ⟨gb272, 0, none⟩ = some (.int .i64 t268) ∧ w'.cell? ⟨gb272, 1, none⟩ = some (.int .i64 t269) ∧ w'.cell? ⟨gb272, 2, none⟩ = some (.int .i64 t270)) (ds := []) #[false, false, false, false, false, false] kx rfl rfl ⟨(blk_cell BK272.out 0).trans rfl, (blk_cell BK272.out 1).trans rfl, (blk_cell BK272.out 2).trans rfl⟩ (fun hHeld => ?_)
                 generalize wq_.drew = w111 at BK263 BK271 BK272 HB hHeld ⊢
                 refine pure_ (i := 0) (N := some 90) (v := ?_) (a' := ?_) #[true, false, false, false, false, false] rfl rfl kx (fun _ _ _ h => h) (Or.inl ⟨by rfl, ?_⟩) ?_ ?_
                 rotate_left
                 ·intro w'
                  go_simp
                  with_reducible rfl
                 rotate_left
                 ·simp only [Act.put, List.setIfInBounds_toArray, List.set_cons_zero, List.set_cons_succ, i64_w, i32_w]
                  rfl
                 refine pure_ (i := 3) (N := some 93) (v := ?_) (a' := ?_) #[true, false, false, true, false, false] rfl rfl kx (fun _ _ _ h => h) (Or.inl ⟨by rfl, ?_⟩) ?_ ?_
                 rotate_left
                 ·intro w'
                  go_simp
                  with_reducible rfl
                 rotate_left
                 ·simp only [Act.put, List.setIfInBounds_toArray, List.set_cons_zero, List.set_cons_succ, i64_w, i32_w]
                  rfl
                 refine take_ (i := 4) (N := some 94) (v := ?_) (a' := ?_) #[true, false, false, true, true, false] rfl rfl kx (fun _ _ _ h => h) (Or.inl ⟨by rfl, ?_⟩) hHeld ?_ ?_
                 rotate_left
                 ·rintro w' ⟨s0, s1, s2⟩
                  go_simp
                  with_reducible rfl
                 rotate_left
                 ·simp only [Act.put, List.setIfInBounds_toArray, List.set_cons_zero, List.set_cons_succ, i64_w, i32_w]
                  rfl
                 refine one_ (i := 1) (N := some 91) #[true, true, false, true, true, false] rfl rfl kx (by decide) (fun K hK => ?_)
                 refine goes_ Try.func99 kx rfl #[.int .i64 x9_2] (by rfl) rfl rfl aa ?_
                 with_reducible refine (ephemerisref1_Greg.calls k2 x9_2 t285 t286 t287 _ A46.out).mono ?_
                 rintro e w112 ⟨rfl, hb⟩
                 refine ⟨_, rfl, ?_⟩
                 have n0_ := bb BK263 hb
                 have n1_ := bb BK271 hb
                 have n2_ := bb BK272 hb
                 have n3_ := Aside0.mk (below_step be hb)
                 clear BK263
                 clear BK271
                 clear BK272
                 clear HB
                 have BK263 := n0_
                 have BK271 := n1_
                 have BK272 := n2_
                 have HB := n3_
                 clear n0_ n1_ n2_ n3_
                 (try clear hb)
                 (try clear hb2)
                 (try clear hk)
                 (try clear hi)
                 refine hK.out _ _ ⟨(blk_cell BK272.out 0).trans rfl, (blk_cell BK272.out 1).trans rfl, (blk_cell BK272.out 2).trans rfl⟩ (fun hHeld => ?_)
                 clear hK K
                 refine norm_ (a' := ?_) ?_ ?_
                 rotate_left
                 ·show Act.put _ (some 91) _ = _
                  simp only [Act.put, List.setIfInBounds_toArray, List.set_cons_zero, List.set_cons_succ, i64_w, i32_w]
                  rfl
                 refine pure_ (i := 2) (N := some 92) (v := ?_) (a' := ?_) #[true, true, true, true, true, false] rfl rfl kx (fun _ _ _ h => h) (Or.inl ⟨by rfl, ?_⟩) ?_ ?_
                 rotate_left
                 ·intro w'
                  go_simp
                  with_reducible rfl
                 rotate_left
                 ·simp only [Act.put, List.setIfInBounds_toArray, List.set_cons_zero, List.set_cons_succ, i64_w, i32_w]
                  rfl
                 refine pure_ (i := 5) (N := some 95) (v := ?_) (a' := ?_) #[true, true, true, true, true, true] rfl rfl kx (fun _ _ _ h => h) (Or.inl ⟨by rfl, ?_⟩) ?_ ?_
                 rotate_left
                 ·intro w'
                  go_simp
                  with_reducible rfl
                 rotate_left
                 ·simp only [Act.put, List.setIfInBounds_toArray, List.set_cons_zero, List.set_cons_succ, i64_w, i32_w]
                  rfl
                 refine done_ kx ?_
                 have hnb113 := NB263_271.out
                 have hnc113 := NB271_263.out
                 have hnb114 := NB263_272.out
                 have hnc114 := NB272_263.out
                 obtain ⟨hcz115_0, hcz115_1, hcz115_2, hcz115_3, hcz115_4, hcz115_5, hcz115_6, hcz115_7, hfz115_0, hfz115_1, hfz115_2, hfz115_3, hfz115_4, hfz115_5, hfz115_6, hfz115_7⟩ := bc8 BK263
                 have hnb116 := NB272_271.out
                 have hnc116 := NB271_272.out
                 obtain ⟨hcz117_0, hcz117_1, hcz117_2, hfz117_0, hfz117_1, hfz117_2⟩ := bc3 BK272
                 obtain ⟨hcz118_0, hcz118_1, hcz118_2, hfz118_0, hfz118_1, hfz118_2⟩ := bc3 BK271
                 try go_wp2
                 go_ret
                 exact ⟨by first | rfl | (simp [errW_none, errW_some] <;> rfl) | (simp [*, errW_none, errW_some] <;> rfl), be⟩
               ·rw [if_neg c92] at H
                have c92b0 : (a0_0 == 4) = false := beq_eq_false_iff_ne.mpr c92
                have c92b1 : (a0_0 != 4) = true := bne_iff_ne.mpr c92
                obtain rfl := Option.some.inj H
                try go_wp2
                obtain ⟨wq_, hq0_, hq_⟩ : ∃ q, q = wr ∧ World.drewN wr 0 = q := ⟨wr, rfl, rfl⟩
                rw [← hq0_]
                clear hq0_
                obtain ⟨nd_, hnd_⟩ : ∃ n_, World.drewN wr n_ = wq_ := ⟨_, hq_⟩
                clear hq_
                have t_ := blk_drewN BK263.out nd_
                rw [hnd_] at t_
                have m0_ := Aside0.mk t_
                clear t_
                have t_ := blk_drewN BK271.out nd_
                rw [hnd_] at t_
                have m1_ := Aside0.mk t_
                clear t_
                have t_ := blk_drewN BK272.out nd_
                rw [hnd_] at t_
                have m2_ := Aside0.mk t_
                clear t_
                have t_ := pw_below_drewN (n := nd_) HB.out
                rw [hnd_] at t_
                have mB_ := Aside0.mk t_
                clear t_ hnd_
                clear BK263 BK271 BK272 HB
                have BK263 := m0_
                have BK271 := m1_
                have BK272 := m2_
                have HB := mB_
                clear m0_ m1_ m2_ mB_
                have n0_ := Aside0.mk (blk_drew BK263.out)
                have n1_ := Aside0.mk (blk_drew BK271.out)
                have n2_ := Aside0.mk (blk_drew BK272.out)
                have n3_ := Aside0.mk (below_drew1 HB.out)
                clear BK263
                clear BK271
                clear BK272
                clear HB
                have BK263 := n0_
                have BK271 := n1_
                have BK272 := n2_
                have HB := n3_
                clear n0_ n1_ n2_ n3_
                refine start_ (n := 6) (S := fun w' => w'.cell? ⟨gb272, 0, none⟩ = some (.int .i64 t268) ∧ w'.cell? ⟨gb272, 1, none⟩ = some (.int .i64 t269) ∧ w'.cell? ⟨gb272, 2, none⟩ = some (.int .i64 t270)) (ds := []) #[false, false, false, false, false, false] kx rfl rfl ⟨(blk_cell BK272.out 0).trans rfl, (blk_cell BK272.out 1).trans rfl, (blk_cell BK272.out 2).trans rfl⟩ (fun hHeld => ?_)
                generalize wq_.drew = w119 at BK263 BK271 BK272 HB hHeld ⊢
                refine pure_ (i := 0) (N := some 90) (v := ?_) (a' := ?_) #[true, false, false, false, false, false] rfl rfl kx (fun _ _ _ h => h) (Or.inl ⟨by rfl, ?_⟩) ?_ ?_
                rotate_left
                ·intro w'
                 go_simp
                 with_reducible rfl
                rotate_left
                ·simp only [Act.put, List.setIfInBounds_toArray, List.set_cons_zero, List.set_cons_succ, i64_w, i32_w]
                 rfl
                refine pure_ (i := 3) (N := some 93) (v := ?_) (a' := ?_) #[true, false, false, true, false, false] rfl rfl kx (fun _ _ _ h => h) (Or.inl ⟨by rfl, ?_⟩) ?_ ?_
                rotate_left
                ·intro w'
                 go_simp
                 with_reducible rfl
                rotate_left
                ·simp only [Act.put, List.setIfInBounds_toArray, List.set_cons_zero, List.set_cons_succ, i64_w, i32_w]
                 rfl
                refine take_ (i := 4) (N := some 94) (v := ?_) (a' := ?_) #[true, false, false, true, true, false] rfl rfl kx (fun _ _ _ h => h) (Or.inl ⟨by rfl, ?_⟩) hHeld ?_ ?_
                rotate_left
                ·rintro w' ⟨s0, s1, s2⟩
                 go_simp
                 with_reducible rfl
                rotate_left
                ·simp only [Act.put, List.setIfInBounds_toArray, List.set_cons_zero, List.set_cons_succ, i64_w, i32_w]
                 rfl
                refine one_ (i := 1) (N := some 91) #[true, true, false, true, true, false] rfl rfl kx (by decide) (fun K hK => ?_)
                refine goes_ Try.func99 kx rfl #[.int .i64 x9_2] (by rfl) rfl rfl aa ?_
                with_reducible refine (ephemerisref1_Greg.calls k2 x9_2 t285 t286 t287 _ A46.out).mono ?_
                rintro e w120 ⟨rfl, hb⟩
                refine ⟨_, rfl, ?_⟩
                have n0_ := bb BK263 hb
                have n1_ := bb BK271 hb
                have n2_ := bb BK272 hb
                have n3_ := Aside0.mk (below_step be hb)
                clear BK263
                clear BK271
                clear BK272
                clear HB
                have BK263 := n0_
                have BK271 := n1_
                have BK272 := n2_
                have HB := n3_
                clear n0_ n1_ n2_ n3_
                (try clear hb)
                (try clear hb2)
                (try clear hk)
                (try clear hi)
                refine hK.out _ _ ⟨(blk_cell BK272.out 0).trans rfl, (blk_cell BK272.out 1).trans rfl, (blk_cell BK272.out 2).trans rfl⟩ (fun hHeld => ?_)
                clear hK K
                refine norm_ (a' := ?_) ?_ ?_
                rotate_left
                ·show Act.put _ (some 91) _ = _
                 simp only [Act.put, List.setIfInBounds_toArray, List.set_cons_zero, List.set_cons_succ, i64_w, i32_w]
                 rfl
                refine pure_ (i := 2) (N := some 92) (v := ?_) (a' := ?_) #[true, true, true, true, true, false] rfl rfl kx (fun _ _ _ h => h) (Or.inl ⟨by rfl, ?_⟩) ?_ ?_
                rotate_left
                ·intro w'
                 go_simp
                 with_reducible rfl
                rotate_left
                ·simp only [Act.put, List.setIfInBounds_toArray, List.set_cons_zero, List.set_cons_succ, i64_w, i32_w]
                 rfl
                refine pure_ (i := 5) (N := some 95) (v := ?_) (a' := ?_) #[true, true, true, true, true, true] rfl rfl kx (fun _ _ _ h => h) (Or.inl ⟨by rfl, ?_⟩) ?_ ?_
                rotate_left
                ·intro w'
                 go_simp
                 with_reducible rfl
                rotate_left
                ·simp only [Act.put, List.setIfInBounds_toArray, List.set_cons_zero, List.set_cons_succ, i64_w, i32_w]
                 rfl
                refine done_ kx ?_
                have hnb121 := NB263_271.out
                have hnc121 := NB271_263.out
                have hnb122 := NB263_272.out
                have hnc122 := NB272_263.out
                obtain ⟨hcz123_0, hcz123_1, hcz123_2, hcz123_3, hcz123_4, hcz123_5, hcz123_6, hcz123_7, hfz123_0, hfz123_1, hfz123_2, hfz123_3, hfz123_4, hfz123_5, hfz123_6, hfz123_7⟩ := bc8 BK263
                try go_wp2
                go_ret
                exact ⟨by first | rfl | (simp [errW_none, errW_some] <;> rfl) | (simp [*, errW_none, errW_some] <;> rfl), be⟩
    ·rw [if_neg c12] at H
     have c12b0 : (t279 == 0) = false := beq_eq_false_iff_ne.mpr c12
     have c12b1 : (t279 != 0) = true := bne_iff_ne.mpr c12
     obtain rfl := Option.some.inj H
     go_enter Try.func60, Try.ntmps60
     try go_wp2_with (first | ((with_reducible refine gate_dst (N := 2) rfl ?_); (try (refine gate_guard (by rfl) ?_; dsimp only)); refine box_event ?hg (N := 2) ?hd (cs := #[.int .i64 a0_0, .int .i64 a0_1, .int .i64 a0_2, .int .i64 a0_3, .int .i64 a0_4, .slice A0_5 l0_5.length c0_5, .slice A0_6 l0_6.length c0_6, .slice A0_7 l0_7.length c0_7]) (t := 33) ?hr ?_; (case hd => rfl); (case hg => rfl); (case hr => first | (go_simp; done) | (go_simp; rfl)); intro gb263 hg w124 hbox hb; have n0_ := Aside0.mk (below_step be hb); have n1_ := Aside0.mk (hbox); have n2_ := gs hg HB; have n3_ := n2_; clear HB; have HB := n0_; have BK263 := n1_; have GW263 := n2_; have GE263 := n3_; clear n0_ n1_ n2_ n3_; clear hb hbox hg; obtain ⟨hcz125_0, hcz125_1, hcz125_2, hcz125_3, hcz125_4, hcz125_5, hcz125_6, hcz125_7, hfz125_0, hfz125_1, hfz125_2, hfz125_3, hfz125_4, hfz125_5, hfz125_6, hfz125_7⟩ := bc8 BK263) | ((with_reducible refine gate_callee (f := 21) rfl ?_); refine goesL_ (some 15) rfl rfl Try.func21 kx rfl #[.int .i64 a1, .int .i64 a0_2, .int .i64 a0_4] rfl aa ?_; (with_reducible refine (ephemerisref1_In.calls a1 a0_2 a0_4 true _ A3.out).mono ?_); rintro e w' ⟨rfl, ⟨nd, rfl⟩⟩; refine ⟨_, rfl, ?_⟩; (try (rw [drewN_self w124]; generalize hq_ : World.drewN w124 _ = w124; have n0_ : Aside0 (w124.heap[gb263]? = some (.cells #[.int .i64 a0_0, .int .i64 a0_1, .int .i64 a0_2, .int .i64 a0_3, .int .i64 a0_4, .slice A0_5 l0_5.length c0_5, .slice A0_6 l0_6.length c0_6, .slice A0_7 l0_7.length c0_7] 33 (0, 0))) := ⟨by rw [← hq_]; exact (bk BK263)⟩; have n1_ : Aside0 (Below w.heap.size w w124) := ⟨by rw [← hq_]; exact be⟩; clear BK263 HB hq_; have BK263 := n0_; have HB := n1_; clear n0_ n1_; obtain ⟨hgz263_0, hgf263_0⟩ := bc1 BK263; have hgz263_1 : w124.cell? ⟨gb263, 1, none⟩ = some (.int .i64 a0_1) := (blk_cell BK263.out 1).trans rfl; have hgf263_1 := blk_frozen BK263.out 1; have hgz263_2 : w124.cell? ⟨gb263, 2, none⟩ = some (.int .i64 a0_2) := (blk_cell BK263.out 2).trans rfl; have hgf263_2 := blk_frozen BK263.out 2; have hgz263_3 : w124.cell? ⟨gb263, 3, none⟩ = some (.int .i64 a0_3) := (blk_cell BK263.out 3).trans rfl; have hgf263_3 := blk_frozen BK263.out 3; have hgz263_4 : w124.cell? ⟨gb263, 4, none⟩ = some (.int .i64 a0_4) := (blk_cell BK263.out 4).trans rfl; have hgf263_4 := blk_frozen BK263.out 4; have hgz263_5 : w124.cell? ⟨gb263, 5, none⟩ = some (.slice A0_5 l0_5.length c0_5) := (blk_cell BK263.out 5).trans rfl; have hgf263_5 := blk_frozen BK263.out 5; have hgz263_6 : w124.cell? ⟨gb263, 6, none⟩ = some (.slice A0_6 l0_6.length c0_6) := (blk_cell BK263.out 6).trans rfl; have hgf263_6 := blk_frozen BK263.out 6; have hgz263_7 : w124.cell? ⟨gb263, 7, none⟩ = some (.slice A0_7 l0_7.length c0_7) := (blk_cell BK263.out 7).trans rfl; have hgf263_7 := blk_frozen BK263.out 7))) | ((with_reducible refine gate_callee (f := 99) rfl ?_); refine goesL_ (some 19) rfl rfl Try.func99 kx rfl #[.int .i64 a0_2] rfl aa ?_; (with_reducible refine (ephemerisref1_Greg.calls k a0_2 t265 t266 t267 _ A5.out).mono ?_); rintro e w126 ⟨rfl, hb⟩; refine ⟨_, rfl, ?_⟩; have n0_ := bb BK263 hb; have n1_ := Aside0.mk (below_step be hb); clear BK263; clear HB; have BK263 := n0_; have HB := n1_; clear n0_ n1_; (try clear hb); (try clear hb2); (try clear hk); (try clear hi)) | ((with_reducible refine gate_callee (f := 99) rfl ?_); refine goesL_ (some 21) rfl rfl Try.func99 kx rfl #[.int .i64 a1] rfl aa ?_; (with_reducible refine (ephemerisref1_Greg.calls k a1 t268 t269 t270 _ A6.out).mono ?_); rintro e w127 ⟨rfl, hb⟩; refine ⟨_, rfl, ?_⟩; have n0_ := bb BK263 hb; have n1_ := Aside0.mk (below_step be hb); clear BK263; clear HB; have BK263 := n0_; have HB := n1_; clear n0_ n1_; (try clear hb); (try clear hb2); (try clear hk); (try clear hi)) | ((with_reducible refine gate_dst (N := 5) rfl ?_); (try (refine gate_guard (by rfl) ?_; dsimp only)); refine box_event ?hg (N := 5) ?hd (cs := #[.int .i64 0, .int .i64 0, .int .i64 0]) (t := 107) ?hr ?_; (case hd => rfl); (case hg => rfl); (case hr => first | (go_simp; done) | (go_simp; rfl)); intro gb271 hg w128 hbox hb; have n0_ := bb BK263 hb; have n1_ := Aside0.mk (below_step be hb); have n2_ := Aside0.mk (hbox); have n3_ := gs hg HB; have n4_ := n3_; have n5_ := nl BK263 hg; have n6_ := ns n5_; clear BK263; clear HB; have BK263 := n0_; have HB := n1_; have BK271 := n2_; have GW271 := n3_; have GE271 := n4_; have NB263_271 := n5_; have NB271_263 := n6_; clear n0_ n1_ n2_ n3_ n4_ n5_ n6_; clear hb hbox hg) | ((with_reducible refine gate_dst (N := 6) rfl ?_); (try (refine gate_guard (by rfl) ?_; dsimp only)); refine box_event ?hg (N := 6) ?hd (cs := #[.int .i64 0, .int .i64 0, .int .i64 0]) (t := 107) ?hr ?_; (case hd => rfl); (case hg => rfl); (case hr => first | (go_simp; done) | (go_simp; rfl)); intro gb272 hg w129 hbox hb; have n0_ := bb BK263 hb; have n1_ := bb BK271 hb; have n2_ := Aside0.mk (below_step be hb); have n3_ := Aside0.mk (hbox); have n4_ := gs hg HB; have n5_ := n4_; have n6_ := nl BK263 hg; have n7_ := ns n6_; have n8_ := nl BK271 hg; have n9_ := ns n8_; clear BK263; clear BK271; clear HB; have BK263 := n0_; have BK271 := n1_; have HB := n2_; have BK272 := n3_; have GW272 := n4_; have GE272 := n5_; have NB263_272 := n6_; have NB272_263 := n7_; have NB271_272 := n8_; have NB272_271 := n9_; clear n0_ n1_ n2_ n3_ n4_ n5_ n6_ n7_ n8_ n9_; clear hb hbox hg; have hnb130 := NB271_263.out; have hnc130 := NB263_271.out; have hnb131 := NB271_272.out; have hnc131 := NB272_271.out; obtain ⟨hcz132_0, hcz132_1, hcz132_2, hfz132_0, hfz132_1, hfz132_2⟩ := bc3 BK271; have hnb133 := NB272_263.out; have hnc133 := NB263_272.out; obtain ⟨hcz134_0, hcz134_1, hcz134_2, hfz134_0, hfz134_1, hfz134_2⟩ := bc3 BK272))
     have pi278 : (0 ≤ (a0_0 : Int)) = True := eq_true (of_decide_eq_true ka)
     have qi278 : (a0_0 < (y275.length : Int)) = True := eq_true (of_decide_eq_true ka)
     have n0_ : Aside0 (((((((w129.setCell ⟨gb271, 0, none⟩ (.int .i64 t265)).setCell ⟨gb271, 1, none⟩ (.int .i64 t266)).setCell ⟨gb271, 2, none⟩ (.int .i64 t267)).setCell ⟨gb272, 0, none⟩ (.int .i64 t268)).setCell ⟨gb272, 1, none⟩ (.int .i64 t269)).setCell ⟨gb272, 2, none⟩ (.int .i64 t270)).heap[gb263]? = some (.cells #[.int .i64 a0_0, .int .i64 a0_1, .int .i64 a0_2, .int .i64 a0_3, .int .i64 a0_4, .slice A0_5 l0_5.length c0_5, .slice A0_6 l0_6.length c0_6, .slice A0_7 l0_7.length c0_7] 33 (0, 0))) := ⟨bk BK263⟩
     have n1_ : Aside0 (((((((w129.setCell ⟨gb271, 0, none⟩ (.int .i64 t265)).setCell ⟨gb271, 1, none⟩ (.int .i64 t266)).setCell ⟨gb271, 2, none⟩ (.int .i64 t267)).setCell ⟨gb272, 0, none⟩ (.int .i64 t268)).setCell ⟨gb272, 1, none⟩ (.int .i64 t269)).setCell ⟨gb272, 2, none⟩ (.int .i64 t270)).heap[gb271]? = some (.cells #[.int .i64 t265, .int .i64 t266, .int .i64 t267] 107 (0, 0))) := ⟨bk BK271⟩
     have n2_ : Aside0 (((((((w129.setCell ⟨gb271, 0, none⟩ (.int .i64 t265)).setCell ⟨gb271, 1, none⟩ (.int .i64 t266)).setCell ⟨gb271, 2, none⟩ (.int .i64 t267)).setCell ⟨gb272, 0, none⟩ (.int .i64 t268)).setCell ⟨gb272, 1, none⟩ (.int .i64 t269)).setCell ⟨gb272, 2, none⟩ (.int .i64 t270)).heap[gb272]? = some (.cells #[.int .i64 t268, .int .i64 t269, .int .i64 t270] 107 (0, 0))) := ⟨bk BK272⟩
     have n3_ : Aside0 (Below w.heap.size w ((((((w129.setCell ⟨gb271, 0, none⟩ (.int .i64 t265)).setCell ⟨gb271, 1, none⟩ (.int .i64 t266)).setCell ⟨gb271, 2, none⟩ (.int .i64 t267)).setCell ⟨gb272, 0, none⟩ (.int .i64 t268)).setCell ⟨gb272, 1, none⟩ (.int .i64 t269)).setCell ⟨gb272, 2, none⟩ (.int .i64 t270))) := ⟨be⟩
     (try clear BK263)
     (try clear BK271)
     (try clear BK272)
     (try clear HB)
     generalize ((((((w129.setCell ⟨gb271, 0, none⟩ (.int .i64 t265)).setCell ⟨gb271, 1, none⟩ (.int .i64 t266)).setCell ⟨gb271, 2, none⟩ (.int .i64 t267)).setCell ⟨gb272, 0, none⟩ (.int .i64 t268)).setCell ⟨gb272, 1, none⟩ (.int .i64 t269)).setCell ⟨gb272, 2, none⟩ (.int .i64 t270)) = w135 at n0_ n1_ n2_ n3_ ⊢
     have BK263 := n0_
     have BK271 := n1_
     have BK272 := n2_
     have HB := n3_
     clear n0_ n1_ n2_ n3_
     have n0_ := Aside0.mk (blk_drew BK263.out)
     have n1_ := Aside0.mk (blk_drew BK271.out)
     have n2_ := Aside0.mk (blk_drew BK272.out)
     have n3_ := Aside0.mk (below_drew1 HB.out)
     clear BK263
     clear BK271
     clear BK272
     clear HB
     have BK263 := n0_
     have BK271 := n1_
     have BK272 := n2_
     have HB := n3_
     clear n0_ n1_ n2_ n3_
     refine start_ (n := 36) (S := fun w' => w'.cell? ⟨gb263, 0, none⟩ = some (.int .i64 a0_0) ∧ w'.cell? ⟨gb263, 1, none⟩ = some (.int .i64 a0_1) ∧ w'.cell? ⟨gb263, 2, none⟩ = some (.int .i64 a0_2) ∧ w'.cell? ⟨gb263, 3, none⟩ = some (.int .i64 a0_3) ∧ w'.cell? ⟨gb263, 4, none⟩ = some (.int .i64 a0_4) ∧ w'.cell? ⟨gb263, 5, none⟩ = some (.slice A0_5 l0_5.length c0_5) ∧ w'.cell? ⟨gb263, 6, none⟩ = some (.slice A0_6 l0_6.length c0_6) ∧ w'.cell? ⟨gb263, 7, none⟩ = some (.slice A0_7 l0_7.length c0_7) ∧ w'.cell? ⟨gb272, 0, none⟩ = some (.int .i64 t268) ∧ w'.cell? ⟨gb272, 1, none⟩ = some (.int .i64 t269) ∧ w'.cell? ⟨gb272, 2, none⟩ = some (.int .i64 t270) ∧ w'.cell? ⟨gb271, 0, none⟩ = some (.int .i64 t265) ∧ w'.cell? ⟨gb271, 1, none⟩ = some (.int .i64 t266) ∧ w'.cell? ⟨gb271, 2, none⟩ = some (.int .i64 t267)) (ds := []) #[false, false, false, false, false, false, false, false, false, false, false, false, false, false, false, false, false, false, false, false, false, false, false, false, false, false, false, false, false, false, false, false, false, false, false, false] kx rfl rfl ⟨(blk_cell BK263.out 0).trans rfl, (blk_cell BK263.out 1).trans rfl, (blk_cell BK263.out 2).trans rfl, (blk_cell BK263.out 3).trans rfl, (blk_cell BK263.out 4).trans rfl, (blk_cell BK263.out 5).trans rfl, (blk_cell BK263.out 6).trans rfl, (blk_cell BK263.out 7).trans rfl, (blk_cell BK272.out 0).trans rfl, (blk_cell BK272.out 1).trans rfl, (blk_cell BK272.out 2).trans rfl, (blk_cell BK271.out 0).trans rfl, (blk_cell BK271.out 1).trans rfl, (blk_cell BK271.out 2).trans rfl⟩ (fun hHeld => ?_); refine with_tabW ephemerisref1_RecurFits.tab4 ephemerisref1_RecurFits.bits4 (fun HT_ HW_ => ?_)
     generalize w135.drew = w136 at BK263 BK271 BK272 HB hHeld ⊢
     refine pure_ (i := 0) (N := some 22) (v := ?_) (a' := ?_) #[true, false, false, false, false, false, false, false, false, false, false, false, false, false, false, false, false, false, false, false, false, false, false, false, false, false, false, false, false, false, false, false, false, false, false, false] rfl rfl (any_of HT_.out kx) (fun _ _ _ h => h) (Or.inl ⟨by rfl, ?_⟩) ?_ ?_
     rotate_left
     ·intro w'
      go_simp
      with_reducible rfl
     rotate_left
     ·simp only [Act.put, List.setIfInBounds_toArray, List.set_cons_zero, List.set_cons_succ, i64_w, i32_w]
      rfl
     refine pure_ (i := 1) (N := some 23) (v := ?_) (a' := ?_) #[true, true, false, false, false, false, false, false, false, false, false, false, false, false, false, false, false, false, false, false, false, false, false, false, false, false, false, false, false, false, false, false, false, false, false, false] rfl rfl (any_of HT_.out kx) (fun _ _ _ h => h) (Or.inl ⟨by rfl, ?_⟩) ?_ ?_
     rotate_left
     ·intro w'
      go_simp
      with_reducible rfl
     rotate_left
     ·simp only [Act.put, List.setIfInBounds_toArray, List.set_cons_zero, List.set_cons_succ, i64_w, i32_w]
      rfl
     refine pure_ (i := 4) (N := some 26) (v := ?_) (a' := ?_) #[true, true, false, false, true, false, false, false, false, false, false, false, false, false, false, false, false, false, false, false, false, false, false, false, false, false, false, false, false, false, false, false, false, false, false, false] rfl rfl (any_of HT_.out kx) (fun _ _ _ h => h) (Or.inl ⟨by rfl, ?_⟩) ?_ ?_
     rotate_left
     ·intro w'
      go_simp
      with_reducible rfl
     rotate_left
     ·simp only [Act.put, List.setIfInBounds_toArray, List.set_cons_zero, List.set_cons_succ, i64_w, i32_w]
      rfl
     refine pure_ (i := 5) (N := some 27) (v := ?_) (a' := ?_) #[true, true, false, false, true, true, false, false, false, false, false, false, false, false, false, false, false, false, false, false, false, false, false, false, false, false, false, false, false, false, false, false, false, false, false, false] rfl rfl (any_of HT_.out kx) (fun _ _ _ h => h) (Or.inl ⟨by rfl, ?_⟩) ?_ ?_
     rotate_left
     ·intro w'
      go_simp
      with_reducible rfl
     rotate_left
     ·simp only [Act.put, List.setIfInBounds_toArray, List.set_cons_zero, List.set_cons_succ, i64_w, i32_w]
      rfl
     refine pure_ (i := 7) (N := some 29) (v := ?_) (a' := ?_) #[true, true, false, false, true, true, false, true, false, false, false, false, false, false, false, false, false, false, false, false, false, false, false, false, false, false, false, false, false, false, false, false, false, false, false, false] rfl rfl (any_of HT_.out kx) (fun _ _ _ h => h) (Or.inl ⟨by rfl, ?_⟩) ?_ ?_
     rotate_left
     ·intro w'
      go_simp
      with_reducible rfl
     rotate_left
     ·simp only [Act.put, List.setIfInBounds_toArray, List.set_cons_zero, List.set_cons_succ, i64_w, i32_w]
      rfl
     refine pure_ (i := 12) (N := some 34) (v := ?_) (a' := ?_) #[true, true, false, false, true, true, false, true, false, false, false, false, true, false, false, false, false, false, false, false, false, false, false, false, false, false, false, false, false, false, false, false, false, false, false, false] rfl rfl (any_of HT_.out kx) (fun _ _ _ h => h) (Or.inl ⟨by rfl, ?_⟩) ?_ ?_
     rotate_left
     ·intro w'
      go_simp
      with_reducible rfl
     rotate_left
     ·simp only [Act.put, List.setIfInBounds_toArray, List.set_cons_zero, List.set_cons_succ, i64_w, i32_w]
      rfl
     refine pure_ (i := 15) (N := some 37) (v := ?_) (a' := ?_) #[true, true, false, false, true, true, false, true, false, false, false, false, true, false, false, true, false, false, false, false, false, false, false, false, false, false, false, false, false, false, false, false, false, false, false, false] rfl rfl (any_of HT_.out kx) (fun _ _ _ h => h) (Or.inl ⟨by rfl, ?_⟩) ?_ ?_
     rotate_left
     ·intro w'
      go_simp
      with_reducible rfl
     rotate_left
     ·simp only [Act.put, List.setIfInBounds_toArray, List.set_cons_zero, List.set_cons_succ, i64_w, i32_w]
      rfl
     refine pure_ (i := 18) (N := some 40) (v := ?_) (a' := ?_) #[true, true, false, false, true, true, false, true, false, false, false, false, true, false, false, true, false, false, true, false, false, false, false, false, false, false, false, false, false, false, false, false, false, false, false, false] rfl rfl (any_of HT_.out kx) (fun _ _ _ h => h) (Or.inl ⟨by rfl, ?_⟩) ?_ ?_
     rotate_left
     ·intro w'
      go_simp
      with_reducible rfl
     rotate_left
     ·simp only [Act.put, List.setIfInBounds_toArray, List.set_cons_zero, List.set_cons_succ, i64_w, i32_w]
      rfl
     refine pure_ (i := 21) (N := some 43) (v := ?_) (a' := ?_) #[true, true, false, false, true, true, false, true, false, false, false, false, true, false, false, true, false, false, true, false, false, true, false, false, false, false, false, false, false, false, false, false, false, false, false, false] rfl rfl (any_of HT_.out kx) (fun _ _ _ h => h) (Or.inl ⟨by rfl, ?_⟩) ?_ ?_
     rotate_left
     ·intro w'
      go_simp
      with_reducible rfl
     rotate_left
     ·simp only [Act.put, List.setIfInBounds_toArray, List.set_cons_zero, List.set_cons_succ, i64_w, i32_w]
      rfl
     refine pure_ (i := 25) (N := some 47) (v := ?_) (a' := ?_) #[true, true, false, false, true, true, false, true, false, false, false, false, true, false, false, true, false, false, true, false, false, true, false, false, false, true, false, false, false, false, false, false, false, false, false, false] rfl rfl (any_of HT_.out kx) (fun _ _ _ h => h) (Or.inl ⟨by rfl, ?_⟩) ?_ ?_
     rotate_left
     ·intro w'
      go_simp
      with_reducible rfl
     rotate_left
     ·simp only [Act.put, List.setIfInBounds_toArray, List.set_cons_zero, List.set_cons_succ, i64_w, i32_w]
      rfl
     refine pure_ (i := 27) (N := some 49) (v := ?_) (a' := ?_) #[true, true, false, false, true, true, false, true, false, false, false, false, true, false, false, true, false, false, true, false, false, true, false, false, false, true, false, true, false, false, false, false, false, false, false, false] rfl rfl (any_of HT_.out kx) (fun _ _ _ h => h) (Or.inl ⟨by rfl, ?_⟩) ?_ ?_
     rotate_left
     ·intro w'
      go_simp
      with_reducible rfl
     rotate_left
     ·simp only [Act.put, List.setIfInBounds_toArray, List.set_cons_zero, List.set_cons_succ, i64_w, i32_w]
      rfl
     refine pure_ (i := 31) (N := some 53) (v := ?_) (a' := ?_) #[true, true, false, false, true, true, false, true, false, false, false, false, true, false, false, true, false, false, true, false, false, true, false, false, false, true, false, true, false, false, false, true, false, false, false, false] rfl rfl (any_of HT_.out kx) (fun _ _ _ h => h) (Or.inl ⟨by rfl, ?_⟩) ?_ ?_
     rotate_left
     ·intro w'
      go_simp
      with_reducible rfl
     rotate_left
     ·simp only [Act.put, List.setIfInBounds_toArray, List.set_cons_zero, List.set_cons_succ, i64_w, i32_w]
      rfl
     refine take_ (i := 2) (N := some 24) (v := ?_) (a' := ?_) #[true, true, true, false, true, true, false, true, false, false, false, false, true, false, false, true, false, false, true, false, false, true, false, false, false, true, false, true, false, false, false, true, false, false, false, false] rfl rfl (take_ofW HT_.out HW_.out kx) (fun _ _ _ h => h) (Or.inl ⟨by rfl, ?_⟩) hHeld ?_ ?_
     rotate_left
     ·rintro w' ⟨s0, s1, s2, s3, s4, s5, s6, s7, s8, s9, s10, s11, s12, s13⟩
      go_simp
      with_reducible rfl
     rotate_left
     ·simp only [Act.put, List.setIfInBounds_toArray, List.set_cons_zero, List.set_cons_succ, i64_w, i32_w]
      rfl
     refine pure_ (i := 3) (N := some 25) (v := ?_) (a' := ?_) #[true, true, true, true, true, true, false, true, false, false, false, false, true, false, false, true, false, false, true, false, false, true, false, false, false, true, false, true, false, false, false, true, false, false, false, false] rfl rfl (any_of HT_.out kx) (fun _ _ _ h => h) (Or.inl ⟨by rfl, ?_⟩) ?_ ?_
     rotate_left
     ·intro w'
      go_simp
      with_reducible rfl
     rotate_left
     ·simp only [Act.put, List.setIfInBounds_toArray, List.set_cons_zero, List.set_cons_succ, i64_w, i32_w]
      rfl
     refine take_ (i := 8) (N := some 30) (v := ?_) (a' := ?_) #[true, true, true, true, true, true, false, true, true, false, false, false, true, false, false, true, false, false, true, false, false, true, false, false, false, true, false, true, false, false, false, true, false, false, false, false] rfl rfl (take_ofW HT_.out HW_.out kx) (fun _ _ _ h => h) (Or.inl ⟨by rfl, ?_⟩) hHeld ?_ ?_
     rotate_left
     ·rintro w' ⟨s0, s1, s2, s3, s4, s5, s6, s7, s8, s9, s10, s11, s12, s13⟩
      go_simp
      with_reducible rfl
     rotate_left
     ·simp only [Act.put, List.setIfInBounds_toArray, List.set_cons_zero, List.set_cons_succ, i64_w, i32_w]
      rfl
     refine pure_ (i := 9) (N := some 31) (v := ?_) (a' := ?_) #[true, true, true, true, true, true, false, true, true, true, false, false, true, false, false, true, false, false, true, false, false, true, false, false, false, true, false, true, false, false, false, true, false, false, false, false] rfl rfl (any_of HT_.out kx) (fun _ _ _ h => h) (Or.inl ⟨by rfl, ?_⟩) ?_ ?_
     rotate_left
     ·intro w'
      go_simp
      with_reducible rfl
     rotate_left
     ·simp only [Act.put, List.setIfInBounds_toArray, List.set_cons_zero, List.set_cons_succ, i64_w, i32_w]
      rfl
     refine take_ (i := 13) (N := some 35) (v := ?_) (a' := ?_) #[true, true, true, true, true, true, false, true, true, true, false, false, true, true, false, true, false, false, true, false, false, true, false, false, false, true, false, true, false, false, false, true, false, false, false, false] rfl rfl (take_ofW HT_.out HW_.out kx) (fun _ _ _ h => h) (Or.inl ⟨by rfl, ?_⟩) hHeld ?_ ?_
     rotate_left
     ·rintro w' ⟨s0, s1, s2, s3, s4, s5, s6, s7, s8, s9, s10, s11, s12, s13⟩
      go_simp
      with_reducible rfl
     rotate_left
     ·simp only [Act.put, List.setIfInBounds_toArray, List.set_cons_zero, List.set_cons_succ, i64_w, i32_w]
      rfl
     refine pure_ (i := 14) (N := some 36) (v := ?_) (a' := ?_) #[true, true, true, true, true, true, false, true, true, true, false, false, true, true, true, true, false, false, true, false, false, true, false, false, false, true, false, true, false, false, false, true, false, false, false, false] rfl rfl (any_of HT_.out kx) (fun _ _ _ h => h) (Or.inl ⟨by rfl, ?_⟩) ?_ ?_
     rotate_left
     ·intro w'
      go_simp
      with_reducible rfl
     rotate_left
     ·simp only [Act.put, List.setIfInBounds_toArray, List.set_cons_zero, List.set_cons_succ, i64_w, i32_w]
      rfl
     refine take_ (i := 16) (N := some 38) (v := ?_) (a' := ?_) #[true, true, true, true, true, true, false, true, true, true, false, false, true, true, true, true, true, false, true, false, false, true, false, false, false, true, false, true, false, false, false, true, false, false, false, false] rfl rfl (take_ofW HT_.out HW_.out kx) (fun _ _ _ h => h) (Or.inl ⟨by rfl, ?_⟩) hHeld ?_ ?_
     rotate_left
     ·rintro w' ⟨s0, s1, s2, s3, s4, s5, s6, s7, s8, s9, s10, s11, s12, s13⟩
      go_simp
      with_reducible rfl
     rotate_left
     ·simp only [Act.put, List.setIfInBounds_toArray, List.set_cons_zero, List.set_cons_succ, i64_w, i32_w]
      rfl
     refine pure_ (i := 17) (N := some 39) (v := ?_) (a' := ?_) #[true, true, true, true, true, true, false, true, true, true, false, false, true, true, true, true, true, true, true, false, false, true, false, false, false, true, false, true, false, false, false, true, false, false, false, false] rfl rfl (any_of HT_.out kx) (fun _ _ _ h => h) (Or.inl ⟨by rfl, ?_⟩) ?_ ?_
     rotate_left
     ·intro w'
      go_simp
      with_reducible rfl
     rotate_left
     ·simp only [Act.put, List.setIfInBounds_toArray, List.set_cons_zero, List.set_cons_succ, i64_w, i32_w]
      rfl
     refine take_ (i := 19) (N := some 41) (v := ?_) (a' := ?_) #[true, true, true, true, true, true, false, true, true, true, false, false, true, true, true, true, true, true, true, true, false, true, false, false, false, true, false, true, false, false, false, true, false, false, false, false] rfl rfl (take_ofW HT_.out HW_.out kx) (fun _ _ _ h => h) (Or.inl ⟨by rfl, ?_⟩) hHeld ?_ ?_
     rotate_left
     ·rintro w' ⟨s0, s1, s2, s3, s4, s5, s6, s7, s8, s9, s10, s11, s12, s13⟩
      go_simp
      with_reducible rfl
     rotate_left
     ·simp only [Act.put, List.setIfInBounds_toArray, List.set_cons_zero, List.set_cons_succ, i64_w, i32_w]
      rfl
     refine pure_ (i := 20) (N := some 42) (v := ?_) (a' := ?_) #[true, true, true, true, true, true, false, true, true, true, false, false, true, true, true, true, true, true, true, true, true, true, false, false, false, true, false, true, false, false, false, true, false, false, false, false] rfl rfl (any_of HT_.out kx) (fun _ _ _ h => h) (Or.inl ⟨by rfl, ?_⟩) ?_ ?_
     rotate_left
     ·intro w'
      go_simp
      with_reducible rfl
     rotate_left
     ·simp only [Act.put, List.setIfInBounds_toArray, List.set_cons_zero, List.set_cons_succ, i64_w, i32_w]
      rfl
     refine take_ (i := 22) (N := some 44) (v := ?_) (a' := ?_) #[true, true, true, true, true, true, false, true, true, true, false, false, true, true, true, true, true, true, true, true, true, true, true, false, false, true, false, true, false, false, false, true, false, false, false, false] rfl rfl (take_ofW HT_.out HW_.out kx) (fun _ _ _ h => h) (Or.inl ⟨by rfl, ?_⟩) hHeld ?_ ?_
     rotate_left
     ·rintro w' ⟨s0, s1, s2, s3, s4, s5, s6, s7, s8, s9, s10, s11, s12, s13⟩
      go_simp
      with_reducible rfl
     rotate_left
     ·simp only [Act.put, List.setIfInBounds_toArray, List.set_cons_zero, List.set_cons_succ, i64_w, i32_w]
      rfl
     refine pure_ (i := 23) (N := some 45) (v := ?_) (a' := ?_) #[true, true, true, true, true, true, false, true, true, true, false, false, true, true, true, true, true, true, true, true, true, true, true, true, false, true, false, true, false, false, false, true, false, false, false, false] rfl rfl (any_of HT_.out kx) (fun _ _ _ h => h) (Or.inl ⟨by rfl, ?_⟩) ?_ ?_
     rotate_left
     ·intro w'
      go_simp
      with_reducible rfl
     rotate_left
     ·simp only [Act.put, List.setIfInBounds_toArray, List.set_cons_zero, List.set_cons_succ, i64_w, i32_w]
      rfl
     refine pure_ (i := 24) (N := some 46) (v := ?_) (a' := ?_) #[true, true, true, true, true, true, false, true, true, true, false, false, true, true, true, true, true, true, true, true, true, true, true, true, true, true, false, true, false, false, false, true, false, false, false, false] rfl rfl (any_of HT_.out kx) (fun _ _ _ h => h) (Or.inl ⟨by rfl, ?_⟩) ?_ ?_
     rotate_left
     ·intro w'
      go_simp
      with_reducible rfl
     rotate_left
     ·simp only [Act.put, List.setIfInBounds_toArray, List.set_cons_zero, List.set_cons_succ, i64_w, i32_w]
      rfl
     refine take_ (i := 26) (N := some 48) (v := ?_) (a' := ?_) #[true, true, true, true, true, true, false, true, true, true, false, false, true, true, true, true, true, true, true, true, true, true, true, true, true, true, true, true, false, false, false, true, false, false, false, false] rfl rfl (take_ofW HT_.out HW_.out kx) (fun _ _ _ h => h) (Or.inl ⟨by rfl, ?_⟩) hHeld ?_ ?_
     rotate_left
     ·rintro w' ⟨s0, s1, s2, s3, s4, s5, s6, s7, s8, s9, s10, s11, s12, s13⟩
      go_simp
      with_reducible rfl
     rotate_left
     ·simp only [Act.put, List.setIfInBounds_toArray, List.set_cons_zero, List.set_cons_succ, i64_w, i32_w]
      rfl
     refine take_ (i := 28) (N := some 50) (v := ?_) (a' := ?_) #[true, true, true, true, true, true, false, true, true, true, false, false, true, true, true, true, true, true, true, true, true, true, true, true, true, true, true, true, true, false, false, true, false, false, false, false] rfl rfl (take_ofW HT_.out HW_.out kx) (fun _ _ _ h => h) (Or.inl ⟨by rfl, ?_⟩) hHeld ?_ ?_
     rotate_left
     ·rintro w' ⟨s0, s1, s2, s3, s4, s5, s6, s7, s8, s9, s10, s11, s12, s13⟩
      go_simp
      with_reducible rfl
     rotate_left
     ·simp only [Act.put, List.setIfInBounds_toArray, List.set_cons_zero, List.set_cons_succ, i64_w, i32_w]
      rfl
     refine pure_ (i := 29) (N := some 51) (v := ?_) (a' := ?_) #[true, true, true, true, true, true, false, true, true, true, false, false, true, true, true, true, true, true, true, true, true, true, true, true, true, true, true, true, true, true, false, true, false, false, false, false] rfl rfl (any_of HT_.out kx) (fun _ _ _ h => h) (Or.inl ⟨by rfl, ?_⟩) ?_ ?_
     rotate_left
     ·intro w'
      go_simp
      with_reducible rfl
     rotate_left
     ·simp only [Act.put, List.setIfInBounds_toArray, List.set_cons_zero, List.set_cons_succ, i64_w, i32_w]
      rfl
     refine take_ (i := 32) (N := some 54) (v := ?_) (a' := ?_) #[true, true, true, true, true, true, false, true, true, true, false, false, true, true, true, true, true, true, true, true, true, true, true, true, true, true, true, true, true, true, false, true, true, false, false, false] rfl rfl (take_ofW HT_.out HW_.out kx) (fun _ _ _ h => h) (Or.inl ⟨by rfl, ?_⟩) hHeld ?_ ?_
     rotate_left
     ·rintro w' ⟨s0, s1, s2, s3, s4, s5, s6, s7, s8, s9, s10, s11, s12, s13⟩
      go_simp
      with_reducible rfl
     rotate_left
     ·simp only [Act.put, List.setIfInBounds_toArray, List.set_cons_zero, List.set_cons_succ, i64_w, i32_w]
      rfl
     refine one_ (i := 6) (N := some 28) #[true, true, true, true, true, true, true, true, true, true, false, false, true, true, true, true, true, true, true, true, true, true, true, true, true, true, true, true, true, true, false, true, true, false, false, false] rfl rfl (one_of HT_.out kx) (by decide) (fun K hK => ?_)
     refine goes_ Try.func77 kx rfl #[.int .i64 (wrap64 (a1 + 6)), .int .i64 7] (by rfl) rfl rfl aa ?_
     with_reducible refine (ephemerisref1_Floor.calls k (wrap64 (a1 + 6)) 7 t273 _ A7.out).mono ?_
     rintro e w' ⟨rfl, ⟨nd, rfl⟩⟩
     refine ⟨_, rfl, ?_⟩
     refine hK.out _ _ ⟨(blk_cell BK263.out 0).trans rfl, (blk_cell BK263.out 1).trans rfl, (blk_cell BK263.out 2).trans rfl, (blk_cell BK263.out 3).trans rfl, (blk_cell BK263.out 4).trans rfl, (blk_cell BK263.out 5).trans rfl, (blk_cell BK263.out 6).trans rfl, (blk_cell BK263.out 7).trans rfl, (blk_cell BK272.out 0).trans rfl, (blk_cell BK272.out 1).trans rfl, (blk_cell BK272.out 2).trans rfl, (blk_cell BK271.out 0).trans rfl, (blk_cell BK271.out 1).trans rfl, (blk_cell BK271.out 2).trans rfl⟩ (fun hHeld => ?_)
     clear hK K
     refine norm_ (a' := ?_) ?_ ?_
     rotate_left
     ·show Act.put _ (some 28) _ = _
      simp only [Act.put, List.setIfInBounds_toArray, List.set_cons_zero, List.set_cons_succ, i64_w, i32_w]
      rfl
     refine one_ (i := 10) (N := some 32) #[true, true, true, true, true, true, true, true, true, true, true, false, true, true, true, true, true, true, true, true, true, true, true, true, true, true, true, true, true, true, false, true, true, false, false, false] rfl rfl (one_of HT_.out kx) (by decide) (fun K hK => ?_)
     refine goes_ Try.func77 kx rfl #[.int .i64 (wrap64 (a0_2 + 6)), .int .i64 7] (by rfl) rfl rfl aa ?_
     with_reducible refine (ephemerisref1_Floor.calls k (wrap64 (a0_2 + 6)) 7 t274 _ A8.out).mono ?_
     rintro e w' ⟨rfl, ⟨nd, rfl⟩⟩
     refine ⟨_, rfl, ?_⟩
     refine hK.out _ _ ⟨(blk_cell BK263.out 0).trans rfl, (blk_cell BK263.out 1).trans rfl, (blk_cell BK263.out 2).trans rfl, (blk_cell BK263.out 3).trans rfl, (blk_cell BK263.out 4).trans rfl, (blk_cell BK263.out 5).trans rfl, (blk_cell BK263.out 6).trans rfl, (blk_cell BK263.out 7).trans rfl, (blk_cell BK272.out 0).trans rfl, (blk_cell BK272.out 1).trans rfl, (blk_cell BK272.out 2).trans rfl, (blk_cell BK271.out 0).trans rfl, (blk_cell BK271.out 1).trans rfl, (blk_cell BK271.out 2).trans rfl⟩ (fun hHeld => ?_)
     clear hK K
     refine norm_ (a' := ?_) ?_ ?_
     rotate_left
     ·show Act.put _ (some 32) _ = _
      simp only [Act.put, List.setIfInBounds_toArray, List.set_cons_zero, List.set_cons_succ, i64_w, i32_w]
      rfl
     refine pure_ (i := 11) (N := some 33) (v := ?_) (a' := ?_) #[true, true, true, true, true, true, true, true, true, true, true, true, true, true, true, true, true, true, true, true, true, true, true, true, true, true, true, true, true, true, false, true, true, false, false, false] rfl rfl (any_of HT_.out kx) (fun _ _ _ h => h) (Or.inl ⟨by rfl, ?_⟩) ?_ ?_
     rotate_left
     ·intro w'
      go_simp
      with_reducible rfl
     rotate_left
     ·simp only [Act.put, List.setIfInBounds_toArray, List.set_cons_zero, List.set_cons_succ, i64_w, i32_w]
      rfl
     refine one_ (i := 30) (N := some 52) #[true, true, true, true, true, true, true, true, true, true, true, true, true, true, true, true, true, true, true, true, true, true, true, true, true, true, true, true, true, true, true, true, true, false, false, false] rfl rfl (one_of HT_.out kx) (by decide) (fun K hK => ?_)
     refine Kd.R_lit_step (Kd.int .i64) _ 3 ?hg (N := 52) ?hd (xs := ([0, wrap64 (a1 - a0_2), wrap64 (t273 - t274), wrap64 ((wrap64 ((wrap64 (t268 * 12)) + t269)) - (wrap64 ((wrap64 (t265 * 12)) + t266))), wrap64 (t268 - t265)] : List Int)) (inner := [.int .i64 0, .int .i64 (wrap64 (a1 - a0_2)), .int .i64 (wrap64 (t273 - t274)), .int .i64 (wrap64 ((wrap64 ((wrap64 (t268 * 12)) + t269)) - (wrap64 ((wrap64 (t265 * 12)) + t266)))), .int .i64 (wrap64 (t268 - t265))]) (ok := fun _ => True) (okp := fun _ => True) ?hr ?hp (fun _ hk => hk) trivial (Below.refl _ _) (Nat.le_refl _) (by simp) ?_; (case hd => rfl); (case hg => rfl); (case hr => first | (go_simp; done) | (go_simp; rfl)); (case hp => exact (Reps.one (show Kd.M (Kd.int .i64) _ _ _ 0 [.int .i64 0] from rfl) (Reps.one (show Kd.M (Kd.int .i64) _ _ _ (wrap64 (a1 - a0_2)) [.int .i64 (wrap64 (a1 - a0_2))] from rfl) (Reps.one (show Kd.M (Kd.int .i64) _ _ _ (wrap64 (t273 - t274)) [.int .i64 (wrap64 (t273 - t274))] from rfl) (Reps.one (show Kd.M (Kd.int .i64) _ _ _ (wrap64 ((wrap64 ((wrap64 (t268 * 12)) + t269)) - (wrap64 ((wrap64 (t265 * 12)) + t266)))) [.int .i64 (wrap64 ((wrap64 ((wrap64 (t268 * 12)) + t269)) - (wrap64 ((wrap64 (t265 * 12)) + t266))))] from rfl) (Reps.one (show Kd.M (Kd.int .i64) _ _ _ (wrap64 (t268 - t265)) [.int .i64 (wrap64 (t268 - t265))] from rfl) (Reps.none _ _)))))))
     intro v276 w137 ho138 hb hg_ hnew_
     clear hg_ hnew_
     (first | rw [← Ny275.out] at ho138 | (simp only [Int.reduceToNat] at ho138; rw [← Ny275.out] at ho138))
     have n0_ := Aside0.mk (Kd.R_lower ho138 (below_size be))
     have n1_ := bb BK263 hb
     have n2_ := bb BK271 hb
     have n3_ := bb BK272 hb
     have n4_ := Aside0.mk (below_step be hb)
     clear BK263
     clear BK271
     clear BK272
     clear HB
     have HO277 := n0_
     have BK263 := n1_
     have BK271 := n2_
     have BK272 := n3_
     have HB := n4_
     clear n0_ n1_ n2_ n3_ n4_
     clear hb ho138
     obtain ⟨Ao139, co139, eo139⟩ := Kd.R_slice HO277.out
     subst eo139
     obtain ⟨ado139, fo139, _⟩ := Kd.at_int (Kd.R_reads' HO277.out).2.2 0 (by decide) (by rw [Ny275.out]; simp)
     cases fo139
     refine hK.out _ _ ⟨(blk_cell BK263.out 0).trans rfl, (blk_cell BK263.out 1).trans rfl, (blk_cell BK263.out 2).trans rfl, (blk_cell BK263.out 3).trans rfl, (blk_cell BK263.out 4).trans rfl, (blk_cell BK263.out 5).trans rfl, (blk_cell BK263.out 6).trans rfl, (blk_cell BK263.out 7).trans rfl, (blk_cell BK272.out 0).trans rfl, (blk_cell BK272.out 1).trans rfl, (blk_cell BK272.out 2).trans rfl, (blk_cell BK271.out 0).trans rfl, (blk_cell BK271.out 1).trans rfl, (blk_cell BK271.out 2).trans rfl⟩ (fun hHeld => ?_)
     clear hK K
     refine norm_ (a' := ?_) ?_ ?_
     rotate_left
     ·show Act.put _ (some 52) _ = _
      simp only [Act.put, List.setIfInBounds_toArray, List.set_cons_zero, List.set_cons_succ, i64_w, i32_w]
      rfl
     refine pure_ (i := 33) (N := some 55) (v := ?_) (a' := ?_) #[true, true, true, true, true, true, true, true, true, true, true, true, true, true, true, true, true, true, true, true, true, true, true, true, true, true, true, true, true, true, true, true, true, true, false, false] rfl rfl (any_of HT_.out kx) (fun _ _ _ h => h) (Or.inl ⟨by rfl, ?_⟩) ?_ ?_
     rotate_left
     ·intro w'
      go_simp
      with_reducible rfl
     rotate_left
     ·simp only [Act.put, List.setIfInBounds_toArray, List.set_cons_zero, List.set_cons_succ, i64_w, i32_w]
      rfl
     refine one_ (i := 34) (N := some 56) #[true, true, true, true, true, true, true, true, true, true, true, true, true, true, true, true, true, true, true, true, true, true, true, true, true, true, true, true, true, true, true, true, true, true, true, false] rfl rfl (one_of HT_.out kx) (by decide) (fun K hK => ?_)
     (have p278 : 0 ≤ (a0_0 : Int) := of_decide_eq_true ka; have q278 : a0_0 < (y275.length : Int) := of_decide_eq_true ka; obtain ⟨ad278, e278, hx278_0⟩ := Kd.at_int (Kd.R_reads' HO277.out).2.2 a0_0 p278 q278; obtain rfl : ado139 = ad278 := (by injection e278))
     refine value_ (w1 := ?_) (v := ?_) (by rfl) rfl ?_ ?_
     rotate_left 2
     ·go_simp
      constructor
      ·rfl
      ·rfl
     clear hx278_0
     refine hK.out _ _ ⟨(blk_cell BK263.out 0).trans rfl, (blk_cell BK263.out 1).trans rfl, (blk_cell BK263.out 2).trans rfl, (blk_cell BK263.out 3).trans rfl, (blk_cell BK263.out 4).trans rfl, (blk_cell BK263.out 5).trans rfl, (blk_cell BK263.out 6).trans rfl, (blk_cell BK263.out 7).trans rfl, (blk_cell BK272.out 0).trans rfl, (blk_cell BK272.out 1).trans rfl, (blk_cell BK272.out 2).trans rfl, (blk_cell BK271.out 0).trans rfl, (blk_cell BK271.out 1).trans rfl, (blk_cell BK271.out 2).trans rfl⟩ (fun hHeld => ?_)
     clear hK K
     refine norm_ (a' := ?_) ?_ ?_
     rotate_left
     ·show Act.put _ (some 56) _ = _
      simp only [Act.put, List.setIfInBounds_toArray, List.set_cons_zero, List.set_cons_succ, i64_w, i32_w]
      rfl
     refine pure_ (i := 35) (N := some 7) (v := ?_) (a' := ?_) #[true, true, true, true, true, true, true, true, true, true, true, true, true, true, true, true, true, true, true, true, true, true, true, true, true, true, true, true, true, true, true, true, true, true, true, true] rfl rfl (any_of HT_.out kx) (fun _ _ _ h => h) (Or.inl ⟨by rfl, ?_⟩) ?_ ?_
     rotate_left
     ·intro w'
      go_simp
      with_reducible rfl
     rotate_left
     ·simp only [Act.put, List.setIfInBounds_toArray, List.set_cons_zero, List.set_cons_succ, i64_w, i32_w]
      rfl
     refine done_ (done_of HT_.out kx) ?_
     obtain ⟨hcz140_0, hcz140_1, hcz140_2, hcz140_3, hcz140_4, hcz140_5, hcz140_6, hcz140_7, hfz140_0, hfz140_1, hfz140_2, hfz140_3, hfz140_4, hfz140_5, hfz140_6, hfz140_7⟩ := bc8 BK263
     try go_wp2_with (first | ((with_reducible refine gate_callee (f := 39) rfl ?_); refine goesL_ (some 60) rfl rfl Try.func39 kx rfl #[.int .i64 (rd y275 a0_0), .int .i64 a0_1] rfl aa ?_; (with_reducible refine (ephemerisref1_Mod.calls k (rd y275 a0_0) a0_1 t279 _ A11.out).mono ?_); rintro e w' ⟨rfl, ⟨nd, rfl⟩⟩; refine ⟨_, rfl, ?_⟩))
     go_ret
     exact ⟨by first | rfl | (simp [errW_none, errW_some] <;> rfl) | (simp [*, errW_none, errW_some] <;> rfl), be⟩
   ·rw [if_neg c10] at H
    exact absurd H (by simp)
  ·rw [if_neg c9] at H
   exact absurd H (by simp)
 ·replace c4 := Bool.eq_false_iff.mpr c4
  subst c4
  have H1 : (some false) = some r := by rw [if_neg (show ¬ (false = true) by decide)] at H; exact H
  clear H
  have H := H1
  clear H1
  obtain rfl := Option.some.inj H
  go_enter Try.func60, Try.ntmps60
  go_wp2_with (first | ((with_reducible refine gate_dst (N := 2) rfl ?_); (try (refine gate_guard (by rfl) ?_; dsimp only)); refine box_event ?hg (N := 2) ?hd (cs := #[.int .i64 a0_0, .int .i64 a0_1, .int .i64 a0_2, .int .i64 a0_3, .int .i64 a0_4, .slice A0_5 l0_5.length c0_5, .slice A0_6 l0_6.length c0_6, .slice A0_7 l0_7.length c0_7]) (t := 33) ?hr ?_; (case hd => rfl); (case hg => rfl); (case hr => first | (go_simp; done) | (go_simp; rfl)); intro gb263 hg w141 hbox hb; have n0_ := Aside0.mk (below_step be hb); have n1_ := Aside0.mk (hbox); have n2_ := gs hg HB; have n3_ := n2_; clear HB; have HB := n0_; have BK263 := n1_; have GW263 := n2_; have GE263 := n3_; clear n0_ n1_ n2_ n3_; clear hb hbox hg; obtain ⟨hcz142_0, hcz142_1, hcz142_2, hcz142_3, hcz142_4, hcz142_5, hcz142_6, hcz142_7, hfz142_0, hfz142_1, hfz142_2, hfz142_3, hfz142_4, hfz142_5, hfz142_6, hfz142_7⟩ := bc8 BK263) | ((with_reducible refine gate_callee (f := 21) rfl ?_); refine goesL_ (some 15) rfl rfl Try.func21 kx rfl #[.int .i64 a1, .int .i64 a0_2, .int .i64 a0_4] rfl aa ?_; (with_reducible refine (ephemerisref1_In.calls a1 a0_2 a0_4 false _ A3.out).mono ?_); rintro e w' ⟨rfl, ⟨nd, rfl⟩⟩; refine ⟨_, rfl, ?_⟩))
  go_ret
  exact ⟨by first | rfl | (simp [errW_none, errW_some] <;> rfl) | (simp [*, errW_none, errW_some] <;> rfl), be⟩

end Go.Proofs.Ytlfammlboncmeaa.PRecurLists
