/- The walks of the functions of this part, laid closer by a program of mine. -/
-- The walks of the law's functions, told by a program.
import Derived.Test.YtlfammlboncmeaaY
import Derived.Test.YtlfammlboncmeaaPRecurDiffsx0
import Derived.Test.YtlfammlboncmeaaPRecurDiffsx1
import Derived.Test.YtlfammlboncmeaaPRecurDiffsx6
import Derived.Test.YtlfammlboncmeaaPRecurDiffsx7
import Derived.Test.YtlfammlboncmeaaPRecurDiffsx8
import Derived.Test.YtlfammlboncmeaaPRecurDiffsx9
import Derived.Test.YtlfammlboncmeaaPRecurDiffsx10
namespace Go.Proofs.Ytlfammlboncmeaa.PRecurDiffs
open Go.RowKit Go.Proofs.YtlfammlboncmeaaW.PrintWords Go.Proofs.YtlfammlboncmeaaW.PrintLast Go.Proofs.YtlfammlboncmeaaW.PrintMore Go.Proofs.Ytlfammlboncmeaa.Y
attribute [local go_sem] max2_int min2_int max_two min_two max_three min_three max_four min_four   -- for this text's walks alone
set_option linter.unusedVariables false
set_option linter.unusedSimpArgs false

/-! ### ephemerislaw1_RecurDiffs: function 7 -/
mutual
def ephemerislaw1_RecurDiffs.j0 : Nat → Int → Int → Bool → Int → Int → Int → Int → Int → List Int → List Int → List Int → Int → Int → Int → Int → Int → List Int → List Int → List Int → Option (Bool)
 | 0, _, _, _, _, _, _, _, _, _, _, _, _, _, _, _, _, _, _, _ => none
 | k + 1, x2, x3, x50, x284000, x284001, x284002, x284003, x284004, x284005, x284006, x284007, x285000, x285001, x285002, x285003, x285004, x285005, x285006, x285007 => if x50 = true then (some false) else ((ephemerislaw1_near.f k x284000 x284001 x284002 x284003 x284004 x284005 x284006 x284007 x2 x3).bind fun bt302 => ((recur_Diff.f k x284000 x284001 x284002 x284003 x284004 x284005 x284006 x284007 x285000 x285001 x285002 x285003 x285004 x285005 x285006 x285007 bt302.1 bt302.2).bind fun bt304 => ((ephemerisref1_RecurError.f k x284000 x284001 x284002 x284003 x284004 x284005 x284006 x284007).bind fun t311 => (if t311 = 0 then ((ephemerisref1_RecurError.f k x285000 x285001 x285002 x285003 x285004 x285005 x285006 x285007).bind fun t312 => (ephemerislaw1_RecurDiffs.j1 k bt302.1 bt302.2 bt304.1 bt304.2.1 bt304.2.2 t312 x284000 x284001 x284002 x284003 x284004 x284005 x284006 x284007 x285000 x285001 x285002 x285003 x285004 x285005 x285006 x285007)) else (ephemerislaw1_RecurDiffs.j1 k bt302.1 bt302.2 bt304.1 bt304.2.1 bt304.2.2 t311 x284000 x284001 x284002 x284003 x284004 x284005 x284006 x284007 x285000 x285001 x285002 x285003 x285004 x285005 x285006 x285007)))))
def ephemerislaw1_RecurDiffs.j1 : Nat → Int → Int → List Int → List Int → Int → Int → Int → Int → Int → Int → Int → List Int → List Int → List Int → Int → Int → Int → Int → Int → List Int → List Int → List Int → Option (Bool)
 | 0, _, _, _, _, _, _, _, _, _, _, _, _, _, _, _, _, _, _, _, _, _, _ => none
 | k + 1, x2, x3, x14, x15, x16, x17, x284000, x284001, x284002, x284003, x284004, x284005, x284006, x284007, x285000, x285001, x285002, x285003, x285004, x285005, x285006, x285007 => if x17 = 0 then ((ephemerislaw1_recurError.f k x284000 x284001 x284002 x284003 x284004 x284005 x284006 x284007 x2 x3).bind fun t313 => (ephemerislaw1_RecurDiffs.j2 k x2 x3 x14 x15 x16 t313 x284000 x284001 x284002 x284003 x284004 x284005 x284006 x284007 x285000 x285001 x285002 x285003 x285004 x285005 x285006 x285007)) else (ephemerislaw1_RecurDiffs.j2 k x2 x3 x14 x15 x16 x17 x284000 x284001 x284002 x284003 x284004 x284005 x284006 x284007 x285000 x285001 x285002 x285003 x285004 x285005 x285006 x285007)
def ephemerislaw1_RecurDiffs.j2 : Nat → Int → Int → List Int → List Int → Int → Int → Int → Int → Int → Int → Int → List Int → List Int → List Int → Int → Int → Int → Int → Int → List Int → List Int → List Int → Option (Bool)
 | 0, _, _, _, _, _, _, _, _, _, _, _, _, _, _, _, _, _, _, _, _, _, _ => none
 | k + 1, x2, x3, x14, x15, x16, x17, x284000, x284001, x284002, x284003, x284004, x284005, x284006, x284007, x285000, x285001, x285002, x285003, x285004, x285005, x285006, x285007 => if x17 = 0 then ((ephemerislaw1_recurError.f k x285000 x285001 x285002 x285003 x285004 x285005 x285006 x285007 x2 x3).bind fun t314 => (ephemerislaw1_RecurDiffs.j3 k x2 x3 x14 x15 x16 t314 x284000 x284001 x284002 x284003 x284004 x284005 x284006 x284007 x285000 x285001 x285002 x285003 x285004 x285005 x285006 x285007)) else (ephemerislaw1_RecurDiffs.j3 k x2 x3 x14 x15 x16 x17 x284000 x284001 x284002 x284003 x284004 x284005 x284006 x284007 x285000 x285001 x285002 x285003 x285004 x285005 x285006 x285007)
def ephemerislaw1_RecurDiffs.j3 : Nat → Int → Int → List Int → List Int → Int → Int → Int → Int → Int → Int → Int → List Int → List Int → List Int → Int → Int → Int → Int → Int → List Int → List Int → List Int → Option (Bool)
 | 0, _, _, _, _, _, _, _, _, _, _, _, _, _, _, _, _, _, _, _, _, _, _ => none
 | k + 1, x2, x3, x14, x15, x16, x17, x284000, x284001, x284002, x284003, x284004, x284005, x284006, x284007, x285000, x285001, x285002, x285003, x285004, x285005, x285006, x285007 => if x17 = 0 then (if x16 = 0 then ((recur_Days.f k x284000 x284001 x284002 x284003 x284004 x284005 x284006 x284007 x2 x3).bind fun bt315 => ((recur_Days.f k x285000 x285001 x285002 x285003 x285004 x285005 x285006 x285007 x2 x3).bind fun bt319 => (ephemerislaw1_RecurDiffs.l0 k x14 x15 bt315.1 bt319.1 ([] : List Int) bt315.1 (bt315.1.length : Int) 0))) else (some false)) else (if (x14.length : Int) = 0 then (if (x15.length : Int) = 0 then (some (x16 == x17)) else (some false)) else (some false))
def ephemerislaw1_RecurDiffs.l0 : Nat → List Int → List Int → List Int → List Int → List Int → List Int → Int → Int → Option (Bool)
 | 0, _, _, _, _, _, _, _, _ => none
 | k + 1, x14, x15, x18, x20, x22, x116, x117, x118 => if x118 < x117 then (if 0 ≤ x118 then (if x118 < (x116.length : Int) then ((slices_Contains_int_int.f k x20 (rd x116 x118)).bind fun t324 => (if t324 = true then (ephemerislaw1_RecurDiffs.l0 k x14 x15 x18 x20 x22 x116 x117 (wrap64 (x118 + 1))) else (if x22.length < 17592186044416 then (ephemerislaw1_RecurDiffs.l0 k x14 x15 x18 x20 (x22 ++ [rd x116 x118]) x116 x117 (wrap64 (x118 + 1))) else (none)))) else (none)) else (none)) else (ephemerislaw1_RecurDiffs.l1 k x14 x15 x18 x22 ([] : List Int) x20 (x20.length : Int) 0)
def ephemerislaw1_RecurDiffs.l1 : Nat → List Int → List Int → List Int → List Int → List Int → List Int → Int → Int → Option (Bool)
 | 0, _, _, _, _, _, _, _, _ => none
 | k + 1, x14, x15, x18, x22, x23, x131, x132, x133 => if x133 < x132 then (if 0 ≤ x133 then (if x133 < (x131.length : Int) then ((slices_Contains_int_int.f k x18 (rd x131 x133)).bind fun t329 => (if t329 = true then (ephemerislaw1_RecurDiffs.l1 k x14 x15 x18 x22 x23 x131 x132 (wrap64 (x133 + 1))) else (if x23.length < 17592186044416 then (ephemerislaw1_RecurDiffs.l1 k x14 x15 x18 x22 (x23 ++ [rd x131 x133]) x131 x132 (wrap64 (x133 + 1))) else (none)))) else (none)) else (none)) else ((ephemerisref1_SameInts.f k x14 x22).bind fun t333 => (if t333 = true then ((ephemerisref1_SameInts.f k x15 x23).bind fun t334 => (some t334)) else (some false)))
end
def ephemerislaw1_RecurDiffs.f (k : Nat) (a0_0 : Int) (a0_1 : Int) (a0_2 : Int) (a0_3 : Int) (a0_4 : Int) (l0_5 : List Int) (l0_6 : List Int) (l0_7 : List Int) (a1_0 : Int) (a1_1 : Int) (a1_2 : Int) (a1_3 : Int) (a1_4 : Int) (l1_5 : List Int) (l1_6 : List Int) (l1_7 : List Int) (a2 : Int) (a3 : Int) : Option (Bool) := (recur_Diff.f k 1 2 1 0 100 ([] : List Int) ([] : List Int) ([] : List Int) 1 3 1 0 100 ([] : List Int) ([] : List Int) ([] : List Int) 1 5).bind fun bt287 => (if bt287.2.2 = 0 then ((ephemerisref1_SameInts.f k bt287.1 (([3, 5] : List Int))).bind fun t297 => (if t297 = true then ((ephemerisref1_SameInts.f k bt287.2.1 (([4] : List Int))).bind fun t301 => (ephemerislaw1_RecurDiffs.j0 k a2 a3 (!t301) a0_0 a0_1 a0_2 a0_3 a0_4 l0_5 l0_6 l0_7 a1_0 a1_1 a1_2 a1_3 a1_4 l1_5 l1_6 l1_7)) else (ephemerislaw1_RecurDiffs.j0 k a2 a3 true a0_0 a0_1 a0_2 a0_3 a0_4 l0_5 l0_6 l0_7 a1_0 a1_1 a1_2 a1_3 a1_4 l1_5 l1_6 l1_7))) else (ephemerislaw1_RecurDiffs.j0 k a2 a3 true a0_0 a0_1 a0_2 a0_3 a0_4 l0_5 l0_6 l0_7 a1_0 a1_1 a1_2 a1_3 a1_4 l1_5 l1_6 l1_7))
theorem ephemerislaw1_RecurDiffs.mono_l : ∀ k, (∀ y0 y1 y2 y3 y4 y5 y6 y7 y8 y9 y10 y11 y12 y13 y14 y15 y16 y17 y18, LeO (ephemerislaw1_RecurDiffs.j0 k y0 y1 y2 y3 y4 y5 y6 y7 y8 y9 y10 y11 y12 y13 y14 y15 y16 y17 y18) (ephemerislaw1_RecurDiffs.j0 (k + 1) y0 y1 y2 y3 y4 y5 y6 y7 y8 y9 y10 y11 y12 y13 y14 y15 y16 y17 y18)) ∧ (∀ y0 y1 y2 y3 y4 y5 y6 y7 y8 y9 y10 y11 y12 y13 y14 y15 y16 y17 y18 y19 y20 y21, LeO (ephemerislaw1_RecurDiffs.j1 k y0 y1 y2 y3 y4 y5 y6 y7 y8 y9 y10 y11 y12 y13 y14 y15 y16 y17 y18 y19 y20 y21) (ephemerislaw1_RecurDiffs.j1 (k + 1) y0 y1 y2 y3 y4 y5 y6 y7 y8 y9 y10 y11 y12 y13 y14 y15 y16 y17 y18 y19 y20 y21)) ∧ (∀ y0 y1 y2 y3 y4 y5 y6 y7 y8 y9 y10 y11 y12 y13 y14 y15 y16 y17 y18 y19 y20 y21, LeO (ephemerislaw1_RecurDiffs.j2 k y0 y1 y2 y3 y4 y5 y6 y7 y8 y9 y10 y11 y12 y13 y14 y15 y16 y17 y18 y19 y20 y21) (ephemerislaw1_RecurDiffs.j2 (k + 1) y0 y1 y2 y3 y4 y5 y6 y7 y8 y9 y10 y11 y12 y13 y14 y15 y16 y17 y18 y19 y20 y21)) ∧ (∀ y0 y1 y2 y3 y4 y5 y6 y7 y8 y9 y10 y11 y12 y13 y14 y15 y16 y17 y18 y19 y20 y21, LeO (ephemerislaw1_RecurDiffs.j3 k y0 y1 y2 y3 y4 y5 y6 y7 y8 y9 y10 y11 y12 y13 y14 y15 y16 y17 y18 y19 y20 y21) (ephemerislaw1_RecurDiffs.j3 (k + 1) y0 y1 y2 y3 y4 y5 y6 y7 y8 y9 y10 y11 y12 y13 y14 y15 y16 y17 y18 y19 y20 y21)) ∧ (∀ y0 y1 y2 y3 y4 y5 y6 y7, LeO (ephemerislaw1_RecurDiffs.l0 k y0 y1 y2 y3 y4 y5 y6 y7) (ephemerislaw1_RecurDiffs.l0 (k + 1) y0 y1 y2 y3 y4 y5 y6 y7)) ∧ (∀ y0 y1 y2 y3 y4 y5 y6 y7, LeO (ephemerislaw1_RecurDiffs.l1 k y0 y1 y2 y3 y4 y5 y6 y7) (ephemerislaw1_RecurDiffs.l1 (k + 1) y0 y1 y2 y3 y4 y5 y6 y7))
 | 0 => ⟨fun _ _ _ _ _ _ _ _ _ _ _ _ _ _ _ _ _ _ _ r h => by simp [ephemerislaw1_RecurDiffs.j0] at h, fun _ _ _ _ _ _ _ _ _ _ _ _ _ _ _ _ _ _ _ _ _ _ r h => by simp [ephemerislaw1_RecurDiffs.j1] at h, fun _ _ _ _ _ _ _ _ _ _ _ _ _ _ _ _ _ _ _ _ _ _ r h => by simp [ephemerislaw1_RecurDiffs.j2] at h, fun _ _ _ _ _ _ _ _ _ _ _ _ _ _ _ _ _ _ _ _ _ _ r h => by simp [ephemerislaw1_RecurDiffs.j3] at h, fun _ _ _ _ _ _ _ _ r h => by simp [ephemerislaw1_RecurDiffs.l0] at h, fun _ _ _ _ _ _ _ _ r h => by simp [ephemerislaw1_RecurDiffs.l1] at h⟩
 | k + 1 => by
  obtain ⟨ih0, ih1, ih2, ih3, ih4, ih5⟩ := ephemerislaw1_RecurDiffs.mono_l k
  refine ⟨?_, ?_, ?_, ?_, ?_, ?_⟩
  ·intro y0 y1 y2 y3 y4 y5 y6 y7 y8 y9 y10 y11 y12 y13 y14 y15 y16 y17 y18
   unfold ephemerislaw1_RecurDiffs.j0
   repeat' first
   | (with_reducible exact ih0 _ _ _ _ _ _ _ _ _ _ _ _ _ _ _ _ _ _ _)
   | (with_reducible exact ih1 _ _ _ _ _ _ _ _ _ _ _ _ _ _ _ _ _ _ _ _ _ _)
   | (with_reducible exact ih2 _ _ _ _ _ _ _ _ _ _ _ _ _ _ _ _ _ _ _ _ _ _)
   | (with_reducible exact ih3 _ _ _ _ _ _ _ _ _ _ _ _ _ _ _ _ _ _ _ _ _ _)
   | (with_reducible exact ih4 _ _ _ _ _ _ _ _)
   | (with_reducible exact ih5 _ _ _ _ _ _ _ _)
   | (with_reducible exact ephemerislaw1_near.mono _ _ _ _ _ _ _ _ _ _ _)
   | (with_reducible exact ephemerislaw1_recurError.mono _ _ _ _ _ _ _ _ _ _ _)
   | (with_reducible exact ephemerisref1_RecurError.mono _ _ _ _ _ _ _ _ _)
   | (with_reducible exact ephemerisref1_SameInts.mono _ _ _)
   | (with_reducible exact recur_Days.mono _ _ _ _ _ _ _ _ _ _ _)
   | (with_reducible exact recur_Diff.mono _ _ _ _ _ _ _ _ _ _ _ _ _ _ _ _ _ _ _)
   | (with_reducible exact slices_Contains_int_int.mono _ _ _)
   | (with_reducible exact LeO.refl _)
   | (with_reducible exact LeO.none _)
   | (with_reducible refine LeO.ite ?_ ?_)
   | (with_reducible refine LeO.bind ?_ (fun _ => ?_))
   | exact ih0 _ _ _ _ _ _ _ _ _ _ _ _ _ _ _ _ _ _ _
   | exact ih1 _ _ _ _ _ _ _ _ _ _ _ _ _ _ _ _ _ _ _ _ _ _
   | exact ih2 _ _ _ _ _ _ _ _ _ _ _ _ _ _ _ _ _ _ _ _ _ _
   | exact ih3 _ _ _ _ _ _ _ _ _ _ _ _ _ _ _ _ _ _ _ _ _ _
   | exact ih4 _ _ _ _ _ _ _ _
   | exact ih5 _ _ _ _ _ _ _ _
   | exact ephemerislaw1_near.mono _ _ _ _ _ _ _ _ _ _ _
   | exact ephemerislaw1_recurError.mono _ _ _ _ _ _ _ _ _ _ _
   | exact ephemerisref1_RecurError.mono _ _ _ _ _ _ _ _ _
   | exact ephemerisref1_SameInts.mono _ _ _
   | exact recur_Days.mono _ _ _ _ _ _ _ _ _ _ _
   | exact recur_Diff.mono _ _ _ _ _ _ _ _ _ _ _ _ _ _ _ _ _ _ _
   | exact slices_Contains_int_int.mono _ _ _
   | exact LeO.none _
   | refine LeO.ite ?_ ?_
   | refine LeO.bind ?_ (fun _ => ?_)
  ·intro y0 y1 y2 y3 y4 y5 y6 y7 y8 y9 y10 y11 y12 y13 y14 y15 y16 y17 y18 y19 y20 y21
   unfold ephemerislaw1_RecurDiffs.j1
   repeat' first
   | (with_reducible exact ih0 _ _ _ _ _ _ _ _ _ _ _ _ _ _ _ _ _ _ _)
   | (with_reducible exact ih1 _ _ _ _ _ _ _ _ _ _ _ _ _ _ _ _ _ _ _ _ _ _)
   | (with_reducible exact ih2 _ _ _ _ _ _ _ _ _ _ _ _ _ _ _ _ _ _ _ _ _ _)
   | (with_reducible exact ih3 _ _ _ _ _ _ _ _ _ _ _ _ _ _ _ _ _ _ _ _ _ _)
   | (with_reducible exact ih4 _ _ _ _ _ _ _ _)
   | (with_reducible exact ih5 _ _ _ _ _ _ _ _)
   | (with_reducible exact ephemerislaw1_near.mono _ _ _ _ _ _ _ _ _ _ _)
   | (with_reducible exact ephemerislaw1_recurError.mono _ _ _ _ _ _ _ _ _ _ _)
   | (with_reducible exact ephemerisref1_RecurError.mono _ _ _ _ _ _ _ _ _)
   | (with_reducible exact ephemerisref1_SameInts.mono _ _ _)
   | (with_reducible exact recur_Days.mono _ _ _ _ _ _ _ _ _ _ _)
   | (with_reducible exact recur_Diff.mono _ _ _ _ _ _ _ _ _ _ _ _ _ _ _ _ _ _ _)
   | (with_reducible exact slices_Contains_int_int.mono _ _ _)
   | (with_reducible exact LeO.refl _)
   | (with_reducible exact LeO.none _)
   | (with_reducible refine LeO.ite ?_ ?_)
   | (with_reducible refine LeO.bind ?_ (fun _ => ?_))
   | exact ih0 _ _ _ _ _ _ _ _ _ _ _ _ _ _ _ _ _ _ _
   | exact ih1 _ _ _ _ _ _ _ _ _ _ _ _ _ _ _ _ _ _ _ _ _ _
   | exact ih2 _ _ _ _ _ _ _ _ _ _ _ _ _ _ _ _ _ _ _ _ _ _
   | exact ih3 _ _ _ _ _ _ _ _ _ _ _ _ _ _ _ _ _ _ _ _ _ _
   | exact ih4 _ _ _ _ _ _ _ _
   | exact ih5 _ _ _ _ _ _ _ _
   | exact ephemerislaw1_near.mono _ _ _ _ _ _ _ _ _ _ _
   | exact ephemerislaw1_recurError.mono _ _ _ _ _ _ _ _ _ _ _
   | exact ephemerisref1_RecurError.mono _ _ _ _ _ _ _ _ _
   | exact ephemerisref1_SameInts.mono _ _ _
   | exact recur_Days.mono _ _ _ _ _ _ _ _ _ _ _
   | exact recur_Diff.mono _ _ _ _ _ _ _ _ _ _ _ _ _ _ _ _ _ _ _
   | exact slices_Contains_int_int.mono _ _ _
   | exact LeO.none _
   | refine LeO.ite ?_ ?_
   | refine LeO.bind ?_ (fun _ => ?_)
  ·intro y0 y1 y2 y3 y4 y5 y6 y7 y8 y9 y10 y11 y12 y13 y14 y15 y16 y17 y18 y19 y20 y21
   unfold ephemerislaw1_RecurDiffs.j2
   repeat' first
   | (with_reducible exact ih0 _ _ _ _ _ _ _ _ _ _ _ _ _ _ _ _ _ _ _)
   | (with_reducible exact ih1 _ _ _ _ _ _ _ _ _ _ _ _ _ _ _ _ _ _ _ _ _ _)
   | (with_reducible exact ih2 _ _ _ _ _ _ _ _ _ _ _ _ _ _ _ _ _ _ _ _ _ _)
   | (with_reducible exact ih3 _ _ _ _ _ _ _ _ _ _ _ _ _ _ _ _ _ _ _ _ _ _)
   | (with_reducible exact ih4 _ _ _ _ _ _ _ _)
   | (with_reducible exact ih5 _ _ _ _ _ _ _ _)
   | (with_reducible exact ephemerislaw1_near.mono _ _ _ _ _ _ _ _ _ _ _)
   | (with_reducible exact ephemerislaw1_recurError.mono _ _ _ _ _ _ _ _ _ _ _)
   | (with_reducible exact ephemerisref1_RecurError.mono _ _ _ _ _ _ _ _ _)
   | (with_reducible exact ephemerisref1_SameInts.mono _ _ _)
   | (with_reducible exact recur_Days.mono _ _ _ _ _ _ _ _ _ _ _)
   | (with_reducible exact recur_Diff.mono _ _ _ _ _ _ _ _ _ _ _ _ _ _ _ _ _ _ _)
   | (with_reducible exact slices_Contains_int_int.mono _ _ _)
   | (with_reducible exact LeO.refl _)
   | (with_reducible exact LeO.none _)
   | (with_reducible refine LeO.ite ?_ ?_)
   | (with_reducible refine LeO.bind ?_ (fun _ => ?_))
   | exact ih0 _ _ _ _ _ _ _ _ _ _ _ _ _ _ _ _ _ _ _
   | exact ih1 _ _ _ _ _ _ _ _ _ _ _ _ _ _ _ _ _ _ _ _ _ _
   | exact ih2 _ _ _ _ _ _ _ _ _ _ _ _ _ _ _ _ _ _ _ _ _ _
   | exact ih3 _ _ _ _ _ _ _ _ _ _ _ _ _ _ _ _ _ _ _ _ _ _
   | exact ih4 _ _ _ _ _ _ _ _
   | exact ih5 _ _ _ _ _ _ _ _
   | exact ephemerislaw1_near.mono _ _ _ _ _ _ _ _ _ _ _
   | exact ephemerislaw1_recurError.mono _ _ _ _ _ _ _ _ _ _ _
   | exact ephemerisref1_RecurError.mono _ _ _ _ _ _ _ _ _
   | exact ephemerisref1_SameInts.mono _ _ _
   | exact recur_Days.mono _ _ _ _ _ _ _ _ _ _ _
   | exact recur_Diff.mono _ _ _ _ _ _ _ _ _ _ _ _ _ _ _ _ _ _ _
   | exact slices_Contains_int_int.mono _ _ _
   | exact LeO.none _
   | refine LeO.ite ?_ ?_
   | refine LeO.bind ?_ (fun _ => ?_)
  ·intro y0 y1 y2 y3 y4 y5 y6 y7 y8 y9 y10 y11 y12 y13 y14 y15 y16 y17 y18 y19 y20 y21
   unfold ephemerislaw1_RecurDiffs.j3
   repeat' first
   | (with_reducible exact ih0 _ _ _ _ _ _ _ _ _ _ _ _ _ _ _ _ _ _ _)
   | (with_reducible exact ih1 _ _ _ _ _ _ _ _ _ _ _ _ _ _ _ _ _ _ _ _ _ _)
   | (with_reducible exact ih2 _ _ _ _ _ _ _ _ _ _ _ _ _ _ _ _ _ _ _ _ _ _)
   | (with_reducible exact ih3 _ _ _ _ _ _ _ _ _ _ _ _ _ _ _ _ _ _ _ _ _ _)
   | (with_reducible exact ih4 _ _ _ _ _ _ _ _)
   | (with_reducible exact ih5 _ _ _ _ _ _ _ _)
   | (with_reducible exact ephemerislaw1_near.mono _ _ _ _ _ _ _ _ _ _ _)
   | (with_reducible exact ephemerislaw1_recurError.mono _ _ _ _ _ _ _ _ _ _ _)
   | (with_reducible exact ephemerisref1_RecurError.mono _ _ _ _ _ _ _ _ _)
   | (with_reducible exact ephemerisref1_SameInts.mono _ _ _)
   | (with_reducible exact recur_Days.mono _ _ _ _ _ _ _ _ _ _ _)
   | (with_reducible exact recur_Diff.mono _ _ _ _ _ _ _ _ _ _ _ _ _ _ _ _ _ _ _)
   | (with_reducible exact slices_Contains_int_int.mono _ _ _)
   | (with_reducible exact LeO.refl _)
   | (with_reducible exact LeO.none _)
   | (with_reducible refine LeO.ite ?_ ?_)
   | (with_reducible refine LeO.bind ?_ (fun _ => ?_))
   | exact ih0 _ _ _ _ _ _ _ _ _ _ _ _ _ _ _ _ _ _ _
   | exact ih1 _ _ _ _ _ _ _ _ _ _ _ _ _ _ _ _ _ _ _ _ _ _
   | exact ih2 _ _ _ _ _ _ _ _ _ _ _ _ _ _ _ _ _ _ _ _ _ _
   | exact ih3 _ _ _ _ _ _ _ _ _ _ _ _ _ _ _ _ _ _ _ _ _ _
   | exact ih4 _ _ _ _ _ _ _ _
   | exact ih5 _ _ _ _ _ _ _ _
   | exact ephemerislaw1_near.mono _ _ _ _ _ _ _ _ _ _ _
   | exact ephemerislaw1_recurError.mono _ _ _ _ _ _ _ _ _ _ _
   | exact ephemerisref1_RecurError.mono _ _ _ _ _ _ _ _ _
   | exact ephemerisref1_SameInts.mono _ _ _
   | exact recur_Days.mono _ _ _ _ _ _ _ _ _ _ _
   | exact recur_Diff.mono _ _ _ _ _ _ _ _ _ _ _ _ _ _ _ _ _ _ _
   | exact slices_Contains_int_int.mono _ _ _
   | exact LeO.none _
   | refine LeO.ite ?_ ?_
   | refine LeO.bind ?_ (fun _ => ?_)
  ·intro y0 y1 y2 y3 y4 y5 y6 y7
   unfold ephemerislaw1_RecurDiffs.l0
   repeat' first
   | (with_reducible exact ih0 _ _ _ _ _ _ _ _ _ _ _ _ _ _ _ _ _ _ _)
   | (with_reducible exact ih1 _ _ _ _ _ _ _ _ _ _ _ _ _ _ _ _ _ _ _ _ _ _)
   | (with_reducible exact ih2 _ _ _ _ _ _ _ _ _ _ _ _ _ _ _ _ _ _ _ _ _ _)
   | (with_reducible exact ih3 _ _ _ _ _ _ _ _ _ _ _ _ _ _ _ _ _ _ _ _ _ _)
   | (with_reducible exact ih4 _ _ _ _ _ _ _ _)
   | (with_reducible exact ih5 _ _ _ _ _ _ _ _)
   | (with_reducible exact ephemerislaw1_near.mono _ _ _ _ _ _ _ _ _ _ _)
   | (with_reducible exact ephemerislaw1_recurError.mono _ _ _ _ _ _ _ _ _ _ _)
   | (with_reducible exact ephemerisref1_RecurError.mono _ _ _ _ _ _ _ _ _)
   | (with_reducible exact ephemerisref1_SameInts.mono _ _ _)
   | (with_reducible exact recur_Days.mono _ _ _ _ _ _ _ _ _ _ _)
   | (with_reducible exact recur_Diff.mono _ _ _ _ _ _ _ _ _ _ _ _ _ _ _ _ _ _ _)
   | (with_reducible exact slices_Contains_int_int.mono _ _ _)
   | (with_reducible exact LeO.refl _)
   | (with_reducible exact LeO.none _)
   | (with_reducible refine LeO.ite ?_ ?_)
   | (with_reducible refine LeO.bind ?_ (fun _ => ?_))
   | exact ih0 _ _ _ _ _ _ _ _ _ _ _ _ _ _ _ _ _ _ _
   | exact ih1 _ _ _ _ _ _ _ _ _ _ _ _ _ _ _ _ _ _ _ _ _ _
   | exact ih2 _ _ _ _ _ _ _ _ _ _ _ _ _ _ _ _ _ _ _ _ _ _
   | exact ih3 _ _ _ _ _ _ _ _ _ _ _ _ _ _ _ _ _ _ _ _ _ _
   | exact ih4 _ _ _ _ _ _ _ _
   | exact ih5 _ _ _ _ _ _ _ _
   | exact ephemerislaw1_near.mono _ _ _ _ _ _ _ _ _ _ _
   | exact ephemerislaw1_recurError.mono _ _ _ _ _ _ _ _ _ _ _
   | exact ephemerisref1_RecurError.mono _ _ _ _ _ _ _ _ _
   | exact ephemerisref1_SameInts.mono _ _ _
   | exact recur_Days.mono _ _ _ _ _ _ _ _ _ _ _
   | exact recur_Diff.mono _ _ _ _ _ _ _ _ _ _ _ _ _ _ _ _ _ _ _
   | exact slices_Contains_int_int.mono _ _ _
   | exact LeO.none _
   | refine LeO.ite ?_ ?_
   | refine LeO.bind ?_ (fun _ => ?_)
  ·intro y0 y1 y2 y3 y4 y5 y6 y7
   unfold ephemerislaw1_RecurDiffs.l1
   repeat' first
   | (with_reducible exact ih0 _ _ _ _ _ _ _ _ _ _ _ _ _ _ _ _ _ _ _)
   | (with_reducible exact ih1 _ _ _ _ _ _ _ _ _ _ _ _ _ _ _ _ _ _ _ _ _ _)
   | (with_reducible exact ih2 _ _ _ _ _ _ _ _ _ _ _ _ _ _ _ _ _ _ _ _ _ _)
   | (with_reducible exact ih3 _ _ _ _ _ _ _ _ _ _ _ _ _ _ _ _ _ _ _ _ _ _)
   | (with_reducible exact ih4 _ _ _ _ _ _ _ _)
   | (with_reducible exact ih5 _ _ _ _ _ _ _ _)
   | (with_reducible exact ephemerislaw1_near.mono _ _ _ _ _ _ _ _ _ _ _)
   | (with_reducible exact ephemerislaw1_recurError.mono _ _ _ _ _ _ _ _ _ _ _)
   | (with_reducible exact ephemerisref1_RecurError.mono _ _ _ _ _ _ _ _ _)
   | (with_reducible exact ephemerisref1_SameInts.mono _ _ _)
   | (with_reducible exact recur_Days.mono _ _ _ _ _ _ _ _ _ _ _)
   | (with_reducible exact recur_Diff.mono _ _ _ _ _ _ _ _ _ _ _ _ _ _ _ _ _ _ _)
   | (with_reducible exact slices_Contains_int_int.mono _ _ _)
   | (with_reducible exact LeO.refl _)
   | (with_reducible exact LeO.none _)
   | (with_reducible refine LeO.ite ?_ ?_)
   | (with_reducible refine LeO.bind ?_ (fun _ => ?_))
   | exact ih0 _ _ _ _ _ _ _ _ _ _ _ _ _ _ _ _ _ _ _
   | exact ih1 _ _ _ _ _ _ _ _ _ _ _ _ _ _ _ _ _ _ _ _ _ _
   | exact ih2 _ _ _ _ _ _ _ _ _ _ _ _ _ _ _ _ _ _ _ _ _ _
   | exact ih3 _ _ _ _ _ _ _ _ _ _ _ _ _ _ _ _ _ _ _ _ _ _
   | exact ih4 _ _ _ _ _ _ _ _
   | exact ih5 _ _ _ _ _ _ _ _
   | exact ephemerislaw1_near.mono _ _ _ _ _ _ _ _ _ _ _
   | exact ephemerislaw1_recurError.mono _ _ _ _ _ _ _ _ _ _ _
   | exact ephemerisref1_RecurError.mono _ _ _ _ _ _ _ _ _
   | exact ephemerisref1_SameInts.mono _ _ _
   | exact recur_Days.mono _ _ _ _ _ _ _ _ _ _ _
   | exact recur_Diff.mono _ _ _ _ _ _ _ _ _ _ _ _ _ _ _ _ _ _ _
   | exact slices_Contains_int_int.mono _ _ _
   | exact LeO.none _
   | refine LeO.ite ?_ ?_
   | refine LeO.bind ?_ (fun _ => ?_)
theorem ephemerislaw1_RecurDiffs.mono : ∀ a0 a1 a2 a3 a4 a5 a6 a7 a8 a9 a10 a11 a12 a13 a14 a15 a16 a17 k, LeO (ephemerislaw1_RecurDiffs.f k a0 a1 a2 a3 a4 a5 a6 a7 a8 a9 a10 a11 a12 a13 a14 a15 a16 a17) (ephemerislaw1_RecurDiffs.f (k + 1) a0 a1 a2 a3 a4 a5 a6 a7 a8 a9 a10 a11 a12 a13 a14 a15 a16 a17) := by
 intro a0 a1 a2 a3 a4 a5 a6 a7 a8 a9 a10 a11 a12 a13 a14 a15 a16 a17 k
 obtain ⟨ih0, ih1, ih2, ih3, ih4, ih5⟩ := ephemerislaw1_RecurDiffs.mono_l k
 unfold ephemerislaw1_RecurDiffs.f
 repeat' first
   | (with_reducible exact ih0 _ _ _ _ _ _ _ _ _ _ _ _ _ _ _ _ _ _ _)
   | (with_reducible exact ih1 _ _ _ _ _ _ _ _ _ _ _ _ _ _ _ _ _ _ _ _ _ _)
   | (with_reducible exact ih2 _ _ _ _ _ _ _ _ _ _ _ _ _ _ _ _ _ _ _ _ _ _)
   | (with_reducible exact ih3 _ _ _ _ _ _ _ _ _ _ _ _ _ _ _ _ _ _ _ _ _ _)
   | (with_reducible exact ih4 _ _ _ _ _ _ _ _)
   | (with_reducible exact ih5 _ _ _ _ _ _ _ _)
   | (with_reducible exact ephemerislaw1_near.mono _ _ _ _ _ _ _ _ _ _ _)
   | (with_reducible exact ephemerislaw1_recurError.mono _ _ _ _ _ _ _ _ _ _ _)
   | (with_reducible exact ephemerisref1_RecurError.mono _ _ _ _ _ _ _ _ _)
   | (with_reducible exact ephemerisref1_SameInts.mono _ _ _)
   | (with_reducible exact recur_Days.mono _ _ _ _ _ _ _ _ _ _ _)
   | (with_reducible exact recur_Diff.mono _ _ _ _ _ _ _ _ _ _ _ _ _ _ _ _ _ _ _)
   | (with_reducible exact slices_Contains_int_int.mono _ _ _)
   | (with_reducible exact LeO.refl _)
   | (with_reducible exact LeO.none _)
   | (with_reducible refine LeO.ite ?_ ?_)
   | (with_reducible refine LeO.bind ?_ (fun _ => ?_))
   | exact ih0 _ _ _ _ _ _ _ _ _ _ _ _ _ _ _ _ _ _ _
   | exact ih1 _ _ _ _ _ _ _ _ _ _ _ _ _ _ _ _ _ _ _ _ _ _
   | exact ih2 _ _ _ _ _ _ _ _ _ _ _ _ _ _ _ _ _ _ _ _ _ _
   | exact ih3 _ _ _ _ _ _ _ _ _ _ _ _ _ _ _ _ _ _ _ _ _ _
   | exact ih4 _ _ _ _ _ _ _ _
   | exact ih5 _ _ _ _ _ _ _ _
   | exact ephemerislaw1_near.mono _ _ _ _ _ _ _ _ _ _ _
   | exact ephemerislaw1_recurError.mono _ _ _ _ _ _ _ _ _ _ _
   | exact ephemerisref1_RecurError.mono _ _ _ _ _ _ _ _ _
   | exact ephemerisref1_SameInts.mono _ _ _
   | exact recur_Days.mono _ _ _ _ _ _ _ _ _ _ _
   | exact recur_Diff.mono _ _ _ _ _ _ _ _ _ _ _ _ _ _ _ _ _ _ _
   | exact slices_Contains_int_int.mono _ _ _
   | exact LeO.none _
   | refine LeO.ite ?_ ?_
   | refine LeO.bind ?_ (fun _ => ?_)
set_option maxHeartbeats 8000000 in
set_option maxRecDepth 100000 in
theorem ephemerislaw1_RecurDiffs.calls (k : Nat) (a0_0 : Int) (a0_1 : Int) (a0_2 : Int) (a0_3 : Int) (a0_4 : Int) (A0_5 : Option Addr) (c0_5 : Nat) (l0_5 : List Int) (A0_6 : Option Addr) (c0_6 : Nat) (l0_6 : List Int) (A0_7 : Option Addr) (c0_7 : Nat) (l0_7 : List Int) (a1_0 : Int) (a1_1 : Int) (a1_2 : Int) (a1_3 : Int) (a1_4 : Int) (A1_5 : Option Addr) (c1_5 : Nat) (l1_5 : List Int) (A1_6 : Option Addr) (c1_6 : Nat) (l1_6 : List Int) (A1_7 : Option Addr) (c1_7 : Nat) (l1_7 : List Int) (a2 : Int) (a3 : Int) (r : Bool) (w : World) (hr0_5 : Kd.C (Kd.int .i64) w A0_5 l0_5.length l0_5) (hc0_5 : l0_5.length ≤ c0_5) (hr0_6 : Kd.C (Kd.int .i64) w A0_6 l0_6.length l0_6) (hc0_6 : l0_6.length ≤ c0_6) (hr0_7 : Kd.C (Kd.int .i64) w A0_7 l0_7.length l0_7) (hc0_7 : l0_7.length ≤ c0_7) (hr1_5 : Kd.C (Kd.int .i64) w A1_5 l1_5.length l1_5) (hc1_5 : l1_5.length ≤ c1_5) (hr1_6 : Kd.C (Kd.int .i64) w A1_6 l1_6.length l1_6) (hc1_6 : l1_6.length ≤ c1_6) (hr1_7 : Kd.C (Kd.int .i64) w A1_7 l1_7.length l1_7) (hc1_7 : l1_7.length ≤ c1_7) (h : ephemerislaw1_RecurDiffs.f k a0_0 a0_1 a0_2 a0_3 a0_4 l0_5 l0_6 l0_7 a1_0 a1_1 a1_2 a1_3 a1_4 l1_5 l1_6 l1_7 a2 a3 = some r) :
  Calls Try.prog 7 #[.agg #[.int .i64 a0_0, .int .i64 a0_1, .int .i64 a0_2, .int .i64 a0_3, .int .i64 a0_4, .slice A0_5 l0_5.length c0_5, .slice A0_6 l0_6.length c0_6, .slice A0_7 l0_7.length c0_7], .agg #[.int .i64 a1_0, .int .i64 a1_1, .int .i64 a1_2, .int .i64 a1_3, .int .i64 a1_4, .slice A1_5 l1_5.length c1_5, .slice A1_6 l1_6.length c1_6, .slice A1_7 l1_7.length c1_7], .int .i64 a2, .int .i64 a3] w fun e w' => e = .returned (.bool r) ∧ Below w.heap.size w w' := by
 have hu33 := Try.underlying33
 have HR0_5 := Aside0.mk hr0_5
 have HC0_5 := Aside0.mk hc0_5
 clear hr0_5 hc0_5
 have HR0_6 := Aside0.mk hr0_6
 have HC0_6 := Aside0.mk hc0_6
 clear hr0_6 hc0_6
 have HR0_7 := Aside0.mk hr0_7
 have HC0_7 := Aside0.mk hc0_7
 clear hr0_7 hc0_7
 have HR1_5 := Aside0.mk hr1_5
 have HC1_5 := Aside0.mk hc1_5
 clear hr1_5 hc1_5
 have HR1_6 := Aside0.mk hr1_6
 have HC1_6 := Aside0.mk hc1_6
 clear hr1_6 hc1_6
 have HR1_7 := Aside0.mk hr1_7
 have HC1_7 := Aside0.mk hc1_7
 clear hr1_7 hc1_7
 have HB := Aside0.mk (Below.refl w.heap.size w)
 have H : ((recur_Diff.f k 1 2 1 0 100 ([] : List Int) ([] : List Int) ([] : List Int) 1 3 1 0 100 ([] : List Int) ([] : List Int) ([] : List Int) 1 5).bind fun bt287 => (if bt287.2.2 = 0 then ((ephemerisref1_SameInts.f k bt287.1 (([3, 5] : List Int))).bind fun t297 => (if t297 = true then ((ephemerisref1_SameInts.f k bt287.2.1 (([4] : List Int))).bind fun t301 => (ephemerislaw1_RecurDiffs.j0 k a2 a3 (!t301) a0_0 a0_1 a0_2 a0_3 a0_4 l0_5 l0_6 l0_7 a1_0 a1_1 a1_2 a1_3 a1_4 l1_5 l1_6 l1_7)) else (ephemerislaw1_RecurDiffs.j0 k a2 a3 true a0_0 a0_1 a0_2 a0_3 a0_4 l0_5 l0_6 l0_7 a1_0 a1_1 a1_2 a1_3 a1_4 l1_5 l1_6 l1_7))) else (ephemerislaw1_RecurDiffs.j0 k a2 a3 true a0_0 a0_1 a0_2 a0_3 a0_4 l0_5 l0_6 l0_7 a1_0 a1_1 a1_2 a1_3 a1_4 l1_5 l1_6 l1_7))) = some r := h
 clear h
 replace H := Option.bind_eq_some_iff.mp H
 obtain ⟨⟨t287, t290, t293⟩, A50, H⟩ := H
 replace H : (if t293 = 0 then ((ephemerisref1_SameInts.f k t287 (([3, 5] : List Int))).bind fun t297 => (if t297 = true then ((ephemerisref1_SameInts.f k t290 (([4] : List Int))).bind fun t301 => (ephemerislaw1_RecurDiffs.j0 k a2 a3 (!t301) a0_0 a0_1 a0_2 a0_3 a0_4 l0_5 l0_6 l0_7 a1_0 a1_1 a1_2 a1_3 a1_4 l1_5 l1_6 l1_7)) else (ephemerislaw1_RecurDiffs.j0 k a2 a3 true a0_0 a0_1 a0_2 a0_3 a0_4 l0_5 l0_6 l0_7 a1_0 a1_1 a1_2 a1_3 a1_4 l1_5 l1_6 l1_7))) else (ephemerislaw1_RecurDiffs.j0 k a2 a3 true a0_0 a0_1 a0_2 a0_3 a0_4 l0_5 l0_6 l0_7 a1_0 a1_1 a1_2 a1_3 a1_4 l1_5 l1_6 l1_7)) = some r := H
 have A5 := Aside0.mk A50
 clear A50
 have HC6 := Aside0.mk H
 clear H
 go_enter Try.func7, Try.ntmps7
 go_upto_region 3 with (first | ((with_reducible refine gate_dst (N := 4) rfl ?_); (try (refine gate_guard (by rfl) ?_; dsimp only)); refine box_event ?hg (N := 4) ?hd (cs := #[.int .i64 a0_0, .int .i64 a0_1, .int .i64 a0_2, .int .i64 a0_3, .int .i64 a0_4, .slice A0_5 l0_5.length c0_5, .slice A0_6 l0_6.length c0_6, .slice A0_7 l0_7.length c0_7]) (t := 33) ?hr ?_; (case hd => rfl); (case hg => rfl); (case hr => first | (go_simp; done) | (go_simp; rfl)); intro gb283 hg w7 hbox hb; have n0_ := Aside0.mk (below_step be hb); have n1_ := Aside0.mk (hbox); have n2_ := gs hg HB; have n3_ := n2_; clear HB; have HB := n0_; have BK283 := n1_; have GW283 := n2_; have GE283 := n3_; clear n0_ n1_ n2_ n3_; clear hb hbox hg) | ((with_reducible refine gate_dst (N := 5) rfl ?_); (try (refine gate_guard (by rfl) ?_; dsimp only)); refine box_event ?hg (N := 5) ?hd (cs := #[.int .i64 a1_0, .int .i64 a1_1, .int .i64 a1_2, .int .i64 a1_3, .int .i64 a1_4, .slice A1_5 l1_5.length c1_5, .slice A1_6 l1_6.length c1_6, .slice A1_7 l1_7.length c1_7]) (t := 33) ?hr ?_; (case hd => rfl); (case hg => rfl); (case hr => first | (go_simp; done) | (go_simp; rfl)); intro gb284 hg w8 hbox hb; have n0_ := bb BK283 hb; have n1_ := Aside0.mk (below_step be hb); have n2_ := Aside0.mk (hbox); have n3_ := gs hg HB; have n4_ := n3_; have n5_ := nl BK283 hg; have n6_ := ns n5_; clear BK283; clear HB; have BK283 := n0_; have HB := n1_; have BK284 := n2_; have GW284 := n3_; have GE284 := n4_; have NB283_284 := n5_; have NB284_283 := n6_; clear n0_ n1_ n2_ n3_ n4_ n5_ n6_; clear hb hbox hg) | ((with_reducible refine gate_dst (N := 9) rfl ?_); (try (refine gate_guard (by rfl) ?_; dsimp only)); refine box_event ?hg (N := 9) ?hd (cs := #[.int .i64 0, .int .i64 0, .int .i64 0, .int .i64 0, .int .i64 0, .slice none 0 0, .slice none 0 0, .slice none 0 0]) (t := 33) ?hr ?_; (case hd => rfl); (case hg => rfl); (case hr => first | (go_simp; done) | (go_simp; rfl)); intro gb285 hg w9 hbox hb; have n0_ := bb BK283 hb; have n1_ := bb BK284 hb; have n2_ := Aside0.mk (below_step be hb); have n3_ := Aside0.mk (hbox); have n4_ := gs hg HB; have n5_ := n4_; have n6_ := nl BK283 hg; have n7_ := ns n6_; have n8_ := nl BK284 hg; have n9_ := ns n8_; clear BK283; clear BK284; clear HB; have BK283 := n0_; have BK284 := n1_; have HB := n2_; have BK285 := n3_; have GW285 := n4_; have GE285 := n5_; have NB283_285 := n6_; have NB285_283 := n7_; have NB284_285 := n8_; have NB285_284 := n9_; clear n0_ n1_ n2_ n3_ n4_ n5_ n6_ n7_ n8_ n9_; clear hb hbox hg) | ((with_reducible refine gate_dst (N := 10) rfl ?_); (try (refine gate_guard (by rfl) ?_; dsimp only)); refine box_event ?hg (N := 10) ?hd (cs := #[.int .i64 0, .int .i64 0, .int .i64 0, .int .i64 0, .int .i64 0, .slice none 0 0, .slice none 0 0, .slice none 0 0]) (t := 33) ?hr ?_; (case hd => rfl); (case hg => rfl); (case hr => first | (go_simp; done) | (go_simp; rfl)); intro gb286 hg w10 hbox hb; have n0_ := bb BK283 hb; have n1_ := bb BK284 hb; have n2_ := bb BK285 hb; have n3_ := Aside0.mk (below_step be hb); have n4_ := Aside0.mk (hbox); have n5_ := gs hg HB; have n6_ := n5_; have n7_ := nl BK283 hg; have n8_ := ns n7_; have n9_ := nl BK284 hg; have n10_ := ns n9_; have n11_ := nl BK285 hg; have n12_ := ns n11_; clear BK283; clear BK284; clear BK285; clear HB; have BK283 := n0_; have BK284 := n1_; have BK285 := n2_; have HB := n3_; have BK286 := n4_; have GW286 := n5_; have GE286 := n6_; have NB283_286 := n7_; have NB286_283 := n8_; have NB284_286 := n9_; have NB286_284 := n10_; have NB285_286 := n11_; have NB286_285 := n12_; clear n0_ n1_ n2_ n3_ n4_ n5_ n6_ n7_ n8_ n9_ n10_ n11_ n12_; clear hb hbox hg; have hnb11 := NB285_283.out; have hnc11 := NB283_285.out; have hnb12 := NB285_284.out; have hnc12 := NB284_285.out; have hnb13 := NB285_286.out; have hnc13 := NB286_285.out; obtain ⟨hcz14_0, hcz14_1, hcz14_2, hcz14_3, hcz14_4, hcz14_5, hcz14_6, hcz14_7, hfz14_0, hfz14_1, hfz14_2, hfz14_3, hfz14_4, hfz14_5, hfz14_6, hfz14_7⟩ := bc8 BK285; have hnb15 := NB286_283.out; have hnc15 := NB283_286.out; have hnb16 := NB286_284.out; have hnc16 := NB284_286.out; obtain ⟨hcz17_0, hcz17_1, hcz17_2, hcz17_3, hcz17_4, hcz17_5, hcz17_6, hcz17_7, hfz17_0, hfz17_1, hfz17_2, hfz17_3, hfz17_4, hfz17_5, hfz17_6, hfz17_7⟩ := bc8 BK286) | ((with_reducible refine gate_callee (f := 31) rfl ?_); refine goesL_ (some 33) rfl rfl Try.func31 kx rfl #[.agg #[.int .i64 1, .int .i64 2, .int .i64 1, .int .i64 0, .int .i64 100, .slice none 0 0, .slice none 0 0, .slice none 0 0], .agg #[.int .i64 1, .int .i64 3, .int .i64 1, .int .i64 0, .int .i64 100, .slice none 0 0, .slice none 0 0, .slice none 0 0], .int .i64 1, .int .i64 5] rfl aa ?_; (refine (recur_Diff.calls k 1 2 1 0 100 _ _ ([] : List Int) _ _ ([] : List Int) _ _ ([] : List Int) 1 3 1 0 100 _ _ ([] : List Int) _ _ ([] : List Int) _ _ ([] : List Int) 1 5 t287 t290 t293 _ ?side1 ?side2 ?side3 ?side4 ?side5 ?side6 ?side7 ?side8 ?side9 ?side10 ?side11 ?side12 A5.out).mono ?_); (case side1 => exact Kd.C_nil _ _); (case side2 => exact Nat.le_refl _); (case side3 => exact Kd.C_nil _ _); (case side4 => exact Nat.le_refl _); (case side5 => exact Kd.C_nil _ _); (case side6 => exact Nat.le_refl _); (case side7 => exact Kd.C_nil _ _); (case side8 => exact Nat.le_refl _); (case side9 => exact Kd.C_nil _ _); (case side10 => exact Nat.le_refl _); (case side11 => exact Kd.C_nil _ _); (case side12 => exact Nat.le_refl _); rintro e w18 ⟨v288, v291, rfl, ho0, ho1, hb⟩; refine ⟨_, rfl, ?_⟩; have n0_ := Aside0.mk (Kd.R_lower ho0 (below_size be)); have n1_ := Aside0.mk (Kd.R_lower ho1 (below_size be)); have n2_ := bb BK283 hb; have n3_ := bb BK284 hb; have n4_ := Aside0.mk (blk_below (g := gb285) (o := .cells #[.int .i64 1, .int .i64 2, .int .i64 1, .int .i64 0, .int .i64 100, .slice none 0 0, .slice none 0 0, .slice none 0 0] 33 (0, 0)) (bk BK285) hb); have n5_ := Aside0.mk (blk_below (g := gb286) (o := .cells #[.int .i64 1, .int .i64 3, .int .i64 1, .int .i64 0, .int .i64 100, .slice none 0 0, .slice none 0 0, .slice none 0 0] 33 (0, 0)) (bk BK286) hb); have n6_ := Aside0.mk (below_step be hb); clear BK283; clear BK284; clear BK285; clear BK286; clear HB; have HO289 := n0_; have HO292 := n1_; have BK283 := n2_; have BK284 := n3_; have BK285 := n4_; have BK286 := n5_; have HB := n6_; clear n0_ n1_ n2_ n3_ n4_ n5_ n6_; (try clear hb); (try clear hb2); (try clear hk); (try clear hi); (try clear ho0); (try clear ho1)))
 (try simp only [Act.put, List.setIfInBounds_toArray, List.set_cons_zero, List.set_cons_succ])
 go_cut [50] (fun v50 wc => ∃ (kq : Nat) (x50_5 : Bool), v50 = .bool x50_5 ∧ Aside0 (ephemerislaw1_RecurDiffs.j0 kq a2 a3 x50_5 a0_0 a0_1 a0_2 a0_3 a0_4 l0_5 l0_6 l0_7 a1_0 a1_1 a1_2 a1_3 a1_4 l1_5 l1_6 l1_7 = some r) ∧ Aside0 (kq ≤ k) ∧ Aside0 (wc.heap[gb283]? = some (.cells #[.int .i64 a0_0, .int .i64 a0_1, .int .i64 a0_2, .int .i64 a0_3, .int .i64 a0_4, (.slice A0_5 l0_5.length c0_5), (.slice A0_6 l0_6.length c0_6), (.slice A0_7 l0_7.length c0_7)] 33 (0, 0))) ∧ Aside0 (wc.heap[gb284]? = some (.cells #[.int .i64 a1_0, .int .i64 a1_1, .int .i64 a1_2, .int .i64 a1_3, .int .i64 a1_4, (.slice A1_5 l1_5.length c1_5), (.slice A1_6 l1_6.length c1_6), (.slice A1_7 l1_7.length c1_7)] 33 (0, 0))) ∧ Aside0 (wc.heap[gb285]? = some (.cells #[.int .i64 1, .int .i64 2, .int .i64 1, .int .i64 0, .int .i64 100, (.slice none 0 0), (.slice none 0 0), (.slice none 0 0)] 33 (0, 0))) ∧ Aside0 (wc.heap[gb286]? = some (.cells #[.int .i64 1, .int .i64 3, .int .i64 1, .int .i64 0, .int .i64 100, (.slice none 0 0), (.slice none 0 0), (.slice none 0 0)] 33 (0, 0))) ∧ Aside0 (Below w.heap.size w wc))
 case first =>
  have H := HC6.out
  clear HC6
  by_cases c19 : t293 = 0
  ·rw [if_pos c19] at H
   have c19b0 : (t293 == 0) = true := beq_iff_eq.mpr c19
   have c19b1 : (t293 != 0) = false := bne_eq_false_iff_eq.mpr c19
   clear c19
   (first | rw [c19b0] | (simp only [i64_w, i32_w]; rw [c19b0]) | skip)
   obtain ⟨y294, hy294⟩ : ∃ y_ : List Int, y_ = (([3, 5] : List Int)) := ⟨_, rfl⟩
   replace H : ((ephemerisref1_SameInts.f k t287 y294).bind fun t297 => (if t297 = true then ((ephemerisref1_SameInts.f k t290 (([4] : List Int))).bind fun t301 => (ephemerislaw1_RecurDiffs.j0 k a2 a3 (!t301) a0_0 a0_1 a0_2 a0_3 a0_4 l0_5 l0_6 l0_7 a1_0 a1_1 a1_2 a1_3 a1_4 l1_5 l1_6 l1_7)) else (ephemerislaw1_RecurDiffs.j0 k a2 a3 true a0_0 a0_1 a0_2 a0_3 a0_4 l0_5 l0_6 l0_7 a1_0 a1_1 a1_2 a1_3 a1_4 l1_5 l1_6 l1_7))) = some r := rp hy294 H
   have Ny294 := Aside0.mk hy294
   clear hy294
   replace H := Option.bind_eq_some_iff.mp H
   obtain ⟨t297, A200, H⟩ := H
   replace H : (if t297 = true then ((ephemerisref1_SameInts.f k t290 (([4] : List Int))).bind fun t301 => (ephemerislaw1_RecurDiffs.j0 k a2 a3 (!t301) a0_0 a0_1 a0_2 a0_3 a0_4 l0_5 l0_6 l0_7 a1_0 a1_1 a1_2 a1_3 a1_4 l1_5 l1_6 l1_7)) else (ephemerislaw1_RecurDiffs.j0 k a2 a3 true a0_0 a0_1 a0_2 a0_3 a0_4 l0_5 l0_6 l0_7 a1_0 a1_1 a1_2 a1_3 a1_4 l1_5 l1_6 l1_7)) = some r := H
   have A20 := Aside0.mk A200
   clear A200
   by_cases c21 : t297 = true
   ·subst c21
    have H1 : ((ephemerisref1_SameInts.f k t290 (([4] : List Int))).bind fun t301 => (ephemerislaw1_RecurDiffs.j0 k a2 a3 (!t301) a0_0 a0_1 a0_2 a0_3 a0_4 l0_5 l0_6 l0_7 a1_0 a1_1 a1_2 a1_3 a1_4 l1_5 l1_6 l1_7)) = some r := by rw [if_pos rfl] at H; exact H
    clear H
    have H := H1
    clear H1
    obtain ⟨y298, hy298⟩ : ∃ y_ : List Int, y_ = (([4] : List Int)) := ⟨_, rfl⟩
    replace H : ((ephemerisref1_SameInts.f k t290 y298).bind fun t301 => (ephemerislaw1_RecurDiffs.j0 k a2 a3 (!t301) a0_0 a0_1 a0_2 a0_3 a0_4 l0_5 l0_6 l0_7 a1_0 a1_1 a1_2 a1_3 a1_4 l1_5 l1_6 l1_7)) = some r := rp hy298 H
    have Ny298 := Aside0.mk hy298
    clear hy298
    replace H := Option.bind_eq_some_iff.mp H
    obtain ⟨t301, A220, H⟩ := H
    replace H : (ephemerislaw1_RecurDiffs.j0 k a2 a3 (!t301) a0_0 a0_1 a0_2 a0_3 a0_4 l0_5 l0_6 l0_7 a1_0 a1_1 a1_2 a1_3 a1_4 l1_5 l1_6 l1_7) = some r := H
    have A22 := Aside0.mk A220
    clear A220
    have H' := Aside0.mk H
    clear H
    go_wp2_with (first | ((with_reducible refine gate_dst (N := 41) rfl ?_); (try (refine gate_guard (by rfl) ?_; dsimp only)); refine Kd.R_lit (Kd.int .i64) _ 3 ?hg (N := 41) ?hd (xs := ([3, 5] : List Int)) (inner := [.int .i64 3, .int .i64 5]) (ok := fun _ => True) (okp := fun _ => True) ?hr ?hp (fun _ hk => hk) trivial (Below.refl _ _) (Nat.le_refl _) (by simp) ?_; (case hd => rfl); (case hg => rfl); (case hr => first | (go_simp; done) | (go_simp; rfl)); (case hp => exact (Reps.one (show Kd.M (Kd.int .i64) _ _ _ 3 [.int .i64 3] from rfl) (Reps.one (show Kd.M (Kd.int .i64) _ _ _ 5 [.int .i64 5] from rfl) (Reps.none _ _)))); intro v295 w23 ho24 hb hg_ hnew_; clear hg_ hnew_; (first | rw [← Ny294.out] at ho24 | (simp only [Int.reduceToNat] at ho24; rw [← Ny294.out] at ho24)); have n0_ := Aside0.mk (Kd.R_elder' (by (with_reducible repeat (first | apply Kd.R_alloc | apply Kd.R_drewN | apply Kd.R_drew)); exact HO289.out) (Kd.R_base ho24) hb); have n1_ := Aside0.mk (Kd.R_elder' (by (with_reducible repeat (first | apply Kd.R_alloc | apply Kd.R_drewN | apply Kd.R_drew)); exact HO292.out) (Kd.R_base ho24) hb); have n2_ := Aside0.mk (Kd.R_lower (Kd.R_new' (Kd.R_new' ho24 (Kd.R_lt (by (with_reducible repeat (first | apply Kd.R_alloc | apply Kd.R_drewN | apply Kd.R_drew)); exact HO289.out))) (Kd.R_lt (by (with_reducible repeat (first | apply Kd.R_alloc | apply Kd.R_drewN | apply Kd.R_drew)); exact HO292.out))) (below_size be)); have n3_ := bb BK283 hb; have n4_ := bb BK284 hb; have n5_ := bb BK285 hb; have n6_ := bb BK286 hb; have n7_ := Aside0.mk (below_step be hb); clear HO289; clear HO292; clear BK283; clear BK284; clear BK285; clear BK286; clear HB; have HO289 := n0_; have HO292 := n1_; have HO296 := n2_; have BK283 := n3_; have BK284 := n4_; have BK285 := n5_; have BK286 := n6_; have HB := n7_; clear n0_ n1_ n2_ n3_ n4_ n5_ n6_ n7_; clear hb ho24; obtain ⟨Ao25, co25, eo25⟩ := Kd.R_slice HO289.out; subst eo25; obtain ⟨Ao26, co26, eo26⟩ := Kd.R_slice HO296.out; subst eo26) | (go_at_call 15; (with_reducible refine (ephemerisref1_SameInts.calls k _ _ t287 _ _ y294 true _ ?side1 ?side2 ?side3 ?side4 A20.out).mono ?_); (case side1 => repeat (first | exact (Kd.R_reads' HO289.out).2.2 | (with_reducible refine Kd.C_alloc ?_ _) | (with_reducible refine Kd.C_drewN ?_ _) | (with_reducible refine Kd.C_drew ?_))); (case side2 => exact (Kd.R_reads' HO289.out).2.1); (case side3 => repeat (first | exact (Kd.R_reads' HO296.out).2.2 | (with_reducible refine Kd.C_alloc ?_ _) | (with_reducible refine Kd.C_drewN ?_ _) | (with_reducible refine Kd.C_drew ?_))); (case side4 => exact (Kd.R_reads' HO296.out).2.1); rintro e w' ⟨rfl, ⟨nd, rfl⟩⟩) | ((with_reducible refine gate_dst (N := 47) rfl ?_); (try (refine gate_guard (by rfl) ?_; dsimp only)); refine Kd.R_lit (Kd.int .i64) _ 3 ?hg (N := 47) ?hd (xs := ([4] : List Int)) (inner := [.int .i64 4]) (ok := fun _ => True) (okp := fun _ => True) ?hr ?hp (fun _ hk => hk) trivial (Below.refl _ _) (Nat.le_refl _) (by simp) ?_; (case hd => rfl); (case hg => rfl); (case hr => first | (go_simp; done) | (go_simp; rfl)); (case hp => exact (Reps.one (show Kd.M (Kd.int .i64) _ _ _ 4 [.int .i64 4] from rfl) (Reps.none _ _))); intro v299 w27 ho28 hb hg_ hnew_; clear hg_ hnew_; (first | rw [← Ny298.out] at ho28 | (simp only [Int.reduceToNat] at ho28; rw [← Ny298.out] at ho28)); have n0_ := Aside0.mk (Kd.R_elder' (by (with_reducible repeat (first | apply Kd.R_alloc | apply Kd.R_drewN | apply Kd.R_drew)); exact HO289.out) (Kd.R_base ho28) hb); have n1_ := Aside0.mk (Kd.R_elder' (by (with_reducible repeat (first | apply Kd.R_alloc | apply Kd.R_drewN | apply Kd.R_drew)); exact HO292.out) (Kd.R_base ho28) hb); have n2_ := Aside0.mk (Kd.R_elder' (by (with_reducible repeat (first | apply Kd.R_alloc | apply Kd.R_drewN | apply Kd.R_drew)); exact HO296.out) (Kd.R_base ho28) hb); have n3_ := Aside0.mk (Kd.R_lower (Kd.R_new' (Kd.R_new' (Kd.R_new' ho28 (Kd.R_lt (by (with_reducible repeat (first | apply Kd.R_alloc | apply Kd.R_drewN | apply Kd.R_drew)); exact HO289.out))) (Kd.R_lt (by (with_reducible repeat (first | apply Kd.R_alloc | apply Kd.R_drewN | apply Kd.R_drew)); exact HO292.out))) (Kd.R_lt (by (with_reducible repeat (first | apply Kd.R_alloc | apply Kd.R_drewN | apply Kd.R_drew)); exact HO296.out))) (below_size be)); have n4_ := bb BK283 hb; have n5_ := bb BK284 hb; have n6_ := bb BK285 hb; have n7_ := bb BK286 hb; have n8_ := Aside0.mk (below_step be hb); clear HO289; clear HO292; clear HO296; clear BK283; clear BK284; clear BK285; clear BK286; clear HB; have HO289 := n0_; have HO292 := n1_; have HO296 := n2_; have HO300 := n3_; have BK283 := n4_; have BK284 := n5_; have BK285 := n6_; have BK286 := n7_; have HB := n8_; clear n0_ n1_ n2_ n3_ n4_ n5_ n6_ n7_ n8_; clear hb ho28; obtain ⟨Ao29, co29, eo29⟩ := Kd.R_slice HO292.out; subst eo29; obtain ⟨Ao30, co30, eo30⟩ := Kd.R_slice HO300.out; subst eo30) | (go_at_call 15; (with_reducible refine (ephemerisref1_SameInts.calls k _ _ t290 _ _ y298 t301 _ ?side1 ?side2 ?side3 ?side4 A22.out).mono ?_); (case side1 => repeat (first | exact (Kd.R_reads' HO292.out).2.2 | (with_reducible refine Kd.C_alloc ?_ _) | (with_reducible refine Kd.C_drewN ?_ _) | (with_reducible refine Kd.C_drew ?_))); (case side2 => exact (Kd.R_reads' HO292.out).2.1); (case side3 => repeat (first | exact (Kd.R_reads' HO300.out).2.2 | (with_reducible refine Kd.C_alloc ?_ _) | (with_reducible refine Kd.C_drewN ?_ _) | (with_reducible refine Kd.C_drew ?_))); (case side4 => exact (Kd.R_reads' HO300.out).2.1); rintro e w' ⟨rfl, ⟨nd, rfl⟩⟩))
    go_meet
    case rel => exact ⟨_, (!t301), rs, H', ⟨by first | omega | exact Nat.le_refl _⟩, ⟨bk BK283⟩, ⟨bk BK284⟩, ⟨bk BK285⟩, ⟨bk BK286⟩, ⟨be⟩⟩
   ·replace c21 := Bool.eq_false_iff.mpr c21
    subst c21
    have H1 : (ephemerislaw1_RecurDiffs.j0 k a2 a3 true a0_0 a0_1 a0_2 a0_3 a0_4 l0_5 l0_6 l0_7 a1_0 a1_1 a1_2 a1_3 a1_4 l1_5 l1_6 l1_7) = some r := by rw [if_neg (show ¬ (false = true) by decide)] at H; exact H
    clear H
    have H := H1
    clear H1
    have H' := Aside0.mk H
    clear H
    go_wp2_with (first | ((with_reducible refine gate_dst (N := 41) rfl ?_); (try (refine gate_guard (by rfl) ?_; dsimp only)); refine Kd.R_lit (Kd.int .i64) _ 3 ?hg (N := 41) ?hd (xs := ([3, 5] : List Int)) (inner := [.int .i64 3, .int .i64 5]) (ok := fun _ => True) (okp := fun _ => True) ?hr ?hp (fun _ hk => hk) trivial (Below.refl _ _) (Nat.le_refl _) (by simp) ?_; (case hd => rfl); (case hg => rfl); (case hr => first | (go_simp; done) | (go_simp; rfl)); (case hp => exact (Reps.one (show Kd.M (Kd.int .i64) _ _ _ 3 [.int .i64 3] from rfl) (Reps.one (show Kd.M (Kd.int .i64) _ _ _ 5 [.int .i64 5] from rfl) (Reps.none _ _)))); intro v295 w31 ho32 hb hg_ hnew_; clear hg_ hnew_; (first | rw [← Ny294.out] at ho32 | (simp only [Int.reduceToNat] at ho32; rw [← Ny294.out] at ho32)); have n0_ := Aside0.mk (Kd.R_elder' (by (with_reducible repeat (first | apply Kd.R_alloc | apply Kd.R_drewN | apply Kd.R_drew)); exact HO289.out) (Kd.R_base ho32) hb); have n1_ := Aside0.mk (Kd.R_elder' (by (with_reducible repeat (first | apply Kd.R_alloc | apply Kd.R_drewN | apply Kd.R_drew)); exact HO292.out) (Kd.R_base ho32) hb); have n2_ := Aside0.mk (Kd.R_lower (Kd.R_new' (Kd.R_new' ho32 (Kd.R_lt (by (with_reducible repeat (first | apply Kd.R_alloc | apply Kd.R_drewN | apply Kd.R_drew)); exact HO289.out))) (Kd.R_lt (by (with_reducible repeat (first | apply Kd.R_alloc | apply Kd.R_drewN | apply Kd.R_drew)); exact HO292.out))) (below_size be)); have n3_ := bb BK283 hb; have n4_ := bb BK284 hb; have n5_ := bb BK285 hb; have n6_ := bb BK286 hb; have n7_ := Aside0.mk (below_step be hb); clear HO289; clear HO292; clear BK283; clear BK284; clear BK285; clear BK286; clear HB; have HO289 := n0_; have HO292 := n1_; have HO296 := n2_; have BK283 := n3_; have BK284 := n4_; have BK285 := n5_; have BK286 := n6_; have HB := n7_; clear n0_ n1_ n2_ n3_ n4_ n5_ n6_ n7_; clear hb ho32; obtain ⟨Ao33, co33, eo33⟩ := Kd.R_slice HO289.out; subst eo33; obtain ⟨Ao34, co34, eo34⟩ := Kd.R_slice HO296.out; subst eo34) | (go_at_call 15; (with_reducible refine (ephemerisref1_SameInts.calls k _ _ t287 _ _ y294 false _ ?side1 ?side2 ?side3 ?side4 A20.out).mono ?_); (case side1 => repeat (first | exact (Kd.R_reads' HO289.out).2.2 | (with_reducible refine Kd.C_alloc ?_ _) | (with_reducible refine Kd.C_drewN ?_ _) | (with_reducible refine Kd.C_drew ?_))); (case side2 => exact (Kd.R_reads' HO289.out).2.1); (case side3 => repeat (first | exact (Kd.R_reads' HO296.out).2.2 | (with_reducible refine Kd.C_alloc ?_ _) | (with_reducible refine Kd.C_drewN ?_ _) | (with_reducible refine Kd.C_drew ?_))); (case side4 => exact (Kd.R_reads' HO296.out).2.1); rintro e w' ⟨rfl, ⟨nd, rfl⟩⟩))
    go_meet
    case rel => exact ⟨_, (true), rs, H', ⟨by first | omega | exact Nat.le_refl _⟩, ⟨bk BK283⟩, ⟨bk BK284⟩, ⟨bk BK285⟩, ⟨bk BK286⟩, ⟨be⟩⟩
  ·rw [if_neg c19] at H
   have c19b0 : (t293 == 0) = false := beq_eq_false_iff_ne.mpr c19
   have c19b1 : (t293 != 0) = true := bne_iff_ne.mpr c19
   (first | rw [c19b0] | (simp only [i64_w, i32_w]; rw [c19b0]) | skip)
   have H' := Aside0.mk H
   clear H
   go_wp2
   go_meet
   case rel => exact ⟨_, (true), rs, H', ⟨by first | omega | exact Nat.le_refl _⟩, ⟨bk BK283⟩, ⟨bk BK284⟩, ⟨bk BK285⟩, ⟨bk BK286⟩, ⟨be⟩⟩
 case rest =>
  clear HC6
  (try clear c1); (try clear c2); (try clear p2); (try clear c3); (try clear c7); (try clear c11); (try clear c12); (try clear c13); (try clear c15); (try clear c16); (try clear c19); (try clear c19b0); (try clear c19b1); (try clear c21); (try clear c31); (try clear hcz14_0); (try clear hcz14_1); (try clear hcz14_2); (try clear hcz14_3); (try clear hcz14_4); (try clear hcz14_5); (try clear hcz14_6); (try clear hcz14_7); (try clear hcz17_0); (try clear hcz17_1); (try clear hcz17_2); (try clear hcz17_3); (try clear hcz17_4); (try clear hcz17_5); (try clear hcz17_6); (try clear hcz17_7); (try clear hfz14_0); (try clear hfz14_1); (try clear hfz14_2); (try clear hfz14_3); (try clear hfz14_4); (try clear hfz14_5); (try clear hfz14_6); (try clear hfz14_7); (try clear hfz17_0); (try clear hfz17_1); (try clear hfz17_2); (try clear hfz17_3); (try clear hfz17_4); (try clear hfz17_5); (try clear hfz17_6); (try clear hfz17_7)
  obtain ⟨kq, x50_5, rfl, HA, HJ5, BK283, BK284, BK285, BK286, HB⟩ := hcut
  cases kq with
  | zero => exact absurd HA.out (by simp [ephemerislaw1_RecurDiffs.j0])
  | succ kj5 =>
   have H := HA.out
   clear HA
   simp only [ephemerislaw1_RecurDiffs.j0] at H
   by_cases c35 : x50_5 = true
   ·subst c35
    have H1 : (some false) = some r := by rw [if_pos rfl] at H; exact H
    clear H
    have H := H1
    clear H1
    obtain rfl := Option.some.inj H
    go_wp2
    go_ret
    exact ⟨by first | rfl | (simp [errW_none, errW_some] <;> rfl) | (simp [*, errW_none, errW_some] <;> rfl), be⟩
   ·replace c35 := Bool.eq_false_iff.mpr c35
    subst c35
    have H1 : ((ephemerislaw1_near.f kj5 a0_0 a0_1 a0_2 a0_3 a0_4 l0_5 l0_6 l0_7 a2 a3).bind fun bt302 => ((recur_Diff.f kj5 a0_0 a0_1 a0_2 a0_3 a0_4 l0_5 l0_6 l0_7 a1_0 a1_1 a1_2 a1_3 a1_4 l1_5 l1_6 l1_7 bt302.1 bt302.2).bind fun bt304 => ((ephemerisref1_RecurError.f kj5 a0_0 a0_1 a0_2 a0_3 a0_4 l0_5 l0_6 l0_7).bind fun t311 => (if t311 = 0 then ((ephemerisref1_RecurError.f kj5 a1_0 a1_1 a1_2 a1_3 a1_4 l1_5 l1_6 l1_7).bind fun t312 => (ephemerislaw1_RecurDiffs.j1 kj5 bt302.1 bt302.2 bt304.1 bt304.2.1 bt304.2.2 t312 a0_0 a0_1 a0_2 a0_3 a0_4 l0_5 l0_6 l0_7 a1_0 a1_1 a1_2 a1_3 a1_4 l1_5 l1_6 l1_7)) else (ephemerislaw1_RecurDiffs.j1 kj5 bt302.1 bt302.2 bt304.1 bt304.2.1 bt304.2.2 t311 a0_0 a0_1 a0_2 a0_3 a0_4 l0_5 l0_6 l0_7 a1_0 a1_1 a1_2 a1_3 a1_4 l1_5 l1_6 l1_7))))) = some r := by rw [if_neg (show ¬ (false = true) by decide)] at H; exact H
    clear H
    have H := H1
    clear H1
    replace H := Option.bind_eq_some_iff.mp H
    obtain ⟨⟨t302, t303⟩, A360, H⟩ := H
    replace H : ((recur_Diff.f kj5 a0_0 a0_1 a0_2 a0_3 a0_4 l0_5 l0_6 l0_7 a1_0 a1_1 a1_2 a1_3 a1_4 l1_5 l1_6 l1_7 t302 t303).bind fun bt304 => ((ephemerisref1_RecurError.f kj5 a0_0 a0_1 a0_2 a0_3 a0_4 l0_5 l0_6 l0_7).bind fun t311 => (if t311 = 0 then ((ephemerisref1_RecurError.f kj5 a1_0 a1_1 a1_2 a1_3 a1_4 l1_5 l1_6 l1_7).bind fun t312 => (ephemerislaw1_RecurDiffs.j1 kj5 t302 t303 bt304.1 bt304.2.1 bt304.2.2 t312 a0_0 a0_1 a0_2 a0_3 a0_4 l0_5 l0_6 l0_7 a1_0 a1_1 a1_2 a1_3 a1_4 l1_5 l1_6 l1_7)) else (ephemerislaw1_RecurDiffs.j1 kj5 t302 t303 bt304.1 bt304.2.1 bt304.2.2 t311 a0_0 a0_1 a0_2 a0_3 a0_4 l0_5 l0_6 l0_7 a1_0 a1_1 a1_2 a1_3 a1_4 l1_5 l1_6 l1_7)))) = some r := H
    have A36 := Aside0.mk A360
    clear A360
    replace H := Option.bind_eq_some_iff.mp H
    obtain ⟨⟨t304, t307, t310⟩, A370, H⟩ := H
    replace H : ((ephemerisref1_RecurError.f kj5 a0_0 a0_1 a0_2 a0_3 a0_4 l0_5 l0_6 l0_7).bind fun t311 => (if t311 = 0 then ((ephemerisref1_RecurError.f kj5 a1_0 a1_1 a1_2 a1_3 a1_4 l1_5 l1_6 l1_7).bind fun t312 => (ephemerislaw1_RecurDiffs.j1 kj5 t302 t303 t304 t307 t310 t312 a0_0 a0_1 a0_2 a0_3 a0_4 l0_5 l0_6 l0_7 a1_0 a1_1 a1_2 a1_3 a1_4 l1_5 l1_6 l1_7)) else (ephemerislaw1_RecurDiffs.j1 kj5 t302 t303 t304 t307 t310 t311 a0_0 a0_1 a0_2 a0_3 a0_4 l0_5 l0_6 l0_7 a1_0 a1_1 a1_2 a1_3 a1_4 l1_5 l1_6 l1_7))) = some r := H
    have A37 := Aside0.mk A370
    clear A370
    replace H := Option.bind_eq_some_iff.mp H
    obtain ⟨t311, A380, H⟩ := H
    replace H : (if t311 = 0 then ((ephemerisref1_RecurError.f kj5 a1_0 a1_1 a1_2 a1_3 a1_4 l1_5 l1_6 l1_7).bind fun t312 => (ephemerislaw1_RecurDiffs.j1 kj5 t302 t303 t304 t307 t310 t312 a0_0 a0_1 a0_2 a0_3 a0_4 l0_5 l0_6 l0_7 a1_0 a1_1 a1_2 a1_3 a1_4 l1_5 l1_6 l1_7)) else (ephemerislaw1_RecurDiffs.j1 kj5 t302 t303 t304 t307 t310 t311 a0_0 a0_1 a0_2 a0_3 a0_4 l0_5 l0_6 l0_7 a1_0 a1_1 a1_2 a1_3 a1_4 l1_5 l1_6 l1_7)) = some r := H
    have A38 := Aside0.mk A380
    clear A380
    have HC39 := Aside0.mk H
    clear H
    have hnb40 := NB283_284.out
    have hnc40 := NB284_283.out
    have hnb41 := NB283_285.out
    have hnc41 := NB285_283.out
    have hnb42 := NB283_286.out
    have hnc42 := NB286_283.out
    obtain ⟨hcz43_0, hcz43_1, hcz43_2, hcz43_3, hcz43_4, hcz43_5, hcz43_6, hcz43_7, hfz43_0, hfz43_1, hfz43_2, hfz43_3, hfz43_4, hfz43_5, hfz43_6, hfz43_7⟩ := bc8 BK283
    go_upto_if 70 with (first | ((with_reducible refine gate_callee (f := 16) rfl ?_); refine goesL_ (some 55) rfl rfl Try.func16 kx rfl #[.agg #[.int .i64 a0_0, .int .i64 a0_1, .int .i64 a0_2, .int .i64 a0_3, .int .i64 a0_4, .slice A0_5 l0_5.length c0_5, .slice A0_6 l0_6.length c0_6, .slice A0_7 l0_7.length c0_7], .int .i64 a2, .int .i64 a3] rfl aa ?_; (with_reducible refine (ephemerislaw1_near.calls kj5 a0_0 a0_1 a0_2 a0_3 a0_4 _ _ l0_5 _ _ l0_6 _ _ l0_7 a2 a3 t302 t303 _ ?side1 ?side2 ?side3 ?side4 ?side5 ?side6 A36.out).mono ?_); (case side1 => exact kc (Kd.C_below HR0_5.out HB.out)); (case side2 => exact HC0_5.out); (case side3 => exact kc (Kd.C_below HR0_6.out HB.out)); (case side4 => exact HC0_6.out); (case side5 => exact kc (Kd.C_below HR0_7.out HB.out)); (case side6 => exact HC0_7.out); rintro e w44 ⟨rfl, hb⟩; refine ⟨_, rfl, ?_⟩; have n0_ := bb BK283 hb; have n1_ := bb BK284 hb; have n2_ := bb BK285 hb; have n3_ := bb BK286 hb; have n4_ := Aside0.mk (below_step be hb); clear BK283; clear BK284; clear BK285; clear BK286; clear HB; have BK283 := n0_; have BK284 := n1_; have BK285 := n2_; have BK286 := n3_; have HB := n4_; clear n0_ n1_ n2_ n3_ n4_; (try clear hb); (try clear hb2); (try clear hk); (try clear hi); obtain ⟨hcz45_0, hcz45_1, hcz45_2, hcz45_3, hcz45_4, hcz45_5, hcz45_6, hcz45_7, hfz45_0, hfz45_1, hfz45_2, hfz45_3, hfz45_4, hfz45_5, hfz45_6, hfz45_7⟩ := bc8 BK283; have hnb46 := NB284_285.out; have hnc46 := NB285_284.out; have hnb47 := NB284_286.out; have hnc47 := NB286_284.out; obtain ⟨hcz48_0, hcz48_1, hcz48_2, hcz48_3, hcz48_4, hcz48_5, hcz48_6, hcz48_7, hfz48_0, hfz48_1, hfz48_2, hfz48_3, hfz48_4, hfz48_5, hfz48_6, hfz48_7⟩ := bc8 BK284) | ((with_reducible refine gate_callee (f := 31) rfl ?_); refine goesL_ (some 63) rfl rfl Try.func31 kx rfl #[.agg #[.int .i64 a0_0, .int .i64 a0_1, .int .i64 a0_2, .int .i64 a0_3, .int .i64 a0_4, .slice A0_5 l0_5.length c0_5, .slice A0_6 l0_6.length c0_6, .slice A0_7 l0_7.length c0_7], .agg #[.int .i64 a1_0, .int .i64 a1_1, .int .i64 a1_2, .int .i64 a1_3, .int .i64 a1_4, .slice A1_5 l1_5.length c1_5, .slice A1_6 l1_6.length c1_6, .slice A1_7 l1_7.length c1_7], .int .i64 t302, .int .i64 t303] rfl aa ?_; (with_reducible refine (recur_Diff.calls kj5 a0_0 a0_1 a0_2 a0_3 a0_4 _ _ l0_5 _ _ l0_6 _ _ l0_7 a1_0 a1_1 a1_2 a1_3 a1_4 _ _ l1_5 _ _ l1_6 _ _ l1_7 t302 t303 t304 t307 t310 _ ?side1 ?side2 ?side3 ?side4 ?side5 ?side6 ?side7 ?side8 ?side9 ?side10 ?side11 ?side12 A37.out).mono ?_); (case side1 => exact kc (Kd.C_below HR0_5.out HB.out)); (case side2 => exact HC0_5.out); (case side3 => exact kc (Kd.C_below HR0_6.out HB.out)); (case side4 => exact HC0_6.out); (case side5 => exact kc (Kd.C_below HR0_7.out HB.out)); (case side6 => exact HC0_7.out); (case side7 => exact kc (Kd.C_below HR1_5.out HB.out)); (case side8 => exact HC1_5.out); (case side9 => exact kc (Kd.C_below HR1_6.out HB.out)); (case side10 => exact HC1_6.out); (case side11 => exact kc (Kd.C_below HR1_7.out HB.out)); (case side12 => exact HC1_7.out); rintro e w49 ⟨v305, v308, rfl, ho0, ho1, hb⟩; refine ⟨_, rfl, ?_⟩; have n0_ := Aside0.mk (Kd.R_lower ho0 (below_size be)); have n1_ := Aside0.mk (Kd.R_lower ho1 (below_size be)); have n2_ := bb BK283 hb; have n3_ := bb BK284 hb; have n4_ := bb BK285 hb; have n5_ := bb BK286 hb; have n6_ := Aside0.mk (below_step be hb); clear BK283; clear BK284; clear BK285; clear BK286; clear HB; have HO306 := n0_; have HO309 := n1_; have BK283 := n2_; have BK284 := n3_; have BK285 := n4_; have BK286 := n5_; have HB := n6_; clear n0_ n1_ n2_ n3_ n4_ n5_ n6_; (try clear hb); (try clear hb2); (try clear hk); (try clear hi); (try clear ho0); (try clear ho1); obtain ⟨hcz50_0, hcz50_1, hcz50_2, hcz50_3, hcz50_4, hcz50_5, hcz50_6, hcz50_7, hfz50_0, hfz50_1, hfz50_2, hfz50_3, hfz50_4, hfz50_5, hfz50_6, hfz50_7⟩ := bc8 BK283) | ((with_reducible refine gate_callee (f := 32) rfl ?_); refine goesL_ (some 68) rfl rfl Try.func32 kx rfl #[.agg #[.int .i64 a0_0, .int .i64 a0_1, .int .i64 a0_2, .int .i64 a0_3, .int .i64 a0_4, .slice A0_5 l0_5.length c0_5, .slice A0_6 l0_6.length c0_6, .slice A0_7 l0_7.length c0_7]] rfl aa ?_; (with_reducible refine (ephemerisref1_RecurError.calls kj5 a0_0 a0_1 a0_2 a0_3 a0_4 (fun k_ => k_ < w.heap.size) _ _ l0_5 (fun k_ => k_ < w.heap.size) _ _ l0_6 (fun k_ => k_ < w.heap.size) _ _ l0_7 t311 _ ?side1 ?side2 ?side3 A38.out).mono ?_); (case side1 => exact Kd.V_mk HC0_5.out (Kd.F_below (Kd.C_F (Kd.heap_int .i64) HR0_5.out) be)); (case side2 => exact Kd.V_mk HC0_6.out (Kd.F_below (Kd.C_F (Kd.heap_int .i64) HR0_6.out) be)); (case side3 => exact Kd.V_mk HC0_7.out (Kd.F_below (Kd.C_F (Kd.heap_int .i64) HR0_7.out) be)); rintro e w51 ⟨rfl, hb⟩; refine ⟨_, rfl, ?_⟩; have n0_ := Aside0.mk (Kd.R_below (by (with_reducible repeat (first | apply Kd.R_alloc | apply Kd.R_drewN | apply Kd.R_drew)); exact HO306.out) hb); have n1_ := Aside0.mk (Kd.R_below (by (with_reducible repeat (first | apply Kd.R_alloc | apply Kd.R_drewN | apply Kd.R_drew)); exact HO309.out) hb); have n2_ := bb BK283 hb; have n3_ := bb BK284 hb; have n4_ := bb BK285 hb; have n5_ := bb BK286 hb; have n6_ := Aside0.mk (below_step be hb); clear HO306; clear HO309; clear BK283; clear BK284; clear BK285; clear BK286; clear HB; have HO306 := n0_; have HO309 := n1_; have BK283 := n2_; have BK284 := n3_; have BK285 := n4_; have BK286 := n5_; have HB := n6_; clear n0_ n1_ n2_ n3_ n4_ n5_ n6_; (try clear hb); (try clear hb2); (try clear hk); (try clear hi)))
    (try simp only [Act.put, List.setIfInBounds_toArray, List.set_cons_zero, List.set_cons_succ])
    go_cut [17] (fun v17 wc => ∃ (kq : Nat) (x17_38 : Int), v17 = .int .i64 x17_38 ∧ Aside0 (ephemerislaw1_RecurDiffs.j1 kq t302 t303 t304 t307 t310 x17_38 a0_0 a0_1 a0_2 a0_3 a0_4 l0_5 l0_6 l0_7 a1_0 a1_1 a1_2 a1_3 a1_4 l1_5 l1_6 l1_7 = some r) ∧ Aside0 (kq ≤ kj5) ∧ Aside0 (Kd.R (Kd.int .i64) 3 wc w.heap.size (fun k_ => some k_ ≠ (v308 : Value).ownBlock) v305 t304) ∧ Aside0 (Kd.R (Kd.int .i64) 3 wc w.heap.size (fun k_ => some k_ ≠ (v305 : Value).ownBlock) v308 t307) ∧ Aside0 (wc.heap[gb283]? = some (.cells #[.int .i64 a0_0, .int .i64 a0_1, .int .i64 a0_2, .int .i64 a0_3, .int .i64 a0_4, (.slice A0_5 l0_5.length c0_5), (.slice A0_6 l0_6.length c0_6), (.slice A0_7 l0_7.length c0_7)] 33 (0, 0))) ∧ Aside0 (wc.heap[gb284]? = some (.cells #[.int .i64 a1_0, .int .i64 a1_1, .int .i64 a1_2, .int .i64 a1_3, .int .i64 a1_4, (.slice A1_5 l1_5.length c1_5), (.slice A1_6 l1_6.length c1_6), (.slice A1_7 l1_7.length c1_7)] 33 (0, 0))) ∧ Aside0 (wc.heap[gb285]? = some (.cells #[.int .i64 1, .int .i64 2, .int .i64 1, .int .i64 0, .int .i64 100, (.slice none 0 0), (.slice none 0 0), (.slice none 0 0)] 33 (0, 0))) ∧ Aside0 (wc.heap[gb286]? = some (.cells #[.int .i64 1, .int .i64 3, .int .i64 1, .int .i64 0, .int .i64 100, (.slice none 0 0), (.slice none 0 0), (.slice none 0 0)] 33 (0, 0))) ∧ Aside0 (Below w.heap.size w wc))
    case first =>
     have H := HC39.out
     clear HC39
     by_cases c52 : t311 = 0
     ·rw [if_pos c52] at H
      have c52b0 : (t311 == 0) = true := beq_iff_eq.mpr c52
      have c52b1 : (t311 != 0) = false := bne_eq_false_iff_eq.mpr c52
      clear c52
      (first | rw [c52b0] | (simp only [i64_w, i32_w]; rw [c52b0]) | skip)
      replace H := Option.bind_eq_some_iff.mp H
      obtain ⟨t312, A530, H⟩ := H
      replace H : (ephemerislaw1_RecurDiffs.j1 kj5 t302 t303 t304 t307 t310 t312 a0_0 a0_1 a0_2 a0_3 a0_4 l0_5 l0_6 l0_7 a1_0 a1_1 a1_2 a1_3 a1_4 l1_5 l1_6 l1_7) = some r := H
      have A53 := Aside0.mk A530
      clear A530
      have H' := Aside0.mk H
      clear H
      have hnb54 := NB284_283.out
      have hnc54 := NB283_284.out
      have hnb55 := NB284_285.out
      have hnc55 := NB285_284.out
      have hnb56 := NB284_286.out
      have hnc56 := NB286_284.out
      obtain ⟨hcz57_0, hcz57_1, hcz57_2, hcz57_3, hcz57_4, hcz57_5, hcz57_6, hcz57_7, hfz57_0, hfz57_1, hfz57_2, hfz57_3, hfz57_4, hfz57_5, hfz57_6, hfz57_7⟩ := bc8 BK284
      go_wp2_with (first | ((with_reducible refine gate_callee (f := 32) rfl ?_); refine goesL_ (some 72) rfl rfl Try.func32 kx rfl #[.agg #[.int .i64 a1_0, .int .i64 a1_1, .int .i64 a1_2, .int .i64 a1_3, .int .i64 a1_4, .slice A1_5 l1_5.length c1_5, .slice A1_6 l1_6.length c1_6, .slice A1_7 l1_7.length c1_7]] rfl aa ?_; (with_reducible refine (ephemerisref1_RecurError.calls kj5 a1_0 a1_1 a1_2 a1_3 a1_4 (fun k_ => k_ < w.heap.size) _ _ l1_5 (fun k_ => k_ < w.heap.size) _ _ l1_6 (fun k_ => k_ < w.heap.size) _ _ l1_7 t312 _ ?side1 ?side2 ?side3 A53.out).mono ?_); (case side1 => exact Kd.V_mk HC1_5.out (Kd.F_below (Kd.C_F (Kd.heap_int .i64) HR1_5.out) be)); (case side2 => exact Kd.V_mk HC1_6.out (Kd.F_below (Kd.C_F (Kd.heap_int .i64) HR1_6.out) be)); (case side3 => exact Kd.V_mk HC1_7.out (Kd.F_below (Kd.C_F (Kd.heap_int .i64) HR1_7.out) be)); rintro e w58 ⟨rfl, hb⟩; refine ⟨_, rfl, ?_⟩; have n0_ := Aside0.mk (Kd.R_below (by (with_reducible repeat (first | apply Kd.R_alloc | apply Kd.R_drewN | apply Kd.R_drew)); exact HO306.out) hb); have n1_ := Aside0.mk (Kd.R_below (by (with_reducible repeat (first | apply Kd.R_alloc | apply Kd.R_drewN | apply Kd.R_drew)); exact HO309.out) hb); have n2_ := bb BK283 hb; have n3_ := bb BK284 hb; have n4_ := bb BK285 hb; have n5_ := bb BK286 hb; have n6_ := Aside0.mk (below_step be hb); clear HO306; clear HO309; clear BK283; clear BK284; clear BK285; clear BK286; clear HB; have HO306 := n0_; have HO309 := n1_; have BK283 := n2_; have BK284 := n3_; have BK285 := n4_; have BK286 := n5_; have HB := n6_; clear n0_ n1_ n2_ n3_ n4_ n5_ n6_; (try clear hb); (try clear hb2); (try clear hk); (try clear hi)))
      go_meet
      case rel => exact ⟨_, (t312), rs, H', ⟨by have := HJ5.out; first | omega | exact Nat.le_refl _⟩, ⟨by (with_reducible repeat (first | apply Kd.R_alloc | apply Kd.R_drewN | apply Kd.R_drew)); exact HO306.out⟩, ⟨by (with_reducible repeat (first | apply Kd.R_alloc | apply Kd.R_drewN | apply Kd.R_drew)); exact HO309.out⟩, ⟨bk BK283⟩, ⟨bk BK284⟩, ⟨bk BK285⟩, ⟨bk BK286⟩, ⟨be⟩⟩
     ·rw [if_neg c52] at H
      have c52b0 : (t311 == 0) = false := beq_eq_false_iff_ne.mpr c52
      have c52b1 : (t311 != 0) = true := bne_iff_ne.mpr c52
      (first | rw [c52b0] | (simp only [i64_w, i32_w]; rw [c52b0]) | skip)
      have H' := Aside0.mk H
      clear H
      go_wp2
      go_meet
      case rel => exact ⟨_, (t311), rs, H', ⟨by have := HJ5.out; first | omega | exact Nat.le_refl _⟩, ⟨by (with_reducible repeat (first | apply Kd.R_alloc | apply Kd.R_drewN | apply Kd.R_drew)); exact HO306.out⟩, ⟨by (with_reducible repeat (first | apply Kd.R_alloc | apply Kd.R_drewN | apply Kd.R_drew)); exact HO309.out⟩, ⟨bk BK283⟩, ⟨bk BK284⟩, ⟨bk BK285⟩, ⟨bk BK286⟩, ⟨be⟩⟩
    case rest =>
     clear HC39
     (try clear c1); (try clear c2); (try clear p2); (try clear c3); (try clear c4); (try clear c5); (try clear c7); (try clear c11); (try clear c12); (try clear c13); (try clear c15); (try clear c16); (try clear c19); (try clear c19b0); (try clear c19b1); (try clear c21); (try clear c31); (try clear c32); (try clear c35); (try clear c40); (try clear c41); (try clear c42); (try clear c46); (try clear c47); (try clear c52); (try clear c52b0); (try clear c52b1); (try clear c54); (try clear c55); (try clear c56); (try clear hcz14_0); (try clear hcz14_1); (try clear hcz14_2); (try clear hcz14_3); (try clear hcz14_4); (try clear hcz14_5); (try clear hcz14_6); (try clear hcz14_7); (try clear hcz17_0); (try clear hcz17_1); (try clear hcz17_2); (try clear hcz17_3); (try clear hcz17_4); (try clear hcz17_5); (try clear hcz17_6); (try clear hcz17_7); (try clear hcz43_0); (try clear hcz43_1); (try clear hcz43_2); (try clear hcz43_3); (try clear hcz43_4); (try clear hcz43_5); (try clear hcz43_6); (try clear hcz43_7); (try clear hcz45_0); (try clear hcz45_1); (try clear hcz45_2); (try clear hcz45_3); (try clear hcz45_4); (try clear hcz45_5); (try clear hcz45_6); (try clear hcz45_7); (try clear hcz48_0); (try clear hcz48_1); (try clear hcz48_2); (try clear hcz48_3); (try clear hcz48_4); (try clear hcz48_5); (try clear hcz48_6); (try clear hcz48_7); (try clear hcz50_0); (try clear hcz50_1); (try clear hcz50_2); (try clear hcz50_3); (try clear hcz50_4); (try clear hcz50_5); (try clear hcz50_6); (try clear hcz50_7); (try clear hcz57_0); (try clear hcz57_1); (try clear hcz57_2); (try clear hcz57_3); (try clear hcz57_4); (try clear hcz57_5); (try clear hcz57_6); (try clear hcz57_7); (try clear hfz14_0); (try clear hfz14_1); (try clear hfz14_2); (try clear hfz14_3); (try clear hfz14_4); (try clear hfz14_5); (try clear hfz14_6); (try clear hfz14_7); (try clear hfz17_0); (try clear hfz17_1); (try clear hfz17_2); (try clear hfz17_3); (try clear hfz17_4); (try clear hfz17_5); (try clear hfz17_6); (try clear hfz17_7); (try clear hfz43_0); (try clear hfz43_1); (try clear hfz43_2); (try clear hfz43_3); (try clear hfz43_4); (try clear hfz43_5); (try clear hfz43_6); (try clear hfz43_7); (try clear hfz45_0); (try clear hfz45_1); (try clear hfz45_2); (try clear hfz45_3); (try clear hfz45_4); (try clear hfz45_5); (try clear hfz45_6); (try clear hfz45_7); (try clear hfz48_0); (try clear hfz48_1); (try clear hfz48_2); (try clear hfz48_3); (try clear hfz48_4); (try clear hfz48_5); (try clear hfz48_6); (try clear hfz48_7); (try clear hfz50_0); (try clear hfz50_1); (try clear hfz50_2); (try clear hfz50_3); (try clear hfz50_4); (try clear hfz50_5); (try clear hfz50_6); (try clear hfz50_7); (try clear hfz57_0); (try clear hfz57_1); (try clear hfz57_2); (try clear hfz57_3); (try clear hfz57_4); (try clear hfz57_5); (try clear hfz57_6); (try clear hfz57_7); (try clear p2)
     obtain ⟨kq, x17_38, rfl, HA, HJ38, HO_14, HO_15, BK283, BK284, BK285, BK286, HB⟩ := hcut
     cases kq with
     | zero => exact absurd HA.out (by simp [ephemerislaw1_RecurDiffs.j1])
     | succ kj38 =>
      have H := HA.out
      clear HA
      simp only [ephemerislaw1_RecurDiffs.j1] at H
      have HC59 := Aside0.mk H
      clear H
      go_upto_if 74 with (fail)
      go_cut [17] (fun v17 wc => ∃ (kq : Nat) (x17_58 : Int), v17 = .int .i64 x17_58 ∧ Aside0 (ephemerislaw1_RecurDiffs.j2 kq t302 t303 t304 t307 t310 x17_58 a0_0 a0_1 a0_2 a0_3 a0_4 l0_5 l0_6 l0_7 a1_0 a1_1 a1_2 a1_3 a1_4 l1_5 l1_6 l1_7 = some r) ∧ Aside0 (kq ≤ kj38) ∧ Aside0 (Kd.R (Kd.int .i64) 3 wc w.heap.size (fun k_ => some k_ ≠ (v308 : Value).ownBlock) v305 t304) ∧ Aside0 (Kd.R (Kd.int .i64) 3 wc w.heap.size (fun k_ => some k_ ≠ (v305 : Value).ownBlock) v308 t307) ∧ Aside0 (wc.heap[gb283]? = some (.cells #[.int .i64 a0_0, .int .i64 a0_1, .int .i64 a0_2, .int .i64 a0_3, .int .i64 a0_4, (.slice A0_5 l0_5.length c0_5), (.slice A0_6 l0_6.length c0_6), (.slice A0_7 l0_7.length c0_7)] 33 (0, 0))) ∧ Aside0 (wc.heap[gb284]? = some (.cells #[.int .i64 a1_0, .int .i64 a1_1, .int .i64 a1_2, .int .i64 a1_3, .int .i64 a1_4, (.slice A1_5 l1_5.length c1_5), (.slice A1_6 l1_6.length c1_6), (.slice A1_7 l1_7.length c1_7)] 33 (0, 0))) ∧ Aside0 (wc.heap[gb285]? = some (.cells #[.int .i64 1, .int .i64 2, .int .i64 1, .int .i64 0, .int .i64 100, (.slice none 0 0), (.slice none 0 0), (.slice none 0 0)] 33 (0, 0))) ∧ Aside0 (wc.heap[gb286]? = some (.cells #[.int .i64 1, .int .i64 3, .int .i64 1, .int .i64 0, .int .i64 100, (.slice none 0 0), (.slice none 0 0), (.slice none 0 0)] 33 (0, 0))) ∧ Aside0 (Below w.heap.size w wc))
      case first =>
       have H := HC59.out
       clear HC59
       by_cases c60 : x17_38 = 0
       ·rw [if_pos c60] at H
        have c60b0 : (x17_38 == 0) = true := beq_iff_eq.mpr c60
        have c60b1 : (x17_38 != 0) = false := bne_eq_false_iff_eq.mpr c60
        clear c60
        (first | rw [c60b0] | (simp only [i64_w, i32_w]; rw [c60b0]) | skip)
        replace H := Option.bind_eq_some_iff.mp H
        obtain ⟨t313, A610, H⟩ := H
        replace H : (ephemerislaw1_RecurDiffs.j2 kj38 t302 t303 t304 t307 t310 t313 a0_0 a0_1 a0_2 a0_3 a0_4 l0_5 l0_6 l0_7 a1_0 a1_1 a1_2 a1_3 a1_4 l1_5 l1_6 l1_7) = some r := H
        have A61 := Aside0.mk A610
        clear A610
        have H' := Aside0.mk H
        clear H
        have hnb62 := NB283_284.out
        have hnc62 := NB284_283.out
        have hnb63 := NB283_285.out
        have hnc63 := NB285_283.out
        have hnb64 := NB283_286.out
        have hnc64 := NB286_283.out
        obtain ⟨hcz65_0, hcz65_1, hcz65_2, hcz65_3, hcz65_4, hcz65_5, hcz65_6, hcz65_7, hfz65_0, hfz65_1, hfz65_2, hfz65_3, hfz65_4, hfz65_5, hfz65_6, hfz65_7⟩ := bc8 BK283
        go_wp2_with (first | ((with_reducible refine gate_callee (f := 17) rfl ?_); refine goesL_ (some 78) rfl rfl Try.func17 kx rfl #[.agg #[.int .i64 a0_0, .int .i64 a0_1, .int .i64 a0_2, .int .i64 a0_3, .int .i64 a0_4, .slice A0_5 l0_5.length c0_5, .slice A0_6 l0_6.length c0_6, .slice A0_7 l0_7.length c0_7], .int .i64 t302, .int .i64 t303] rfl aa ?_; (with_reducible refine (ephemerislaw1_recurError.calls kj38 a0_0 a0_1 a0_2 a0_3 a0_4 _ _ l0_5 _ _ l0_6 _ _ l0_7 t302 t303 t313 _ ?side1 ?side2 ?side3 ?side4 ?side5 ?side6 A61.out).mono ?_); (case side1 => exact kc (Kd.C_below HR0_5.out HB.out)); (case side2 => exact HC0_5.out); (case side3 => exact kc (Kd.C_below HR0_6.out HB.out)); (case side4 => exact HC0_6.out); (case side5 => exact kc (Kd.C_below HR0_7.out HB.out)); (case side6 => exact HC0_7.out); rintro e w66 ⟨rfl, hb⟩; refine ⟨_, rfl, ?_⟩; have n0_ := Aside0.mk (Kd.R_below (by (with_reducible repeat (first | apply Kd.R_alloc | apply Kd.R_drewN | apply Kd.R_drew)); exact HO_14.out) hb); have n1_ := Aside0.mk (Kd.R_below (by (with_reducible repeat (first | apply Kd.R_alloc | apply Kd.R_drewN | apply Kd.R_drew)); exact HO_15.out) hb); have n2_ := bb BK283 hb; have n3_ := bb BK284 hb; have n4_ := bb BK285 hb; have n5_ := bb BK286 hb; have n6_ := Aside0.mk (below_step be hb); clear HO_14; clear HO_15; clear BK283; clear BK284; clear BK285; clear BK286; clear HB; have HO_14 := n0_; have HO_15 := n1_; have BK283 := n2_; have BK284 := n3_; have BK285 := n4_; have BK286 := n5_; have HB := n6_; clear n0_ n1_ n2_ n3_ n4_ n5_ n6_; (try clear hb); (try clear hb2); (try clear hk); (try clear hi)))
        go_meet
        case rel => exact ⟨_, (t313), rs, H', ⟨by have := HJ5.out; have := HJ38.out; first | omega | exact Nat.le_refl _⟩, ⟨by (with_reducible repeat (first | apply Kd.R_alloc | apply Kd.R_drewN | apply Kd.R_drew)); exact HO_14.out⟩, ⟨by (with_reducible repeat (first | apply Kd.R_alloc | apply Kd.R_drewN | apply Kd.R_drew)); exact HO_15.out⟩, ⟨bk BK283⟩, ⟨bk BK284⟩, ⟨bk BK285⟩, ⟨bk BK286⟩, ⟨be⟩⟩
       ·rw [if_neg c60] at H
        have c60b0 : (x17_38 == 0) = false := beq_eq_false_iff_ne.mpr c60
        have c60b1 : (x17_38 != 0) = true := bne_iff_ne.mpr c60
        (first | rw [c60b0] | (simp only [i64_w, i32_w]; rw [c60b0]) | skip)
        have H' := Aside0.mk H
        clear H
        go_wp2
        go_meet
        case rel => exact ⟨_, (x17_38), rs, H', ⟨by have := HJ5.out; have := HJ38.out; first | omega | exact Nat.le_refl _⟩, ⟨by (with_reducible repeat (first | apply Kd.R_alloc | apply Kd.R_drewN | apply Kd.R_drew)); exact HO_14.out⟩, ⟨by (with_reducible repeat (first | apply Kd.R_alloc | apply Kd.R_drewN | apply Kd.R_drew)); exact HO_15.out⟩, ⟨bk BK283⟩, ⟨bk BK284⟩, ⟨bk BK285⟩, ⟨bk BK286⟩, ⟨be⟩⟩
      case rest =>
       clear HC59
       (try clear c1); (try clear c2); (try clear p2); (try clear c3); (try clear c4); (try clear c5); (try clear c6); (try clear c7); (try clear c11); (try clear c12); (try clear c13); (try clear c15); (try clear c16); (try clear c17); (try clear c19); (try clear c19b0); (try clear c19b1); (try clear c21); (try clear c31); (try clear c32); (try clear c35); (try clear c40); (try clear c41); (try clear c42); (try clear c46); (try clear c47); (try clear c52); (try clear c52b0); (try clear c52b1); (try clear c54); (try clear c55); (try clear c56); (try clear c60); (try clear c60b0); (try clear c60b1); (try clear c62); (try clear c63); (try clear c64); (try clear hcz14_0); (try clear hcz14_1); (try clear hcz14_2); (try clear hcz14_3); (try clear hcz14_4); (try clear hcz14_5); (try clear hcz14_6); (try clear hcz14_7); (try clear hcz17_0); (try clear hcz17_1); (try clear hcz17_2); (try clear hcz17_3); (try clear hcz17_4); (try clear hcz17_5); (try clear hcz17_6); (try clear hcz17_7); (try clear hcz43_0); (try clear hcz43_1); (try clear hcz43_2); (try clear hcz43_3); (try clear hcz43_4); (try clear hcz43_5); (try clear hcz43_6); (try clear hcz43_7); (try clear hcz45_0); (try clear hcz45_1); (try clear hcz45_2); (try clear hcz45_3); (try clear hcz45_4); (try clear hcz45_5); (try clear hcz45_6); (try clear hcz45_7); (try clear hcz48_0); (try clear hcz48_1); (try clear hcz48_2); (try clear hcz48_3); (try clear hcz48_4); (try clear hcz48_5); (try clear hcz48_6); (try clear hcz48_7); (try clear hcz50_0); (try clear hcz50_1); (try clear hcz50_2); (try clear hcz50_3); (try clear hcz50_4); (try clear hcz50_5); (try clear hcz50_6); (try clear hcz50_7); (try clear hcz57_0); (try clear hcz57_1); (try clear hcz57_2); (try clear hcz57_3); (try clear hcz57_4); (try clear hcz57_5); (try clear hcz57_6); (try clear hcz57_7); (try clear hcz65_0); (try clear hcz65_1); (try clear hcz65_2); (try clear hcz65_3); (try clear hcz65_4); (try clear hcz65_5); (try clear hcz65_6); (try clear hcz65_7); (try clear hfz14_0); (try clear hfz14_1); (try clear hfz14_2); (try clear hfz14_3); (try clear hfz14_4); (try clear hfz14_5); (try clear hfz14_6); (try clear hfz14_7); (try clear hfz17_0); (try clear hfz17_1); (try clear hfz17_2); (try clear hfz17_3); (try clear hfz17_4); (try clear hfz17_5); (try clear hfz17_6); (try clear hfz17_7); (try clear hfz43_0); (try clear hfz43_1); (try clear hfz43_2); (try clear hfz43_3); (try clear hfz43_4); (try clear hfz43_5); (try clear hfz43_6); (try clear hfz43_7); (try clear hfz45_0); (try clear hfz45_1); (try clear hfz45_2); (try clear hfz45_3); (try clear hfz45_4); (try clear hfz45_5); (try clear hfz45_6); (try clear hfz45_7); (try clear hfz48_0); (try clear hfz48_1); (try clear hfz48_2); (try clear hfz48_3); (try clear hfz48_4); (try clear hfz48_5); (try clear hfz48_6); (try clear hfz48_7); (try clear hfz50_0); (try clear hfz50_1); (try clear hfz50_2); (try clear hfz50_3); (try clear hfz50_4); (try clear hfz50_5); (try clear hfz50_6); (try clear hfz50_7); (try clear hfz57_0); (try clear hfz57_1); (try clear hfz57_2); (try clear hfz57_3); (try clear hfz57_4); (try clear hfz57_5); (try clear hfz57_6); (try clear hfz57_7); (try clear hfz65_0); (try clear hfz65_1); (try clear hfz65_2); (try clear hfz65_3); (try clear hfz65_4); (try clear hfz65_5); (try clear hfz65_6); (try clear hfz65_7); (try clear p2)
       obtain ⟨kq, x17_58, rfl, HA, HJ58, HO_14, HO_15, BK283, BK284, BK285, BK286, HB⟩ := hcut
       cases kq with
       | zero => exact absurd HA.out (by simp [ephemerislaw1_RecurDiffs.j2])
       | succ kj58 =>
        have H := HA.out
        clear HA
        simp only [ephemerislaw1_RecurDiffs.j2] at H
        have HC67 := Aside0.mk H
        clear H
        go_upto_if 80 with (fail)
        go_cut [17] (fun v17 wc => ∃ (kq : Nat) (x17_66 : Int), v17 = .int .i64 x17_66 ∧ Aside0 (ephemerislaw1_RecurDiffs.j3 kq t302 t303 t304 t307 t310 x17_66 a0_0 a0_1 a0_2 a0_3 a0_4 l0_5 l0_6 l0_7 a1_0 a1_1 a1_2 a1_3 a1_4 l1_5 l1_6 l1_7 = some r) ∧ Aside0 (kq ≤ kj58) ∧ Aside0 (Kd.R (Kd.int .i64) 3 wc w.heap.size (fun k_ => some k_ ≠ (v308 : Value).ownBlock) v305 t304) ∧ Aside0 (Kd.R (Kd.int .i64) 3 wc w.heap.size (fun k_ => some k_ ≠ (v305 : Value).ownBlock) v308 t307) ∧ Aside0 (wc.heap[gb283]? = some (.cells #[.int .i64 a0_0, .int .i64 a0_1, .int .i64 a0_2, .int .i64 a0_3, .int .i64 a0_4, (.slice A0_5 l0_5.length c0_5), (.slice A0_6 l0_6.length c0_6), (.slice A0_7 l0_7.length c0_7)] 33 (0, 0))) ∧ Aside0 (wc.heap[gb284]? = some (.cells #[.int .i64 a1_0, .int .i64 a1_1, .int .i64 a1_2, .int .i64 a1_3, .int .i64 a1_4, (.slice A1_5 l1_5.length c1_5), (.slice A1_6 l1_6.length c1_6), (.slice A1_7 l1_7.length c1_7)] 33 (0, 0))) ∧ Aside0 (wc.heap[gb285]? = some (.cells #[.int .i64 1, .int .i64 2, .int .i64 1, .int .i64 0, .int .i64 100, (.slice none 0 0), (.slice none 0 0), (.slice none 0 0)] 33 (0, 0))) ∧ Aside0 (wc.heap[gb286]? = some (.cells #[.int .i64 1, .int .i64 3, .int .i64 1, .int .i64 0, .int .i64 100, (.slice none 0 0), (.slice none 0 0), (.slice none 0 0)] 33 (0, 0))) ∧ Aside0 (Below w.heap.size w wc))
        case first =>
         have H := HC67.out
         clear HC67
         by_cases c68 : x17_58 = 0
         ·rw [if_pos c68] at H
          have c68b0 : (x17_58 == 0) = true := beq_iff_eq.mpr c68
          have c68b1 : (x17_58 != 0) = false := bne_eq_false_iff_eq.mpr c68
          clear c68
          (first | rw [c68b0] | (simp only [i64_w, i32_w]; rw [c68b0]) | skip)
          replace H := Option.bind_eq_some_iff.mp H
          obtain ⟨t314, A690, H⟩ := H
          replace H : (ephemerislaw1_RecurDiffs.j3 kj58 t302 t303 t304 t307 t310 t314 a0_0 a0_1 a0_2 a0_3 a0_4 l0_5 l0_6 l0_7 a1_0 a1_1 a1_2 a1_3 a1_4 l1_5 l1_6 l1_7) = some r := H
          have A69 := Aside0.mk A690
          clear A690
          have H' := Aside0.mk H
          clear H
          have hnb70 := NB284_283.out
          have hnc70 := NB283_284.out
          have hnb71 := NB284_285.out
          have hnc71 := NB285_284.out
          have hnb72 := NB284_286.out
          have hnc72 := NB286_284.out
          obtain ⟨hcz73_0, hcz73_1, hcz73_2, hcz73_3, hcz73_4, hcz73_5, hcz73_6, hcz73_7, hfz73_0, hfz73_1, hfz73_2, hfz73_3, hfz73_4, hfz73_5, hfz73_6, hfz73_7⟩ := bc8 BK284
          go_wp2_with (first | ((with_reducible refine gate_callee (f := 17) rfl ?_); refine goesL_ (some 84) rfl rfl Try.func17 kx rfl #[.agg #[.int .i64 a1_0, .int .i64 a1_1, .int .i64 a1_2, .int .i64 a1_3, .int .i64 a1_4, .slice A1_5 l1_5.length c1_5, .slice A1_6 l1_6.length c1_6, .slice A1_7 l1_7.length c1_7], .int .i64 t302, .int .i64 t303] rfl aa ?_; (with_reducible refine (ephemerislaw1_recurError.calls kj58 a1_0 a1_1 a1_2 a1_3 a1_4 _ _ l1_5 _ _ l1_6 _ _ l1_7 t302 t303 t314 _ ?side1 ?side2 ?side3 ?side4 ?side5 ?side6 A69.out).mono ?_); (case side1 => exact kc (Kd.C_below HR1_5.out HB.out)); (case side2 => exact HC1_5.out); (case side3 => exact kc (Kd.C_below HR1_6.out HB.out)); (case side4 => exact HC1_6.out); (case side5 => exact kc (Kd.C_below HR1_7.out HB.out)); (case side6 => exact HC1_7.out); rintro e w74 ⟨rfl, hb⟩; refine ⟨_, rfl, ?_⟩; have n0_ := Aside0.mk (Kd.R_below (by (with_reducible repeat (first | apply Kd.R_alloc | apply Kd.R_drewN | apply Kd.R_drew)); exact HO_14.out) hb); have n1_ := Aside0.mk (Kd.R_below (by (with_reducible repeat (first | apply Kd.R_alloc | apply Kd.R_drewN | apply Kd.R_drew)); exact HO_15.out) hb); have n2_ := bb BK283 hb; have n3_ := bb BK284 hb; have n4_ := bb BK285 hb; have n5_ := bb BK286 hb; have n6_ := Aside0.mk (below_step be hb); clear HO_14; clear HO_15; clear BK283; clear BK284; clear BK285; clear BK286; clear HB; have HO_14 := n0_; have HO_15 := n1_; have BK283 := n2_; have BK284 := n3_; have BK285 := n4_; have BK286 := n5_; have HB := n6_; clear n0_ n1_ n2_ n3_ n4_ n5_ n6_; (try clear hb); (try clear hb2); (try clear hk); (try clear hi)))
          go_meet
          case rel => exact ⟨_, (t314), rs, H', ⟨by have := HJ5.out; have := HJ38.out; have := HJ58.out; first | omega | exact Nat.le_refl _⟩, ⟨by (with_reducible repeat (first | apply Kd.R_alloc | apply Kd.R_drewN | apply Kd.R_drew)); exact HO_14.out⟩, ⟨by (with_reducible repeat (first | apply Kd.R_alloc | apply Kd.R_drewN | apply Kd.R_drew)); exact HO_15.out⟩, ⟨bk BK283⟩, ⟨bk BK284⟩, ⟨bk BK285⟩, ⟨bk BK286⟩, ⟨be⟩⟩
         ·rw [if_neg c68] at H
          have c68b0 : (x17_58 == 0) = false := beq_eq_false_iff_ne.mpr c68
          have c68b1 : (x17_58 != 0) = true := bne_iff_ne.mpr c68
          (first | rw [c68b0] | (simp only [i64_w, i32_w]; rw [c68b0]) | skip)
          have H' := Aside0.mk H
          clear H
          go_wp2
          go_meet
          case rel => exact ⟨_, (x17_58), rs, H', ⟨by have := HJ5.out; have := HJ38.out; have := HJ58.out; first | omega | exact Nat.le_refl _⟩, ⟨by (with_reducible repeat (first | apply Kd.R_alloc | apply Kd.R_drewN | apply Kd.R_drew)); exact HO_14.out⟩, ⟨by (with_reducible repeat (first | apply Kd.R_alloc | apply Kd.R_drewN | apply Kd.R_drew)); exact HO_15.out⟩, ⟨bk BK283⟩, ⟨bk BK284⟩, ⟨bk BK285⟩, ⟨bk BK286⟩, ⟨be⟩⟩
        case rest =>
         clear HC67
         (try clear c1); (try clear c2); (try clear p2); (try clear c3); (try clear c4); (try clear c5); (try clear c6); (try clear c7); (try clear c11); (try clear c12); (try clear c13); (try clear c15); (try clear c16); (try clear c17); (try clear c19); (try clear c19b0); (try clear c19b1); (try clear c21); (try clear c31); (try clear c32); (try clear c35); (try clear c40); (try clear c41); (try clear c42); (try clear c46); (try clear c47); (try clear c52); (try clear c52b0); (try clear c52b1); (try clear c54); (try clear c55); (try clear c56); (try clear c60); (try clear c60b0); (try clear c60b1); (try clear c62); (try clear c63); (try clear c64); (try clear c68); (try clear c68b0); (try clear c68b1); (try clear c70); (try clear c71); (try clear c72); (try clear hcz14_0); (try clear hcz14_1); (try clear hcz14_2); (try clear hcz14_3); (try clear hcz14_4); (try clear hcz14_5); (try clear hcz14_6); (try clear hcz14_7); (try clear hcz17_0); (try clear hcz17_1); (try clear hcz17_2); (try clear hcz17_3); (try clear hcz17_4); (try clear hcz17_5); (try clear hcz17_6); (try clear hcz17_7); (try clear hcz43_0); (try clear hcz43_1); (try clear hcz43_2); (try clear hcz43_3); (try clear hcz43_4); (try clear hcz43_5); (try clear hcz43_6); (try clear hcz43_7); (try clear hcz45_0); (try clear hcz45_1); (try clear hcz45_2); (try clear hcz45_3); (try clear hcz45_4); (try clear hcz45_5); (try clear hcz45_6); (try clear hcz45_7); (try clear hcz48_0); (try clear hcz48_1); (try clear hcz48_2); (try clear hcz48_3); (try clear hcz48_4); (try clear hcz48_5); (try clear hcz48_6); (try clear hcz48_7); (try clear hcz50_0); (try clear hcz50_1); (try clear hcz50_2); (try clear hcz50_3); (try clear hcz50_4); (try clear hcz50_5); (try clear hcz50_6); (try clear hcz50_7); (try clear hcz57_0); (try clear hcz57_1); (try clear hcz57_2); (try clear hcz57_3); (try clear hcz57_4); (try clear hcz57_5); (try clear hcz57_6); (try clear hcz57_7); (try clear hcz65_0); (try clear hcz65_1); (try clear hcz65_2); (try clear hcz65_3); (try clear hcz65_4); (try clear hcz65_5); (try clear hcz65_6); (try clear hcz65_7); (try clear hcz73_0); (try clear hcz73_1); (try clear hcz73_2); (try clear hcz73_3); (try clear hcz73_4); (try clear hcz73_5); (try clear hcz73_6); (try clear hcz73_7); (try clear hfz14_0); (try clear hfz14_1); (try clear hfz14_2); (try clear hfz14_3); (try clear hfz14_4); (try clear hfz14_5); (try clear hfz14_6); (try clear hfz14_7); (try clear hfz17_0); (try clear hfz17_1); (try clear hfz17_2); (try clear hfz17_3); (try clear hfz17_4); (try clear hfz17_5); (try clear hfz17_6); (try clear hfz17_7); (try clear hfz43_0); (try clear hfz43_1); (try clear hfz43_2); (try clear hfz43_3); (try clear hfz43_4); (try clear hfz43_5); (try clear hfz43_6); (try clear hfz43_7); (try clear hfz45_0); (try clear hfz45_1); (try clear hfz45_2); (try clear hfz45_3); (try clear hfz45_4); (try clear hfz45_5); (try clear hfz45_6); (try clear hfz45_7); (try clear hfz48_0); (try clear hfz48_1); (try clear hfz48_2); (try clear hfz48_3); (try clear hfz48_4); (try clear hfz48_5); (try clear hfz48_6); (try clear hfz48_7); (try clear hfz50_0); (try clear hfz50_1); (try clear hfz50_2); (try clear hfz50_3); (try clear hfz50_4); (try clear hfz50_5); (try clear hfz50_6); (try clear hfz50_7); (try clear hfz57_0); (try clear hfz57_1); (try clear hfz57_2); (try clear hfz57_3); (try clear hfz57_4); (try clear hfz57_5); (try clear hfz57_6); (try clear hfz57_7); (try clear hfz65_0); (try clear hfz65_1); (try clear hfz65_2); (try clear hfz65_3); (try clear hfz65_4); (try clear hfz65_5); (try clear hfz65_6); (try clear hfz65_7); (try clear hfz73_0); (try clear hfz73_1); (try clear hfz73_2); (try clear hfz73_3); (try clear hfz73_4); (try clear hfz73_5); (try clear hfz73_6); (try clear hfz73_7); (try clear p2)
         obtain ⟨kq, x17_66, rfl, HA, HJ66, HO_14, HO_15, BK283, BK284, BK285, BK286, HB⟩ := hcut
         cases kq with
         | zero => exact absurd HA.out (by simp [ephemerislaw1_RecurDiffs.j3])
         | succ kj66 =>
          have H := HA.out
          clear HA
          simp only [ephemerislaw1_RecurDiffs.j3] at H
          by_cases c75 : x17_66 = 0
          ·rw [if_pos c75] at H
           have c75b0 : (x17_66 == 0) = true := beq_iff_eq.mpr c75
           have c75b1 : (x17_66 != 0) = false := bne_eq_false_iff_eq.mpr c75
           clear c75
           by_cases c76 : t310 = 0
           ·rw [if_pos c76] at H
            have c76b0 : (t310 == 0) = true := beq_iff_eq.mpr c76
            have c76b1 : (t310 != 0) = false := bne_eq_false_iff_eq.mpr c76
            clear c76
            replace H := Option.bind_eq_some_iff.mp H
            obtain ⟨⟨t315, t318⟩, A770, H⟩ := H
            replace H : ((recur_Days.f kj66 a1_0 a1_1 a1_2 a1_3 a1_4 l1_5 l1_6 l1_7 t302 t303).bind fun bt319 => (ephemerislaw1_RecurDiffs.l0 kj66 t304 t307 t315 bt319.1 ([] : List Int) t315 (t315.length : Int) 0)) = some r := H
            have A77 := Aside0.mk A770
            clear A770
            replace H := Option.bind_eq_some_iff.mp H
            obtain ⟨⟨t319, t322⟩, A780, H⟩ := H
            replace H : (ephemerislaw1_RecurDiffs.l0 kj66 t304 t307 t315 t319 ([] : List Int) t315 (t315.length : Int) 0) = some r := H
            have A78 := Aside0.mk A780
            clear A780
            have H' := Aside0.mk H
            clear H
            have hnb79 := NB283_284.out
            have hnc79 := NB284_283.out
            have hnb80 := NB283_285.out
            have hnc80 := NB285_283.out
            have hnb81 := NB283_286.out
            have hnc81 := NB286_283.out
            obtain ⟨hcz82_0, hcz82_1, hcz82_2, hcz82_3, hcz82_4, hcz82_5, hcz82_6, hcz82_7, hfz82_0, hfz82_1, hfz82_2, hfz82_3, hfz82_4, hfz82_5, hfz82_6, hfz82_7⟩ := bc8 BK283
            go_wp2_with (first | ((with_reducible refine gate_callee (f := 14) rfl ?_); refine goesL_ (some 106) rfl rfl Try.func14 kx rfl #[.agg #[.int .i64 a0_0, .int .i64 a0_1, .int .i64 a0_2, .int .i64 a0_3, .int .i64 a0_4, .slice A0_5 l0_5.length c0_5, .slice A0_6 l0_6.length c0_6, .slice A0_7 l0_7.length c0_7], .int .i64 t302, .int .i64 t303] rfl aa ?_; (with_reducible refine (recur_Days.calls kj66 a0_0 a0_1 a0_2 a0_3 a0_4 _ _ l0_5 _ _ l0_6 _ _ l0_7 t302 t303 t315 t318 _ ?side1 ?side2 ?side3 ?side4 ?side5 ?side6 A77.out).mono ?_); (case side1 => exact kc (Kd.C_below HR0_5.out HB.out)); (case side2 => exact HC0_5.out); (case side3 => exact kc (Kd.C_below HR0_6.out HB.out)); (case side4 => exact HC0_6.out); (case side5 => exact kc (Kd.C_below HR0_7.out HB.out)); (case side6 => exact HC0_7.out); rintro e w83 ⟨v316, rfl, ho0, hb⟩; refine ⟨_, rfl, ?_⟩; have n0_ := Aside0.mk (Kd.R_elder' (by (with_reducible repeat (first | apply Kd.R_alloc | apply Kd.R_drewN | apply Kd.R_drew)); exact HO_14.out) (Kd.R_base ho0) hb); have n1_ := Aside0.mk (Kd.R_elder' (by (with_reducible repeat (first | apply Kd.R_alloc | apply Kd.R_drewN | apply Kd.R_drew)); exact HO_15.out) (Kd.R_base ho0) hb); have n2_ := Aside0.mk (Kd.R_lower (Kd.R_new' (Kd.R_new' ho0 (Kd.R_lt (by (with_reducible repeat (first | apply Kd.R_alloc | apply Kd.R_drewN | apply Kd.R_drew)); exact HO_14.out))) (Kd.R_lt (by (with_reducible repeat (first | apply Kd.R_alloc | apply Kd.R_drewN | apply Kd.R_drew)); exact HO_15.out))) (below_size be)); have n3_ := bb BK283 hb; have n4_ := bb BK284 hb; have n5_ := bb BK285 hb; have n6_ := bb BK286 hb; have n7_ := Aside0.mk (below_step be hb); clear HO_14; clear HO_15; clear BK283; clear BK284; clear BK285; clear BK286; clear HB; have HO_14 := n0_; have HO_15 := n1_; have HO317 := n2_; have BK283 := n3_; have BK284 := n4_; have BK285 := n5_; have BK286 := n6_; have HB := n7_; clear n0_ n1_ n2_ n3_ n4_ n5_ n6_ n7_; (try clear hb); (try clear hb2); (try clear hk); (try clear hi); (try clear ho0); have hnb84 := NB284_285.out; have hnc84 := NB285_284.out; have hnb85 := NB284_286.out; have hnc85 := NB286_284.out; obtain ⟨hcz86_0, hcz86_1, hcz86_2, hcz86_3, hcz86_4, hcz86_5, hcz86_6, hcz86_7, hfz86_0, hfz86_1, hfz86_2, hfz86_3, hfz86_4, hfz86_5, hfz86_6, hfz86_7⟩ := bc8 BK284) | ((with_reducible refine gate_callee (f := 14) rfl ?_); refine goesL_ (some 113) rfl rfl Try.func14 kx rfl #[.agg #[.int .i64 a1_0, .int .i64 a1_1, .int .i64 a1_2, .int .i64 a1_3, .int .i64 a1_4, .slice A1_5 l1_5.length c1_5, .slice A1_6 l1_6.length c1_6, .slice A1_7 l1_7.length c1_7], .int .i64 t302, .int .i64 t303] rfl aa ?_; (with_reducible refine (recur_Days.calls kj66 a1_0 a1_1 a1_2 a1_3 a1_4 _ _ l1_5 _ _ l1_6 _ _ l1_7 t302 t303 t319 t322 _ ?side1 ?side2 ?side3 ?side4 ?side5 ?side6 A78.out).mono ?_); (case side1 => exact kc (Kd.C_below HR1_5.out HB.out)); (case side2 => exact HC1_5.out); (case side3 => exact kc (Kd.C_below HR1_6.out HB.out)); (case side4 => exact HC1_6.out); (case side5 => exact kc (Kd.C_below HR1_7.out HB.out)); (case side6 => exact HC1_7.out); rintro e w87 ⟨v320, rfl, ho0, hb⟩; refine ⟨_, rfl, ?_⟩; have n0_ := Aside0.mk (Kd.R_elder' (by (with_reducible repeat (first | apply Kd.R_alloc | apply Kd.R_drewN | apply Kd.R_drew)); exact HO_14.out) (Kd.R_base ho0) hb); have n1_ := Aside0.mk (Kd.R_elder' (by (with_reducible repeat (first | apply Kd.R_alloc | apply Kd.R_drewN | apply Kd.R_drew)); exact HO_15.out) (Kd.R_base ho0) hb); have n2_ := Aside0.mk (Kd.R_elder' (by (with_reducible repeat (first | apply Kd.R_alloc | apply Kd.R_drewN | apply Kd.R_drew)); exact HO317.out) (Kd.R_base ho0) hb); have n3_ := Aside0.mk (Kd.R_lower (Kd.R_new' (Kd.R_new' (Kd.R_new' ho0 (Kd.R_lt (by (with_reducible repeat (first | apply Kd.R_alloc | apply Kd.R_drewN | apply Kd.R_drew)); exact HO_14.out))) (Kd.R_lt (by (with_reducible repeat (first | apply Kd.R_alloc | apply Kd.R_drewN | apply Kd.R_drew)); exact HO_15.out))) (Kd.R_lt (by (with_reducible repeat (first | apply Kd.R_alloc | apply Kd.R_drewN | apply Kd.R_drew)); exact HO317.out))) (below_size be)); have n4_ := bb BK283 hb; have n5_ := bb BK284 hb; have n6_ := bb BK285 hb; have n7_ := bb BK286 hb; have n8_ := Aside0.mk (below_step be hb); clear HO_14; clear HO_15; clear HO317; clear BK283; clear BK284; clear BK285; clear BK286; clear HB; have HO_14 := n0_; have HO_15 := n1_; have HO317 := n2_; have HO321 := n3_; have BK283 := n4_; have BK284 := n5_; have BK285 := n6_; have BK286 := n7_; have HB := n8_; clear n0_ n1_ n2_ n3_ n4_ n5_ n6_ n7_ n8_; (try clear hb); (try clear hb2); (try clear hk); (try clear hi); (try clear ho0); obtain ⟨Ao88, co88, eo88⟩ := Kd.R_slice HO317.out; subst eo88))
            go_loopg [22, 118] kj66 (fun kq v22 v118 w' => ∃ (x22_5 : List Int) (x118_5 : Int), v118 = .int .i64 x118_5 ∧ Aside0 (ephemerislaw1_RecurDiffs.l0 kq t304 t307 t315 t319 x22_5 t315 (t315.length : Int) x118_5 = some r) ∧ Aside0 (kq ≤ kj66) ∧ Aside0 (Kd.R (Kd.int .i64) 3 w' w.heap.size (fun k_ => some k_ ≠ (v308 : Value).ownBlock ∧ some k_ ≠ ((.slice Ao88 t315.length co88) : Value).ownBlock ∧ some k_ ≠ (v320 : Value).ownBlock ∧ some k_ ≠ (v22 : Value).ownBlock ∧ some k_ ≠ ((.slice Ao88 t315.length co88) : Value).ownBlock) v305 t304) ∧ Aside0 (Kd.R (Kd.int .i64) 3 w' w.heap.size (fun k_ => some k_ ≠ (v305 : Value).ownBlock ∧ some k_ ≠ ((.slice Ao88 t315.length co88) : Value).ownBlock ∧ some k_ ≠ (v320 : Value).ownBlock ∧ some k_ ≠ (v22 : Value).ownBlock ∧ some k_ ≠ ((.slice Ao88 t315.length co88) : Value).ownBlock) v308 t307) ∧ Aside0 (Kd.R (Kd.int .i64) 3 w' w.heap.size (fun k_ => some k_ ≠ (v305 : Value).ownBlock ∧ some k_ ≠ (v308 : Value).ownBlock ∧ some k_ ≠ (v320 : Value).ownBlock ∧ some k_ ≠ (v22 : Value).ownBlock) (.slice Ao88 t315.length co88) t315) ∧ Aside0 (Kd.R (Kd.int .i64) 3 w' w.heap.size (fun k_ => some k_ ≠ (v305 : Value).ownBlock ∧ some k_ ≠ (v308 : Value).ownBlock ∧ some k_ ≠ ((.slice Ao88 t315.length co88) : Value).ownBlock ∧ some k_ ≠ (v22 : Value).ownBlock ∧ some k_ ≠ ((.slice Ao88 t315.length co88) : Value).ownBlock) v320 t319) ∧ Aside0 (Kd.R (Kd.int .i64) 3 w' w.heap.size (fun k_ => some k_ ≠ (v305 : Value).ownBlock ∧ some k_ ≠ (v308 : Value).ownBlock ∧ some k_ ≠ ((.slice Ao88 t315.length co88) : Value).ownBlock ∧ some k_ ≠ (v320 : Value).ownBlock ∧ some k_ ≠ ((.slice Ao88 t315.length co88) : Value).ownBlock) v22 x22_5) ∧ Aside0 (Kd.R (Kd.int .i64) 3 w' w.heap.size (fun k_ => some k_ ≠ (v305 : Value).ownBlock ∧ some k_ ≠ (v308 : Value).ownBlock ∧ some k_ ≠ (v320 : Value).ownBlock ∧ some k_ ≠ (v22 : Value).ownBlock) (.slice Ao88 t315.length co88) t315) ∧ Aside0 (w'.heap[gb283]? = some (.cells #[.int .i64 a0_0, .int .i64 a0_1, .int .i64 a0_2, .int .i64 a0_3, .int .i64 a0_4, (.slice A0_5 l0_5.length c0_5), (.slice A0_6 l0_6.length c0_6), (.slice A0_7 l0_7.length c0_7)] 33 (0, 0))) ∧ Aside0 (w'.heap[gb284]? = some (.cells #[.int .i64 a1_0, .int .i64 a1_1, .int .i64 a1_2, .int .i64 a1_3, .int .i64 a1_4, (.slice A1_5 l1_5.length c1_5), (.slice A1_6 l1_6.length c1_6), (.slice A1_7 l1_7.length c1_7)] 33 (0, 0))) ∧ Aside0 (w'.heap[gb285]? = some (.cells #[.int .i64 1, .int .i64 2, .int .i64 1, .int .i64 0, .int .i64 100, (.slice none 0 0), (.slice none 0 0), (.slice none 0 0)] 33 (0, 0))) ∧ Aside0 (w'.heap[gb286]? = some (.cells #[.int .i64 1, .int .i64 3, .int .i64 1, .int .i64 0, .int .i64 100, (.slice none 0 0), (.slice none 0 0), (.slice none 0 0)] 33 (0, 0))) ∧ Aside0 (Below w.heap.size w w'))
            case atStart => exact ⟨(([] : List Int)), (0), rs, H', ⟨Nat.le_refl _⟩, ⟨by (with_reducible repeat (first | apply Kd.R_alloc | apply Kd.R_drewN | apply Kd.R_drew)); exact Kd.R_mono HO_14.out (fun _ hk => ⟨hk.1.1, ⟨hk.1.2, ⟨hk.2, ⟨(by simp [Value.ownBlock]), hk.1.2⟩⟩⟩⟩)⟩, ⟨by (with_reducible repeat (first | apply Kd.R_alloc | apply Kd.R_drewN | apply Kd.R_drew)); exact Kd.R_mono HO_15.out (fun _ hk => ⟨hk.1.1, ⟨hk.1.2, ⟨hk.2, ⟨(by simp [Value.ownBlock]), hk.1.2⟩⟩⟩⟩)⟩, ⟨by (with_reducible repeat (first | apply Kd.R_alloc | apply Kd.R_drewN | apply Kd.R_drew)); exact Kd.R_mono HO317.out (fun _ hk => ⟨hk.1.1.2, ⟨hk.1.2, ⟨hk.2, (by simp [Value.ownBlock])⟩⟩⟩)⟩, ⟨by (with_reducible repeat (first | apply Kd.R_alloc | apply Kd.R_drewN | apply Kd.R_drew)); exact Kd.R_mono HO321.out (fun _ hk => ⟨hk.1.1.2, ⟨hk.1.2, ⟨hk.2, ⟨(by simp [Value.ownBlock]), hk.2⟩⟩⟩⟩)⟩, ⟨by first | exact Kd.R_nil _ _ _ _ _ | exact Kd.N_nil _ _ _ _ _ | exact Kd.V_nil _ _ _ _ _ | exact Kd.Q_nil _ _ _ _ _ | exact Kd.S_nil _ _ _ _ _⟩, ⟨by (with_reducible repeat (first | apply Kd.R_alloc | apply Kd.R_drewN | apply Kd.R_drew)); exact Kd.R_mono HO317.out (fun _ hk => ⟨hk.1.1.2, ⟨hk.1.2, ⟨hk.2, (by simp [Value.ownBlock])⟩⟩⟩)⟩, ⟨bk BK283⟩, ⟨bk BK284⟩, ⟨bk BK285⟩, ⟨bk BK286⟩, ⟨be⟩⟩
            case round =>
             clear H'
             (try clear c1); (try clear c2); (try clear p2); (try clear c3); (try clear c4); (try clear c5); (try clear c6); (try clear c7); (try clear c8); (try clear c11); (try clear c12); (try clear c13); (try clear c14); (try clear c15); (try clear c16); (try clear c17); (try clear c19); (try clear c19b0); (try clear c19b1); (try clear c21); (try clear c31); (try clear c32); (try clear c35); (try clear c40); (try clear c41); (try clear c42); (try clear c46); (try clear c47); (try clear c52); (try clear c52b0); (try clear c52b1); (try clear c54); (try clear c55); (try clear c56); (try clear c60); (try clear c60b0); (try clear c60b1); (try clear c62); (try clear c63); (try clear c64); (try clear c68); (try clear c68b0); (try clear c68b1); (try clear c70); (try clear c71); (try clear c72); (try clear c75); (try clear c75b0); (try clear c75b1); (try clear c76); (try clear c76b0); (try clear c76b1); (try clear c79); (try clear c80); (try clear c81); (try clear c84); (try clear c85); (try clear hcz14_0); (try clear hcz14_1); (try clear hcz14_2); (try clear hcz14_3); (try clear hcz14_4); (try clear hcz14_5); (try clear hcz14_6); (try clear hcz14_7); (try clear hcz17_0); (try clear hcz17_1); (try clear hcz17_2); (try clear hcz17_3); (try clear hcz17_4); (try clear hcz17_5); (try clear hcz17_6); (try clear hcz17_7); (try clear hcz43_0); (try clear hcz43_1); (try clear hcz43_2); (try clear hcz43_3); (try clear hcz43_4); (try clear hcz43_5); (try clear hcz43_6); (try clear hcz43_7); (try clear hcz45_0); (try clear hcz45_1); (try clear hcz45_2); (try clear hcz45_3); (try clear hcz45_4); (try clear hcz45_5); (try clear hcz45_6); (try clear hcz45_7); (try clear hcz48_0); (try clear hcz48_1); (try clear hcz48_2); (try clear hcz48_3); (try clear hcz48_4); (try clear hcz48_5); (try clear hcz48_6); (try clear hcz48_7); (try clear hcz50_0); (try clear hcz50_1); (try clear hcz50_2); (try clear hcz50_3); (try clear hcz50_4); (try clear hcz50_5); (try clear hcz50_6); (try clear hcz50_7); (try clear hcz57_0); (try clear hcz57_1); (try clear hcz57_2); (try clear hcz57_3); (try clear hcz57_4); (try clear hcz57_5); (try clear hcz57_6); (try clear hcz57_7); (try clear hcz65_0); (try clear hcz65_1); (try clear hcz65_2); (try clear hcz65_3); (try clear hcz65_4); (try clear hcz65_5); (try clear hcz65_6); (try clear hcz65_7); (try clear hcz73_0); (try clear hcz73_1); (try clear hcz73_2); (try clear hcz73_3); (try clear hcz73_4); (try clear hcz73_5); (try clear hcz73_6); (try clear hcz73_7); (try clear hcz82_0); (try clear hcz82_1); (try clear hcz82_2); (try clear hcz82_3); (try clear hcz82_4); (try clear hcz82_5); (try clear hcz82_6); (try clear hcz82_7); (try clear hcz86_0); (try clear hcz86_1); (try clear hcz86_2); (try clear hcz86_3); (try clear hcz86_4); (try clear hcz86_5); (try clear hcz86_6); (try clear hcz86_7); (try clear hfz14_0); (try clear hfz14_1); (try clear hfz14_2); (try clear hfz14_3); (try clear hfz14_4); (try clear hfz14_5); (try clear hfz14_6); (try clear hfz14_7); (try clear hfz17_0); (try clear hfz17_1); (try clear hfz17_2); (try clear hfz17_3); (try clear hfz17_4); (try clear hfz17_5); (try clear hfz17_6); (try clear hfz17_7); (try clear hfz43_0); (try clear hfz43_1); (try clear hfz43_2); (try clear hfz43_3); (try clear hfz43_4); (try clear hfz43_5); (try clear hfz43_6); (try clear hfz43_7); (try clear hfz45_0); (try clear hfz45_1); (try clear hfz45_2); (try clear hfz45_3); (try clear hfz45_4); (try clear hfz45_5); (try clear hfz45_6); (try clear hfz45_7); (try clear hfz48_0); (try clear hfz48_1); (try clear hfz48_2); (try clear hfz48_3); (try clear hfz48_4); (try clear hfz48_5); (try clear hfz48_6); (try clear hfz48_7); (try clear hfz50_0); (try clear hfz50_1); (try clear hfz50_2); (try clear hfz50_3); (try clear hfz50_4); (try clear hfz50_5); (try clear hfz50_6); (try clear hfz50_7); (try clear hfz57_0); (try clear hfz57_1); (try clear hfz57_2); (try clear hfz57_3); (try clear hfz57_4); (try clear hfz57_5); (try clear hfz57_6); (try clear hfz57_7); (try clear hfz65_0); (try clear hfz65_1); (try clear hfz65_2); (try clear hfz65_3); (try clear hfz65_4); (try clear hfz65_5); (try clear hfz65_6); (try clear hfz65_7); (try clear hfz73_0); (try clear hfz73_1); (try clear hfz73_2); (try clear hfz73_3); (try clear hfz73_4); (try clear hfz73_5); (try clear hfz73_6); (try clear hfz73_7); (try clear hfz82_0); (try clear hfz82_1); (try clear hfz82_2); (try clear hfz82_3); (try clear hfz82_4); (try clear hfz82_5); (try clear hfz82_6); (try clear hfz82_7); (try clear hfz86_0); (try clear hfz86_1); (try clear hfz86_2); (try clear hfz86_3); (try clear hfz86_4); (try clear hfz86_5); (try clear hfz86_6); (try clear hfz86_7); (try clear p2)
             obtain ⟨x22_5, x118_5, rfl, HA, HK5, HO_14, HO_15, HO_18, HO_20, HO_22, HO_116, BK283, BK284, BK285, BK286, HB⟩ := hrel
             cases gk with
             | zero => exact absurd HA.out (by simp [ephemerislaw1_RecurDiffs.l0])
             | succ k5 =>
              have H := HA.out
              clear HA
              simp only [ephemerislaw1_RecurDiffs.l0] at H
              by_cases c89 : x118_5 < (t315.length : Int)
              ·rw [if_pos c89] at H
               have c89b0 : decide (x118_5 < (t315.length : Int)) = true := decide_eq_true c89
               clear c89
               by_cases c90 : 0 ≤ x118_5
               ·rw [if_pos c90] at H
                have c90b0 : decide (0 ≤ x118_5) = true := decide_eq_true c90
                clear c90
                by_cases c91 : x118_5 < (t315.length : Int)
                ·rw [if_pos c91] at H
                 have c91b0 : decide (x118_5 < (t315.length : Int)) = true := decide_eq_true c91
                 clear c91
                 replace H := Option.bind_eq_some_iff.mp H
                 obtain ⟨t324, A920, H⟩ := H
                 replace H : (if t324 = true then (ephemerislaw1_RecurDiffs.l0 k5 t304 t307 t315 t319 x22_5 t315 (t315.length : Int) (wrap64 (x118_5 + 1))) else (if x22_5.length < 17592186044416 then (ephemerislaw1_RecurDiffs.l0 k5 t304 t307 t315 t319 (x22_5 ++ [rd t315 x118_5]) t315 (t315.length : Int) (wrap64 (x118_5 + 1))) else (none))) = some r := H
                 have A92 := Aside0.mk A920
                 clear A920
                 by_cases c93 : t324 = true
                 ·subst c93
                  have H1 : (ephemerislaw1_RecurDiffs.l0 k5 t304 t307 t315 t319 x22_5 t315 (t315.length : Int) (wrap64 (x118_5 + 1))) = some r := by rw [if_pos rfl] at H; exact H
                  clear H
                  have H := H1
                  clear H1
                  have H' := Aside0.mk H
                  clear H
                  have p323 : 0 ≤ (x118_5 : Int) := of_decide_eq_true ka
                  have q323 : x118_5 < (t315.length : Int) := of_decide_eq_true ka
                  obtain ⟨ad323, e323, hx323_0⟩ := Kd.at_int (Kd.R_reads' HO_116.out).2.2 x118_5 p323 q323
                  cases e323
                  replace p323 := eq_true p323
                  replace q323 := eq_true q323
                  obtain ⟨Ao94, co94, eo94⟩ := Kd.R_slice HO_20.out
                  subst eo94
                  go_wp2_with (first | ((with_reducible refine gate_callee (f := 33) rfl ?_); refine goesL_ (some 124) rfl rfl Try.func33 kx rfl #[.slice Ao94 t319.length co94, .int .i64 (rd t315 x118_5)] rfl aa ?_; (with_reducible refine (slices_Contains_int_int.calls k5 _ _ t319 (rd t315 x118_5) true _ ?side1 ?side2 A92.out).mono ?_); (case side1 => repeat (first | exact (Kd.R_reads' HO_20.out).2.2 | (with_reducible refine Kd.C_alloc ?_ _) | (with_reducible refine Kd.C_drewN ?_ _) | (with_reducible refine Kd.C_drew ?_))); (case side2 => exact (Kd.R_reads' HO_20.out).2.1); rintro e w' ⟨rfl, ⟨nd, rfl⟩⟩; refine ⟨_, rfl, ?_⟩))
                  go_roundg k5
                  case measure => have := HJ5.out; have := HJ38.out; have := HJ58.out; have := HJ66.out; have := HK5.out; omega
                  case rel => exact ⟨(x22_5), (wrap64 (x118_5 + 1)), rs, H', ⟨by have := HJ5.out; have := HJ38.out; have := HJ58.out; have := HJ66.out; have := HK5.out; omega⟩, ⟨by (with_reducible repeat (first | apply Kd.R_alloc | apply Kd.R_drewN | apply Kd.R_drew)); exact HO_14.out⟩, ⟨by (with_reducible repeat (first | apply Kd.R_alloc | apply Kd.R_drewN | apply Kd.R_drew)); exact HO_15.out⟩, ⟨by (with_reducible repeat (first | apply Kd.R_alloc | apply Kd.R_drewN | apply Kd.R_drew)); exact HO_18.out⟩, ⟨by (with_reducible repeat (first | apply Kd.R_alloc | apply Kd.R_drewN | apply Kd.R_drew)); exact HO_20.out⟩, ⟨by (with_reducible repeat (first | apply Kd.R_alloc | apply Kd.R_drewN | apply Kd.R_drew)); exact HO_22.out⟩, ⟨by (with_reducible repeat (first | apply Kd.R_alloc | apply Kd.R_drewN | apply Kd.R_drew)); exact HO_116.out⟩, ⟨bk BK283⟩, ⟨bk BK284⟩, ⟨bk BK285⟩, ⟨bk BK286⟩, ⟨be⟩⟩
                 ·replace c93 := Bool.eq_false_iff.mpr c93
                  subst c93
                  have H1 : (if x22_5.length < 17592186044416 then (ephemerislaw1_RecurDiffs.l0 k5 t304 t307 t315 t319 (x22_5 ++ [rd t315 x118_5]) t315 (t315.length : Int) (wrap64 (x118_5 + 1))) else (none)) = some r := by rw [if_neg (show ¬ (false = true) by decide)] at H; exact H
                  clear H
                  have H := H1
                  clear H1
                  by_cases c95 : x22_5.length < 17592186044416
                  ·rw [if_pos c95] at H
                   have LMc95 := Aside0.mk c95
                   clear c95
                   obtain ⟨y325, hy325⟩ : ∃ y_ : List Int, y_ = (x22_5 ++ [rd t315 x118_5]) := ⟨_, rfl⟩
                   replace H : (ephemerislaw1_RecurDiffs.l0 k5 t304 t307 t315 t319 y325 t315 (t315.length : Int) (wrap64 (x118_5 + 1))) = some r := rp hy325 H
                   have Ny325 := Aside0.mk hy325
                   clear hy325
                   have H' := Aside0.mk H
                   clear H
                   have p323 : 0 ≤ (x118_5 : Int) := of_decide_eq_true ka
                   have q323 : x118_5 < (t315.length : Int) := of_decide_eq_true ka
                   obtain ⟨ad323, e323, hx323_0⟩ := Kd.at_int (Kd.R_reads' HO_116.out).2.2 x118_5 p323 q323
                   cases e323
                   replace p323 := eq_true p323
                   replace q323 := eq_true q323
                   obtain ⟨Ao96, co96, eo96⟩ := Kd.R_slice HO_20.out
                   subst eo96
                   go_wp2_with (first | ((with_reducible refine gate_callee (f := 33) rfl ?_); refine goesL_ (some 124) rfl rfl Try.func33 kx rfl #[.slice Ao96 t319.length co96, .int .i64 (rd t315 x118_5)] rfl aa ?_; (with_reducible refine (slices_Contains_int_int.calls k5 _ _ t319 (rd t315 x118_5) false _ ?side1 ?side2 A92.out).mono ?_); (case side1 => repeat (first | exact (Kd.R_reads' HO_20.out).2.2 | (with_reducible refine Kd.C_alloc ?_ _) | (with_reducible refine Kd.C_drewN ?_ _) | (with_reducible refine Kd.C_drew ?_))); (case side2 => exact (Kd.R_reads' HO_20.out).2.1); rintro e w' ⟨rfl, ⟨nd, rfl⟩⟩; refine ⟨_, rfl, ?_⟩) | ((with_reducible refine gate_builtin (b := .append) (xs := #[.tmp 126, .tmp 128]) rfl ?_); (try (refine gate_guard (by rfl) ?_; dsimp only)); at_builtin; refine Kd.R_append (Kd.int .i64) (w0 := w) w.heap.size rfl (.tmp 126) (.tmp 128) 22 3 (.int .i64 0) 8 rfl Try.underlying22 info3 rfl (by decide) (by omega) u22 x22_5 (rd t315 x118_5) [.int .i64 (rd t315 x118_5)] (fun k_ => some k_ ≠ (v305 : Value).ownBlock ∧ some k_ ≠ (v308 : Value).ownBlock ∧ some k_ ≠ (.slice (some ad323) t315.length co88 : Value).ownBlock ∧ some k_ ≠ (.slice Ao96 t319.length co96 : Value).ownBlock ∧ some k_ ≠ (.slice (some ad323) t315.length co88 : Value).ownBlock) (fun _ => False) rfl rfl ?aP (fun _ hk => hk.elim) ?aF ?aO ?aB ?aS ?aL ?_; (case aP => exact rfl); (case aB => exact be); (case aF => exact (fun k_ hk => ⟨Kd.fresh' (Kd.R_lt (by (with_reducible repeat (first | apply Kd.R_alloc | apply Kd.R_drewN | apply Kd.R_drew)); exact HO_14.out)) k_ hk, Kd.fresh' (Kd.R_lt (by (with_reducible repeat (first | apply Kd.R_alloc | apply Kd.R_drewN | apply Kd.R_drew)); exact HO_15.out)) k_ hk, Kd.fresh' (Kd.R_lt (by (with_reducible repeat (first | apply Kd.R_alloc | apply Kd.R_drewN | apply Kd.R_drew)); exact HO_18.out)) k_ hk, Kd.fresh' (Kd.R_lt (by (with_reducible repeat (first | apply Kd.R_alloc | apply Kd.R_drewN | apply Kd.R_drew)); exact HO_20.out)) k_ hk, Kd.fresh' (Kd.R_lt (by (with_reducible repeat (first | apply Kd.R_alloc | apply Kd.R_drewN | apply Kd.R_drew)); exact HO_116.out)) k_ hk⟩)); (case aO => exact (by (with_reducible repeat (first | apply Kd.R_alloc | apply Kd.R_drewN | apply Kd.R_drew)); exact HO_22.out)); (case aS => exact (below_size be)); (case aL => have := LMc95.out; omega); intro v326 w97 ho hb hg hat; rw [← Ny325.out] at ho; have n0_ := Aside0.mk (Kd.R_after (ok := (fun k_ => some k_ ≠ (v308 : Value).ownBlock ∧ some k_ ≠ (.slice (some ad323) t315.length co88 : Value).ownBlock ∧ some k_ ≠ (.slice Ao96 t319.length co96 : Value).ownBlock ∧ some k_ ≠ (.slice (some ad323) t315.length co88 : Value).ownBlock)) (by (with_reducible repeat (first | apply Kd.R_alloc | apply Kd.R_drewN | apply Kd.R_drew)); exact Kd.R_mono HO_14.out (fun _ hk => ⟨⟨hk.1, ⟨hk.2.1, ⟨hk.2.2.1, hk.2.2.2.2⟩⟩⟩, hk.2.2.2.1⟩)) hg hat); have n1_ := Aside0.mk (Kd.R_after (ok := (fun k_ => some k_ ≠ (v305 : Value).ownBlock ∧ some k_ ≠ (.slice (some ad323) t315.length co88 : Value).ownBlock ∧ some k_ ≠ (.slice Ao96 t319.length co96 : Value).ownBlock ∧ some k_ ≠ (.slice (some ad323) t315.length co88 : Value).ownBlock)) (by (with_reducible repeat (first | apply Kd.R_alloc | apply Kd.R_drewN | apply Kd.R_drew)); exact Kd.R_mono HO_15.out (fun _ hk => ⟨⟨hk.1, ⟨hk.2.1, ⟨hk.2.2.1, hk.2.2.2.2⟩⟩⟩, hk.2.2.2.1⟩)) hg hat); have n2_ := Aside0.mk (Kd.R_after (ok := (fun k_ => some k_ ≠ (v305 : Value).ownBlock ∧ some k_ ≠ (v308 : Value).ownBlock ∧ some k_ ≠ (.slice Ao96 t319.length co96 : Value).ownBlock)) (by (with_reducible repeat (first | apply Kd.R_alloc | apply Kd.R_drewN | apply Kd.R_drew)); exact Kd.R_mono HO_18.out (fun _ hk => ⟨⟨hk.1, ⟨hk.2.1, hk.2.2.1⟩⟩, hk.2.2.2⟩)) hg hat); have n3_ := Aside0.mk (Kd.R_after (ok := (fun k_ => some k_ ≠ (v305 : Value).ownBlock ∧ some k_ ≠ (v308 : Value).ownBlock ∧ some k_ ≠ (.slice (some ad323) t315.length co88 : Value).ownBlock ∧ some k_ ≠ (.slice (some ad323) t315.length co88 : Value).ownBlock)) (by (with_reducible repeat (first | apply Kd.R_alloc | apply Kd.R_drewN | apply Kd.R_drew)); exact Kd.R_mono HO_20.out (fun _ hk => ⟨⟨hk.1, ⟨hk.2.1, ⟨hk.2.2.1, hk.2.2.2.2⟩⟩⟩, hk.2.2.2.1⟩)) hg hat); have n4_ := Aside0.mk (Kd.R_after (ok := (fun k_ => some k_ ≠ (v305 : Value).ownBlock ∧ some k_ ≠ (v308 : Value).ownBlock ∧ some k_ ≠ (.slice Ao96 t319.length co96 : Value).ownBlock)) (by (with_reducible repeat (first | apply Kd.R_alloc | apply Kd.R_drewN | apply Kd.R_drew)); exact Kd.R_mono HO_116.out (fun _ hk => ⟨⟨hk.1, ⟨hk.2.1, hk.2.2.1⟩⟩, hk.2.2.2⟩)) hg hat); have n5_ := Aside0.mk (blk_grown (g := gb283) (o := .cells #[.int .i64 a0_0, .int .i64 a0_1, .int .i64 a0_2, .int .i64 a0_3, .int .i64 a0_4, .slice A0_5 l0_5.length c0_5, .slice A0_6 l0_6.length c0_6, .slice A0_7 l0_7.length c0_7] 33 (0, 0)) (bk BK283) hg (Kd.R_ne HO_22.out BK283.out (by decide))); have n6_ := Aside0.mk (blk_grown (g := gb284) (o := .cells #[.int .i64 a1_0, .int .i64 a1_1, .int .i64 a1_2, .int .i64 a1_3, .int .i64 a1_4, .slice A1_5 l1_5.length c1_5, .slice A1_6 l1_6.length c1_6, .slice A1_7 l1_7.length c1_7] 33 (0, 0)) (bk BK284) hg (Kd.R_ne HO_22.out BK284.out (by decide))); have n7_ := Aside0.mk (blk_grown (g := gb285) (o := .cells #[.int .i64 1, .int .i64 2, .int .i64 1, .int .i64 0, .int .i64 100, .slice none 0 0, .slice none 0 0, .slice none 0 0] 33 (0, 0)) (bk BK285) hg (Kd.R_ne HO_22.out BK285.out (by decide))); have n8_ := Aside0.mk (blk_grown (g := gb286) (o := .cells #[.int .i64 1, .int .i64 3, .int .i64 1, .int .i64 0, .int .i64 100, .slice none 0 0, .slice none 0 0, .slice none 0 0] 33 (0, 0)) (bk BK286) hg (Kd.R_ne HO_22.out BK286.out (by decide))); have n9_ := Aside0.mk (hb); have n10_ := Aside0.mk (ho); clear HO_14; clear HO_15; clear HO_18; clear HO_20; clear HO_116; clear BK283; clear BK284; clear BK285; clear BK286; clear HB; clear HO_22; have HO_14 := n0_; have HO_15 := n1_; have HO_18 := n2_; have HO_20 := n3_; have HO_116 := n4_; have BK283 := n5_; have BK284 := n6_; have BK285 := n7_; have BK286 := n8_; have HB := n9_; have HO327 := n10_; clear n0_ n1_ n2_ n3_ n4_ n5_ n6_ n7_ n8_ n9_ n10_; clear ho hb hg hat))
                   go_roundg k5
                   case measure => have := HJ5.out; have := HJ38.out; have := HJ58.out; have := HJ66.out; have := HK5.out; omega
                   case rel => exact ⟨(y325), (wrap64 (x118_5 + 1)), rs, H', ⟨by have := HJ5.out; have := HJ38.out; have := HJ58.out; have := HJ66.out; have := HK5.out; omega⟩, ⟨by (with_reducible repeat (first | apply Kd.R_alloc | apply Kd.R_drewN | apply Kd.R_drew)); exact Kd.R_mono HO_14.out (fun _ hk => ⟨hk.1.1, ⟨hk.1.2.1, ⟨hk.1.2.2.1, ⟨hk.2, hk.1.2.2.2⟩⟩⟩⟩)⟩, ⟨by (with_reducible repeat (first | apply Kd.R_alloc | apply Kd.R_drewN | apply Kd.R_drew)); exact Kd.R_mono HO_15.out (fun _ hk => ⟨hk.1.1, ⟨hk.1.2.1, ⟨hk.1.2.2.1, ⟨hk.2, hk.1.2.2.2⟩⟩⟩⟩)⟩, ⟨by (with_reducible repeat (first | apply Kd.R_alloc | apply Kd.R_drewN | apply Kd.R_drew)); exact Kd.R_mono HO_18.out (fun _ hk => ⟨hk.1.1, ⟨hk.1.2.1, ⟨hk.1.2.2, hk.2⟩⟩⟩)⟩, ⟨by (with_reducible repeat (first | apply Kd.R_alloc | apply Kd.R_drewN | apply Kd.R_drew)); exact Kd.R_mono HO_20.out (fun _ hk => ⟨hk.1.1, ⟨hk.1.2.1, ⟨hk.1.2.2.1, ⟨hk.2, hk.1.2.2.2⟩⟩⟩⟩)⟩, ⟨by (with_reducible repeat (first | apply Kd.R_alloc | apply Kd.R_drewN | apply Kd.R_drew)); exact HO327.out⟩, ⟨by (with_reducible repeat (first | apply Kd.R_alloc | apply Kd.R_drewN | apply Kd.R_drew)); exact Kd.R_mono HO_116.out (fun _ hk => ⟨hk.1.1, ⟨hk.1.2.1, ⟨hk.1.2.2, hk.2⟩⟩⟩)⟩, ⟨bk BK283⟩, ⟨bk BK284⟩, ⟨bk BK285⟩, ⟨bk BK286⟩, ⟨be⟩⟩
                  ·rw [if_neg c95] at H
                   exact absurd H (by simp)
                ·rw [if_neg c91] at H
                 exact absurd H (by simp)
               ·rw [if_neg c90] at H
                exact absurd H (by simp)
              ·rw [if_neg c89] at H
               have c89b0 : decide (x118_5 < (t315.length : Int)) = false := decide_eq_false c89
               clear c89
               have H' := Aside0.mk H
               clear H
               obtain ⟨Ao98, co98, eo98⟩ := Kd.R_slice HO_20.out
               subst eo98
               go_wp2
               go_loopg [23, 133] k5 (fun kq v23 v133 w' => ∃ (x23_6 : List Int) (x133_6 : Int), v133 = .int .i64 x133_6 ∧ Aside0 (ephemerislaw1_RecurDiffs.l1 kq t304 t307 t315 x22_5 x23_6 t319 (t319.length : Int) x133_6 = some r) ∧ Aside0 (kq ≤ k5) ∧ Aside0 (Kd.R (Kd.int .i64) 3 w' w.heap.size (fun k_ => some k_ ≠ (v308 : Value).ownBlock ∧ some k_ ≠ ((.slice Ao88 t315.length co88) : Value).ownBlock ∧ some k_ ≠ (u22 : Value).ownBlock ∧ some k_ ≠ (v23 : Value).ownBlock ∧ some k_ ≠ ((.slice Ao98 t319.length co98) : Value).ownBlock) v305 t304) ∧ Aside0 (Kd.R (Kd.int .i64) 3 w' w.heap.size (fun k_ => some k_ ≠ (v305 : Value).ownBlock ∧ some k_ ≠ ((.slice Ao88 t315.length co88) : Value).ownBlock ∧ some k_ ≠ (u22 : Value).ownBlock ∧ some k_ ≠ (v23 : Value).ownBlock ∧ some k_ ≠ ((.slice Ao98 t319.length co98) : Value).ownBlock) v308 t307) ∧ Aside0 (Kd.R (Kd.int .i64) 3 w' w.heap.size (fun k_ => some k_ ≠ (v305 : Value).ownBlock ∧ some k_ ≠ (v308 : Value).ownBlock ∧ some k_ ≠ (u22 : Value).ownBlock ∧ some k_ ≠ (v23 : Value).ownBlock ∧ some k_ ≠ ((.slice Ao98 t319.length co98) : Value).ownBlock) (.slice Ao88 t315.length co88) t315) ∧ Aside0 (Kd.R (Kd.int .i64) 3 w' w.heap.size (fun k_ => some k_ ≠ (v305 : Value).ownBlock ∧ some k_ ≠ (v308 : Value).ownBlock ∧ some k_ ≠ ((.slice Ao88 t315.length co88) : Value).ownBlock ∧ some k_ ≠ (v23 : Value).ownBlock ∧ some k_ ≠ ((.slice Ao98 t319.length co98) : Value).ownBlock) u22 x22_5) ∧ Aside0 (Kd.R (Kd.int .i64) 3 w' w.heap.size (fun k_ => some k_ ≠ (v305 : Value).ownBlock ∧ some k_ ≠ (v308 : Value).ownBlock ∧ some k_ ≠ ((.slice Ao88 t315.length co88) : Value).ownBlock ∧ some k_ ≠ (u22 : Value).ownBlock ∧ some k_ ≠ ((.slice Ao98 t319.length co98) : Value).ownBlock) v23 x23_6) ∧ Aside0 (Kd.R (Kd.int .i64) 3 w' w.heap.size (fun k_ => some k_ ≠ (v305 : Value).ownBlock ∧ some k_ ≠ (v308 : Value).ownBlock ∧ some k_ ≠ ((.slice Ao88 t315.length co88) : Value).ownBlock ∧ some k_ ≠ (u22 : Value).ownBlock ∧ some k_ ≠ (v23 : Value).ownBlock) (.slice Ao98 t319.length co98) t319) ∧ Aside0 (w'.heap[gb283]? = some (.cells #[.int .i64 a0_0, .int .i64 a0_1, .int .i64 a0_2, .int .i64 a0_3, .int .i64 a0_4, (.slice A0_5 l0_5.length c0_5), (.slice A0_6 l0_6.length c0_6), (.slice A0_7 l0_7.length c0_7)] 33 (0, 0))) ∧ Aside0 (w'.heap[gb284]? = some (.cells #[.int .i64 a1_0, .int .i64 a1_1, .int .i64 a1_2, .int .i64 a1_3, .int .i64 a1_4, (.slice A1_5 l1_5.length c1_5), (.slice A1_6 l1_6.length c1_6), (.slice A1_7 l1_7.length c1_7)] 33 (0, 0))) ∧ Aside0 (w'.heap[gb285]? = some (.cells #[.int .i64 1, .int .i64 2, .int .i64 1, .int .i64 0, .int .i64 100, (.slice none 0 0), (.slice none 0 0), (.slice none 0 0)] 33 (0, 0))) ∧ Aside0 (w'.heap[gb286]? = some (.cells #[.int .i64 1, .int .i64 3, .int .i64 1, .int .i64 0, .int .i64 100, (.slice none 0 0), (.slice none 0 0), (.slice none 0 0)] 33 (0, 0))) ∧ Aside0 (Below w.heap.size w w'))
               case atStart => exact ⟨(([] : List Int)), (0), rs, H', ⟨Nat.le_refl _⟩, ⟨by (with_reducible repeat (first | apply Kd.R_alloc | apply Kd.R_drewN | apply Kd.R_drew)); exact Kd.R_mono HO_14.out (fun _ hk => ⟨hk.1, ⟨hk.2.1, ⟨hk.2.2.2.1, ⟨(by simp [Value.ownBlock]), hk.2.2.1⟩⟩⟩⟩)⟩, ⟨by (with_reducible repeat (first | apply Kd.R_alloc | apply Kd.R_drewN | apply Kd.R_drew)); exact Kd.R_mono HO_15.out (fun _ hk => ⟨hk.1, ⟨hk.2.1, ⟨hk.2.2.2.1, ⟨(by simp [Value.ownBlock]), hk.2.2.1⟩⟩⟩⟩)⟩, ⟨by (with_reducible repeat (first | apply Kd.R_alloc | apply Kd.R_drewN | apply Kd.R_drew)); exact Kd.R_mono HO_18.out (fun _ hk => ⟨hk.1, ⟨hk.2.1, ⟨hk.2.2.2, ⟨(by simp [Value.ownBlock]), hk.2.2.1⟩⟩⟩⟩)⟩, ⟨by (with_reducible repeat (first | apply Kd.R_alloc | apply Kd.R_drewN | apply Kd.R_drew)); exact Kd.R_mono HO_22.out (fun _ hk => ⟨hk.1, ⟨hk.2.1, ⟨hk.2.2.1, ⟨(by simp [Value.ownBlock]), hk.2.2.2.1⟩⟩⟩⟩)⟩, ⟨by first | exact Kd.R_nil _ _ _ _ _ | exact Kd.N_nil _ _ _ _ _ | exact Kd.V_nil _ _ _ _ _ | exact Kd.Q_nil _ _ _ _ _ | exact Kd.S_nil _ _ _ _ _⟩, ⟨by (with_reducible repeat (first | apply Kd.R_alloc | apply Kd.R_drewN | apply Kd.R_drew)); exact Kd.R_mono HO_20.out (fun _ hk => ⟨hk.1, ⟨hk.2.1, ⟨hk.2.2.1, ⟨hk.2.2.2.1, (by simp [Value.ownBlock])⟩⟩⟩⟩)⟩, ⟨bk BK283⟩, ⟨bk BK284⟩, ⟨bk BK285⟩, ⟨bk BK286⟩, ⟨be⟩⟩
               case round =>
                clear H'
                (try clear c1); (try clear c2); (try clear p2); (try clear c3); (try clear p3); (try clear q3); (try clear hx3); (try clear c4); (try clear c5); (try clear c6); (try clear p6); (try clear c7); (try clear c8); (try clear c9); (try clear c11); (try clear c12); (try clear c13); (try clear c14); (try clear c15); (try clear c16); (try clear c17); (try clear c19); (try clear c19b0); (try clear c19b1); (try clear c21); (try clear c31); (try clear c32); (try clear p32); (try clear q32); (try clear hx32); (try clear c33); (try clear c35); (try clear c40); (try clear c41); (try clear c42); (try clear c46); (try clear c47); (try clear c52); (try clear c52b0); (try clear c52b1); (try clear c54); (try clear c55); (try clear c56); (try clear c60); (try clear c60b0); (try clear c60b1); (try clear c62); (try clear c63); (try clear c64); (try clear p64); (try clear c68); (try clear c68b0); (try clear c68b1); (try clear c70); (try clear c71); (try clear c72); (try clear c75); (try clear c75b0); (try clear c75b1); (try clear c76); (try clear c76b0); (try clear c76b1); (try clear c79); (try clear c80); (try clear c81); (try clear c84); (try clear c85); (try clear c89); (try clear c89b0); (try clear c90); (try clear c90b0); (try clear c91); (try clear c91b0); (try clear c93); (try clear c95); (try clear hcz14_0); (try clear hcz14_1); (try clear hcz14_2); (try clear hcz14_3); (try clear hcz14_4); (try clear hcz14_5); (try clear hcz14_6); (try clear hcz14_7); (try clear hcz17_0); (try clear hcz17_1); (try clear hcz17_2); (try clear hcz17_3); (try clear hcz17_4); (try clear hcz17_5); (try clear hcz17_6); (try clear hcz17_7); (try clear hcz43_0); (try clear hcz43_1); (try clear hcz43_2); (try clear hcz43_3); (try clear hcz43_4); (try clear hcz43_5); (try clear hcz43_6); (try clear hcz43_7); (try clear hcz45_0); (try clear hcz45_1); (try clear hcz45_2); (try clear hcz45_3); (try clear hcz45_4); (try clear hcz45_5); (try clear hcz45_6); (try clear hcz45_7); (try clear hcz48_0); (try clear hcz48_1); (try clear hcz48_2); (try clear hcz48_3); (try clear hcz48_4); (try clear hcz48_5); (try clear hcz48_6); (try clear hcz48_7); (try clear hcz50_0); (try clear hcz50_1); (try clear hcz50_2); (try clear hcz50_3); (try clear hcz50_4); (try clear hcz50_5); (try clear hcz50_6); (try clear hcz50_7); (try clear hcz57_0); (try clear hcz57_1); (try clear hcz57_2); (try clear hcz57_3); (try clear hcz57_4); (try clear hcz57_5); (try clear hcz57_6); (try clear hcz57_7); (try clear hcz65_0); (try clear hcz65_1); (try clear hcz65_2); (try clear hcz65_3); (try clear hcz65_4); (try clear hcz65_5); (try clear hcz65_6); (try clear hcz65_7); (try clear hcz73_0); (try clear hcz73_1); (try clear hcz73_2); (try clear hcz73_3); (try clear hcz73_4); (try clear hcz73_5); (try clear hcz73_6); (try clear hcz73_7); (try clear hcz82_0); (try clear hcz82_1); (try clear hcz82_2); (try clear hcz82_3); (try clear hcz82_4); (try clear hcz82_5); (try clear hcz82_6); (try clear hcz82_7); (try clear hcz86_0); (try clear hcz86_1); (try clear hcz86_2); (try clear hcz86_3); (try clear hcz86_4); (try clear hcz86_5); (try clear hcz86_6); (try clear hcz86_7); (try clear hfz14_0); (try clear hfz14_1); (try clear hfz14_2); (try clear hfz14_3); (try clear hfz14_4); (try clear hfz14_5); (try clear hfz14_6); (try clear hfz14_7); (try clear hfz17_0); (try clear hfz17_1); (try clear hfz17_2); (try clear hfz17_3); (try clear hfz17_4); (try clear hfz17_5); (try clear hfz17_6); (try clear hfz17_7); (try clear hfz43_0); (try clear hfz43_1); (try clear hfz43_2); (try clear hfz43_3); (try clear hfz43_4); (try clear hfz43_5); (try clear hfz43_6); (try clear hfz43_7); (try clear hfz45_0); (try clear hfz45_1); (try clear hfz45_2); (try clear hfz45_3); (try clear hfz45_4); (try clear hfz45_5); (try clear hfz45_6); (try clear hfz45_7); (try clear hfz48_0); (try clear hfz48_1); (try clear hfz48_2); (try clear hfz48_3); (try clear hfz48_4); (try clear hfz48_5); (try clear hfz48_6); (try clear hfz48_7); (try clear hfz50_0); (try clear hfz50_1); (try clear hfz50_2); (try clear hfz50_3); (try clear hfz50_4); (try clear hfz50_5); (try clear hfz50_6); (try clear hfz50_7); (try clear hfz57_0); (try clear hfz57_1); (try clear hfz57_2); (try clear hfz57_3); (try clear hfz57_4); (try clear hfz57_5); (try clear hfz57_6); (try clear hfz57_7); (try clear hfz65_0); (try clear hfz65_1); (try clear hfz65_2); (try clear hfz65_3); (try clear hfz65_4); (try clear hfz65_5); (try clear hfz65_6); (try clear hfz65_7); (try clear hfz73_0); (try clear hfz73_1); (try clear hfz73_2); (try clear hfz73_3); (try clear hfz73_4); (try clear hfz73_5); (try clear hfz73_6); (try clear hfz73_7); (try clear hfz82_0); (try clear hfz82_1); (try clear hfz82_2); (try clear hfz82_3); (try clear hfz82_4); (try clear hfz82_5); (try clear hfz82_6); (try clear hfz82_7); (try clear hfz86_0); (try clear hfz86_1); (try clear hfz86_2); (try clear hfz86_3); (try clear hfz86_4); (try clear hfz86_5); (try clear hfz86_6); (try clear hfz86_7); (try clear hx323_0); (try clear p2); (try clear p323); (try clear q323)
                obtain ⟨x23_6, x133_6, rfl, HA, HK6, HO_14, HO_15, HO_18, HO_22, HO_23, HO_131, BK283, BK284, BK285, BK286, HB⟩ := hrel
                cases gk with
                | zero => exact absurd HA.out (by simp [ephemerislaw1_RecurDiffs.l1])
                | succ k6 =>
                 have H := HA.out
                 clear HA
                 simp only [ephemerislaw1_RecurDiffs.l1] at H
                 by_cases c99 : x133_6 < (t319.length : Int)
                 ·rw [if_pos c99] at H
                  have c99b0 : decide (x133_6 < (t319.length : Int)) = true := decide_eq_true c99
                  clear c99
                  by_cases c100 : 0 ≤ x133_6
                  ·rw [if_pos c100] at H
                   have c100b0 : decide (0 ≤ x133_6) = true := decide_eq_true c100
                   clear c100
                   by_cases c101 : x133_6 < (t319.length : Int)
                   ·rw [if_pos c101] at H
                    have c101b0 : decide (x133_6 < (t319.length : Int)) = true := decide_eq_true c101
                    clear c101
                    replace H := Option.bind_eq_some_iff.mp H
                    obtain ⟨t329, A1020, H⟩ := H
                    replace H : (if t329 = true then (ephemerislaw1_RecurDiffs.l1 k6 t304 t307 t315 x22_5 x23_6 t319 (t319.length : Int) (wrap64 (x133_6 + 1))) else (if x23_6.length < 17592186044416 then (ephemerislaw1_RecurDiffs.l1 k6 t304 t307 t315 x22_5 (x23_6 ++ [rd t319 x133_6]) t319 (t319.length : Int) (wrap64 (x133_6 + 1))) else (none))) = some r := H
                    have A102 := Aside0.mk A1020
                    clear A1020
                    by_cases c103 : t329 = true
                    ·subst c103
                     have H1 : (ephemerislaw1_RecurDiffs.l1 k6 t304 t307 t315 x22_5 x23_6 t319 (t319.length : Int) (wrap64 (x133_6 + 1))) = some r := by rw [if_pos rfl] at H; exact H
                     clear H
                     have H := H1
                     clear H1
                     have H' := Aside0.mk H
                     clear H
                     have p328 : 0 ≤ (x133_6 : Int) := of_decide_eq_true ka
                     have q328 : x133_6 < (t319.length : Int) := of_decide_eq_true ka
                     obtain ⟨ad328, e328, hx328_0⟩ := Kd.at_int (Kd.R_reads' HO_131.out).2.2 x133_6 p328 q328
                     cases e328
                     replace p328 := eq_true p328
                     replace q328 := eq_true q328
                     go_wp2_with (first | ((with_reducible refine gate_callee (f := 33) rfl ?_); refine goesL_ (some 139) rfl rfl Try.func33 kx rfl #[.slice Ao88 t315.length co88, .int .i64 (rd t319 x133_6)] rfl aa ?_; (with_reducible refine (slices_Contains_int_int.calls k6 _ _ t315 (rd t319 x133_6) true _ ?side1 ?side2 A102.out).mono ?_); (case side1 => repeat (first | exact (Kd.R_reads' HO_18.out).2.2 | (with_reducible refine Kd.C_alloc ?_ _) | (with_reducible refine Kd.C_drewN ?_ _) | (with_reducible refine Kd.C_drew ?_))); (case side2 => exact (Kd.R_reads' HO_18.out).2.1); rintro e w' ⟨rfl, ⟨nd, rfl⟩⟩; refine ⟨_, rfl, ?_⟩))
                     go_roundg k6
                     case measure => have := HJ5.out; have := HJ38.out; have := HJ58.out; have := HJ66.out; have := HK5.out; have := HK6.out; omega
                     case rel => exact ⟨(x23_6), (wrap64 (x133_6 + 1)), rs, H', ⟨by have := HJ5.out; have := HJ38.out; have := HJ58.out; have := HJ66.out; have := HK5.out; have := HK6.out; omega⟩, ⟨by (with_reducible repeat (first | apply Kd.R_alloc | apply Kd.R_drewN | apply Kd.R_drew)); exact HO_14.out⟩, ⟨by (with_reducible repeat (first | apply Kd.R_alloc | apply Kd.R_drewN | apply Kd.R_drew)); exact HO_15.out⟩, ⟨by (with_reducible repeat (first | apply Kd.R_alloc | apply Kd.R_drewN | apply Kd.R_drew)); exact HO_18.out⟩, ⟨by (with_reducible repeat (first | apply Kd.R_alloc | apply Kd.R_drewN | apply Kd.R_drew)); exact HO_22.out⟩, ⟨by (with_reducible repeat (first | apply Kd.R_alloc | apply Kd.R_drewN | apply Kd.R_drew)); exact HO_23.out⟩, ⟨by (with_reducible repeat (first | apply Kd.R_alloc | apply Kd.R_drewN | apply Kd.R_drew)); exact HO_131.out⟩, ⟨bk BK283⟩, ⟨bk BK284⟩, ⟨bk BK285⟩, ⟨bk BK286⟩, ⟨be⟩⟩
                    ·replace c103 := Bool.eq_false_iff.mpr c103
                     subst c103
                     have H1 : (if x23_6.length < 17592186044416 then (ephemerislaw1_RecurDiffs.l1 k6 t304 t307 t315 x22_5 (x23_6 ++ [rd t319 x133_6]) t319 (t319.length : Int) (wrap64 (x133_6 + 1))) else (none)) = some r := by rw [if_neg (show ¬ (false = true) by decide)] at H; exact H
                     clear H
                     have H := H1
                     clear H1
                     by_cases c104 : x23_6.length < 17592186044416
                     ·rw [if_pos c104] at H
                      have LMc104 := Aside0.mk c104
                      clear c104
                      obtain ⟨y330, hy330⟩ : ∃ y_ : List Int, y_ = (x23_6 ++ [rd t319 x133_6]) := ⟨_, rfl⟩
                      replace H : (ephemerislaw1_RecurDiffs.l1 k6 t304 t307 t315 x22_5 y330 t319 (t319.length : Int) (wrap64 (x133_6 + 1))) = some r := rp hy330 H
                      have Ny330 := Aside0.mk hy330
                      clear hy330
                      have H' := Aside0.mk H
                      clear H
                      have p328 : 0 ≤ (x133_6 : Int) := of_decide_eq_true ka
                      have q328 : x133_6 < (t319.length : Int) := of_decide_eq_true ka
                      obtain ⟨ad328, e328, hx328_0⟩ := Kd.at_int (Kd.R_reads' HO_131.out).2.2 x133_6 p328 q328
                      cases e328
                      replace p328 := eq_true p328
                      replace q328 := eq_true q328
                      go_wp2_with (first | ((with_reducible refine gate_callee (f := 33) rfl ?_); refine goesL_ (some 139) rfl rfl Try.func33 kx rfl #[.slice Ao88 t315.length co88, .int .i64 (rd t319 x133_6)] rfl aa ?_; (with_reducible refine (slices_Contains_int_int.calls k6 _ _ t315 (rd t319 x133_6) false _ ?side1 ?side2 A102.out).mono ?_); (case side1 => repeat (first | exact (Kd.R_reads' HO_18.out).2.2 | (with_reducible refine Kd.C_alloc ?_ _) | (with_reducible refine Kd.C_drewN ?_ _) | (with_reducible refine Kd.C_drew ?_))); (case side2 => exact (Kd.R_reads' HO_18.out).2.1); rintro e w' ⟨rfl, ⟨nd, rfl⟩⟩; refine ⟨_, rfl, ?_⟩) | ((with_reducible refine gate_builtin (b := .append) (xs := #[.tmp 141, .tmp 143]) rfl ?_); (try (refine gate_guard (by rfl) ?_; dsimp only)); at_builtin; refine Kd.R_append (Kd.int .i64) (w0 := w) w.heap.size rfl (.tmp 141) (.tmp 143) 22 3 (.int .i64 0) 8 rfl Try.underlying22 info3 rfl (by decide) (by omega) u23 x23_6 (rd t319 x133_6) [.int .i64 (rd t319 x133_6)] (fun k_ => some k_ ≠ (v305 : Value).ownBlock ∧ some k_ ≠ (v308 : Value).ownBlock ∧ some k_ ≠ (.slice Ao88 t315.length co88 : Value).ownBlock ∧ some k_ ≠ (u22 : Value).ownBlock ∧ some k_ ≠ (.slice (some ad328) t319.length co98 : Value).ownBlock) (fun _ => False) rfl rfl ?aP (fun _ hk => hk.elim) ?aF ?aO ?aB ?aS ?aL ?_; (case aP => exact rfl); (case aB => exact be); (case aF => exact (fun k_ hk => ⟨Kd.fresh' (Kd.R_lt (by (with_reducible repeat (first | apply Kd.R_alloc | apply Kd.R_drewN | apply Kd.R_drew)); exact HO_14.out)) k_ hk, Kd.fresh' (Kd.R_lt (by (with_reducible repeat (first | apply Kd.R_alloc | apply Kd.R_drewN | apply Kd.R_drew)); exact HO_15.out)) k_ hk, Kd.fresh' (Kd.R_lt (by (with_reducible repeat (first | apply Kd.R_alloc | apply Kd.R_drewN | apply Kd.R_drew)); exact HO_18.out)) k_ hk, Kd.fresh' (Kd.R_lt (by (with_reducible repeat (first | apply Kd.R_alloc | apply Kd.R_drewN | apply Kd.R_drew)); exact HO_22.out)) k_ hk, Kd.fresh' (Kd.R_lt (by (with_reducible repeat (first | apply Kd.R_alloc | apply Kd.R_drewN | apply Kd.R_drew)); exact HO_131.out)) k_ hk⟩)); (case aO => exact (by (with_reducible repeat (first | apply Kd.R_alloc | apply Kd.R_drewN | apply Kd.R_drew)); exact HO_23.out)); (case aS => exact (below_size be)); (case aL => have := LMc104.out; omega); intro v331 w105 ho hb hg hat; rw [← Ny330.out] at ho; have n0_ := Aside0.mk (Kd.R_after (ok := (fun k_ => some k_ ≠ (v308 : Value).ownBlock ∧ some k_ ≠ (.slice Ao88 t315.length co88 : Value).ownBlock ∧ some k_ ≠ (u22 : Value).ownBlock ∧ some k_ ≠ (.slice (some ad328) t319.length co98 : Value).ownBlock)) (by (with_reducible repeat (first | apply Kd.R_alloc | apply Kd.R_drewN | apply Kd.R_drew)); exact Kd.R_mono HO_14.out (fun _ hk => ⟨⟨hk.1, ⟨hk.2.1, ⟨hk.2.2.1, hk.2.2.2.2⟩⟩⟩, hk.2.2.2.1⟩)) hg hat); have n1_ := Aside0.mk (Kd.R_after (ok := (fun k_ => some k_ ≠ (v305 : Value).ownBlock ∧ some k_ ≠ (.slice Ao88 t315.length co88 : Value).ownBlock ∧ some k_ ≠ (u22 : Value).ownBlock ∧ some k_ ≠ (.slice (some ad328) t319.length co98 : Value).ownBlock)) (by (with_reducible repeat (first | apply Kd.R_alloc | apply Kd.R_drewN | apply Kd.R_drew)); exact Kd.R_mono HO_15.out (fun _ hk => ⟨⟨hk.1, ⟨hk.2.1, ⟨hk.2.2.1, hk.2.2.2.2⟩⟩⟩, hk.2.2.2.1⟩)) hg hat); have n2_ := Aside0.mk (Kd.R_after (ok := (fun k_ => some k_ ≠ (v305 : Value).ownBlock ∧ some k_ ≠ (v308 : Value).ownBlock ∧ some k_ ≠ (u22 : Value).ownBlock ∧ some k_ ≠ (.slice (some ad328) t319.length co98 : Value).ownBlock)) (by (with_reducible repeat (first | apply Kd.R_alloc | apply Kd.R_drewN | apply Kd.R_drew)); exact Kd.R_mono HO_18.out (fun _ hk => ⟨⟨hk.1, ⟨hk.2.1, ⟨hk.2.2.1, hk.2.2.2.2⟩⟩⟩, hk.2.2.2.1⟩)) hg hat); have n3_ := Aside0.mk (Kd.R_after (ok := (fun k_ => some k_ ≠ (v305 : Value).ownBlock ∧ some k_ ≠ (v308 : Value).ownBlock ∧ some k_ ≠ (.slice Ao88 t315.length co88 : Value).ownBlock ∧ some k_ ≠ (.slice (some ad328) t319.length co98 : Value).ownBlock)) (by (with_reducible repeat (first | apply Kd.R_alloc | apply Kd.R_drewN | apply Kd.R_drew)); exact Kd.R_mono HO_22.out (fun _ hk => ⟨⟨hk.1, ⟨hk.2.1, ⟨hk.2.2.1, hk.2.2.2.2⟩⟩⟩, hk.2.2.2.1⟩)) hg hat); have n4_ := Aside0.mk (Kd.R_after (ok := (fun k_ => some k_ ≠ (v305 : Value).ownBlock ∧ some k_ ≠ (v308 : Value).ownBlock ∧ some k_ ≠ (.slice Ao88 t315.length co88 : Value).ownBlock ∧ some k_ ≠ (u22 : Value).ownBlock)) (by (with_reducible repeat (first | apply Kd.R_alloc | apply Kd.R_drewN | apply Kd.R_drew)); exact Kd.R_mono HO_131.out (fun _ hk => ⟨⟨hk.1, ⟨hk.2.1, ⟨hk.2.2.1, hk.2.2.2.1⟩⟩⟩, hk.2.2.2.2⟩)) hg hat); have n5_ := Aside0.mk (blk_grown (g := gb283) (o := .cells #[.int .i64 a0_0, .int .i64 a0_1, .int .i64 a0_2, .int .i64 a0_3, .int .i64 a0_4, .slice A0_5 l0_5.length c0_5, .slice A0_6 l0_6.length c0_6, .slice A0_7 l0_7.length c0_7] 33 (0, 0)) (bk BK283) hg (Kd.R_ne HO_23.out BK283.out (by decide))); have n6_ := Aside0.mk (blk_grown (g := gb284) (o := .cells #[.int .i64 a1_0, .int .i64 a1_1, .int .i64 a1_2, .int .i64 a1_3, .int .i64 a1_4, .slice A1_5 l1_5.length c1_5, .slice A1_6 l1_6.length c1_6, .slice A1_7 l1_7.length c1_7] 33 (0, 0)) (bk BK284) hg (Kd.R_ne HO_23.out BK284.out (by decide))); have n7_ := Aside0.mk (blk_grown (g := gb285) (o := .cells #[.int .i64 1, .int .i64 2, .int .i64 1, .int .i64 0, .int .i64 100, .slice none 0 0, .slice none 0 0, .slice none 0 0] 33 (0, 0)) (bk BK285) hg (Kd.R_ne HO_23.out BK285.out (by decide))); have n8_ := Aside0.mk (blk_grown (g := gb286) (o := .cells #[.int .i64 1, .int .i64 3, .int .i64 1, .int .i64 0, .int .i64 100, .slice none 0 0, .slice none 0 0, .slice none 0 0] 33 (0, 0)) (bk BK286) hg (Kd.R_ne HO_23.out BK286.out (by decide))); have n9_ := Aside0.mk (hb); have n10_ := Aside0.mk (ho); clear HO_14; clear HO_15; clear HO_18; clear HO_22; clear HO_131; clear BK283; clear BK284; clear BK285; clear BK286; clear HB; clear HO_23; have HO_14 := n0_; have HO_15 := n1_; have HO_18 := n2_; have HO_22 := n3_; have HO_131 := n4_; have BK283 := n5_; have BK284 := n6_; have BK285 := n7_; have BK286 := n8_; have HB := n9_; have HO332 := n10_; clear n0_ n1_ n2_ n3_ n4_ n5_ n6_ n7_ n8_ n9_ n10_; clear ho hb hg hat))
                      go_roundg k6
                      case measure => have := HJ5.out; have := HJ38.out; have := HJ58.out; have := HJ66.out; have := HK5.out; have := HK6.out; omega
                      case rel => exact ⟨(y330), (wrap64 (x133_6 + 1)), rs, H', ⟨by have := HJ5.out; have := HJ38.out; have := HJ58.out; have := HJ66.out; have := HK5.out; have := HK6.out; omega⟩, ⟨by (with_reducible repeat (first | apply Kd.R_alloc | apply Kd.R_drewN | apply Kd.R_drew)); exact Kd.R_mono HO_14.out (fun _ hk => ⟨hk.1.1, ⟨hk.1.2.1, ⟨hk.1.2.2.1, ⟨hk.2, hk.1.2.2.2⟩⟩⟩⟩)⟩, ⟨by (with_reducible repeat (first | apply Kd.R_alloc | apply Kd.R_drewN | apply Kd.R_drew)); exact Kd.R_mono HO_15.out (fun _ hk => ⟨hk.1.1, ⟨hk.1.2.1, ⟨hk.1.2.2.1, ⟨hk.2, hk.1.2.2.2⟩⟩⟩⟩)⟩, ⟨by (with_reducible repeat (first | apply Kd.R_alloc | apply Kd.R_drewN | apply Kd.R_drew)); exact Kd.R_mono HO_18.out (fun _ hk => ⟨hk.1.1, ⟨hk.1.2.1, ⟨hk.1.2.2.1, ⟨hk.2, hk.1.2.2.2⟩⟩⟩⟩)⟩, ⟨by (with_reducible repeat (first | apply Kd.R_alloc | apply Kd.R_drewN | apply Kd.R_drew)); exact Kd.R_mono HO_22.out (fun _ hk => ⟨hk.1.1, ⟨hk.1.2.1, ⟨hk.1.2.2.1, ⟨hk.2, hk.1.2.2.2⟩⟩⟩⟩)⟩, ⟨by (with_reducible repeat (first | apply Kd.R_alloc | apply Kd.R_drewN | apply Kd.R_drew)); exact HO332.out⟩, ⟨by (with_reducible repeat (first | apply Kd.R_alloc | apply Kd.R_drewN | apply Kd.R_drew)); exact Kd.R_mono HO_131.out (fun _ hk => ⟨hk.1.1, ⟨hk.1.2.1, ⟨hk.1.2.2.1, ⟨hk.1.2.2.2, hk.2⟩⟩⟩⟩)⟩, ⟨bk BK283⟩, ⟨bk BK284⟩, ⟨bk BK285⟩, ⟨bk BK286⟩, ⟨be⟩⟩
                     ·rw [if_neg c104] at H
                      exact absurd H (by simp)
                   ·rw [if_neg c101] at H
                    exact absurd H (by simp)
                  ·rw [if_neg c100] at H
                   exact absurd H (by simp)
                 ·rw [if_neg c99] at H
                  have c99b0 : decide (x133_6 < (t319.length : Int)) = false := decide_eq_false c99
                  clear c99
                  replace H := Option.bind_eq_some_iff.mp H
                  obtain ⟨t333, A1060, H⟩ := H
                  replace H : (if t333 = true then ((ephemerisref1_SameInts.f k6 t307 x23_6).bind fun t334 => (some t334)) else (some false)) = some r := H
                  have A106 := Aside0.mk A1060
                  clear A1060
                  by_cases c107 : t333 = true
                  ·subst c107
                   have H1 : ((ephemerisref1_SameInts.f k6 t307 x23_6).bind fun t334 => (some t334)) = some r := by rw [if_pos rfl] at H; exact H
                   clear H
                   have H := H1
                   clear H1
                   replace H := Option.bind_eq_some_iff.mp H
                   obtain ⟨t334, A1080, H⟩ := H
                   replace H : (some t334) = some r := H
                   have A108 := Aside0.mk A1080
                   clear A1080
                   obtain rfl := Option.some.inj H
                   obtain ⟨Ao109, co109, eo109⟩ := Kd.R_slice HO_14.out
                   subst eo109
                   obtain ⟨Ao110, co110, eo110⟩ := Kd.R_slice HO_22.out
                   subst eo110
                   go_wp2_with (first | ((with_reducible refine gate_callee (f := 15) rfl ?_); refine goesL_ (some 148) rfl rfl Try.func15 kx rfl #[.slice Ao109 t304.length co109, .slice Ao110 x22_5.length co110] rfl aa ?_; (with_reducible refine (ephemerisref1_SameInts.calls k6 _ _ t304 _ _ x22_5 true _ ?side1 ?side2 ?side3 ?side4 A106.out).mono ?_); (case side1 => repeat (first | exact (Kd.R_reads' HO_14.out).2.2 | (with_reducible refine Kd.C_alloc ?_ _) | (with_reducible refine Kd.C_drewN ?_ _) | (with_reducible refine Kd.C_drew ?_))); (case side2 => exact (Kd.R_reads' HO_14.out).2.1); (case side3 => repeat (first | exact (Kd.R_reads' HO_22.out).2.2 | (with_reducible refine Kd.C_alloc ?_ _) | (with_reducible refine Kd.C_drewN ?_ _) | (with_reducible refine Kd.C_drew ?_))); (case side4 => exact (Kd.R_reads' HO_22.out).2.1); rintro e w' ⟨rfl, ⟨nd, rfl⟩⟩; refine ⟨_, rfl, ?_⟩; obtain ⟨Ao111, co111, eo111⟩ := Kd.R_slice HO_15.out; subst eo111; obtain ⟨Ao112, co112, eo112⟩ := Kd.R_slice HO_23.out; subst eo112) | (go_at_call 15; (with_reducible refine (ephemerisref1_SameInts.calls k6 _ _ t307 _ _ x23_6 t334 _ ?side1 ?side2 ?side3 ?side4 A108.out).mono ?_); (case side1 => repeat (first | exact (Kd.R_reads' HO_15.out).2.2 | (with_reducible refine Kd.C_alloc ?_ _) | (with_reducible refine Kd.C_drewN ?_ _) | (with_reducible refine Kd.C_drew ?_))); (case side2 => exact (Kd.R_reads' HO_15.out).2.1); (case side3 => repeat (first | exact (Kd.R_reads' HO_23.out).2.2 | (with_reducible refine Kd.C_alloc ?_ _) | (with_reducible refine Kd.C_drewN ?_ _) | (with_reducible refine Kd.C_drew ?_))); (case side4 => exact (Kd.R_reads' HO_23.out).2.1); rintro e w' ⟨rfl, ⟨nd, rfl⟩⟩))
                   go_ret
                   exact ⟨by first | rfl | (simp [errW_none, errW_some] <;> rfl) | (simp [*, errW_none, errW_some] <;> rfl), be⟩
                  ·replace c107 := Bool.eq_false_iff.mpr c107
                   subst c107
                   have H1 : (some false) = some r := by rw [if_neg (show ¬ (false = true) by decide)] at H; exact H
                   clear H
                   have H := H1
                   clear H1
                   obtain rfl := Option.some.inj H
                   obtain ⟨Ao113, co113, eo113⟩ := Kd.R_slice HO_14.out
                   subst eo113
                   obtain ⟨Ao114, co114, eo114⟩ := Kd.R_slice HO_22.out
                   subst eo114
                   go_wp2_with (first | ((with_reducible refine gate_callee (f := 15) rfl ?_); refine goesL_ (some 148) rfl rfl Try.func15 kx rfl #[.slice Ao113 t304.length co113, .slice Ao114 x22_5.length co114] rfl aa ?_; (with_reducible refine (ephemerisref1_SameInts.calls k6 _ _ t304 _ _ x22_5 false _ ?side1 ?side2 ?side3 ?side4 A106.out).mono ?_); (case side1 => repeat (first | exact (Kd.R_reads' HO_14.out).2.2 | (with_reducible refine Kd.C_alloc ?_ _) | (with_reducible refine Kd.C_drewN ?_ _) | (with_reducible refine Kd.C_drew ?_))); (case side2 => exact (Kd.R_reads' HO_14.out).2.1); (case side3 => repeat (first | exact (Kd.R_reads' HO_22.out).2.2 | (with_reducible refine Kd.C_alloc ?_ _) | (with_reducible refine Kd.C_drewN ?_ _) | (with_reducible refine Kd.C_drew ?_))); (case side4 => exact (Kd.R_reads' HO_22.out).2.1); rintro e w' ⟨rfl, ⟨nd, rfl⟩⟩; refine ⟨_, rfl, ?_⟩))
                   go_ret
                   exact ⟨by first | rfl | (simp [errW_none, errW_some] <;> rfl) | (simp [*, errW_none, errW_some] <;> rfl), be⟩
           ·rw [if_neg c76] at H
            have c76b0 : (t310 == 0) = false := beq_eq_false_iff_ne.mpr c76
            have c76b1 : (t310 != 0) = true := bne_iff_ne.mpr c76
            obtain rfl := Option.some.inj H
            go_wp2
            go_ret
            exact ⟨by first | rfl | (simp [errW_none, errW_some] <;> rfl) | (simp [*, errW_none, errW_some] <;> rfl), be⟩
          ·rw [if_neg c75] at H
           have c75b0 : (x17_66 == 0) = false := beq_eq_false_iff_ne.mpr c75
           have c75b1 : (x17_66 != 0) = true := bne_iff_ne.mpr c75
           by_cases c115 : (t304.length : Int) = 0
           ·rw [if_pos c115] at H
            have c115b0 : ((t304.length : Int) == 0) = true := beq_iff_eq.mpr c115
            have c115b1 : ((t304.length : Int) != 0) = false := bne_eq_false_iff_eq.mpr c115
            clear c115
            by_cases c116 : (t307.length : Int) = 0
            ·rw [if_pos c116] at H
             have c116b0 : ((t307.length : Int) == 0) = true := beq_iff_eq.mpr c116
             have c116b1 : ((t307.length : Int) != 0) = false := bne_eq_false_iff_eq.mpr c116
             clear c116
             obtain rfl := Option.some.inj H
             obtain ⟨Ao117, co117, eo117⟩ := Kd.R_slice HO_14.out
             subst eo117
             obtain ⟨Ao118, co118, eo118⟩ := Kd.R_slice HO_15.out
             subst eo118
             go_wp2
             go_ret
             exact ⟨by first | rfl | (simp [errW_none, errW_some] <;> rfl) | (simp [*, errW_none, errW_some] <;> rfl), be⟩
            ·rw [if_neg c116] at H
             have c116b0 : ((t307.length : Int) == 0) = false := beq_eq_false_iff_ne.mpr c116
             have c116b1 : ((t307.length : Int) != 0) = true := bne_iff_ne.mpr c116
             have c116b2 : ¬ (t307 = []) := fun h_ => c116 (by rw [h_]; rfl)
             obtain rfl := Option.some.inj H
             obtain ⟨Ao119, co119, eo119⟩ := Kd.R_slice HO_14.out
             subst eo119
             obtain ⟨Ao120, co120, eo120⟩ := Kd.R_slice HO_15.out
             subst eo120
             go_wp2
             go_ret
             exact ⟨by first | rfl | (simp [errW_none, errW_some] <;> rfl) | (simp [*, errW_none, errW_some] <;> rfl), be⟩
           ·rw [if_neg c115] at H
            have c115b0 : ((t304.length : Int) == 0) = false := beq_eq_false_iff_ne.mpr c115
            have c115b1 : ((t304.length : Int) != 0) = true := bne_iff_ne.mpr c115
            have c115b2 : ¬ (t304 = []) := fun h_ => c115 (by rw [h_]; rfl)
            obtain rfl := Option.some.inj H
            obtain ⟨Ao121, co121, eo121⟩ := Kd.R_slice HO_14.out
            subst eo121
            go_wp2
            go_ret
            exact ⟨by first | rfl | (simp [errW_none, errW_some] <;> rfl) | (simp [*, errW_none, errW_some] <;> rfl), be⟩

end Go.Proofs.Ytlfammlboncmeaa.PRecurDiffs
