/- The walks of the functions of this part, laid closer by a program of mine. -/
-- The walks of the law's functions, told by a program.
import Derived.Test.YtlfammlboncmeaaY
import Derived.Test.YtlfammlboncmeaaPObservedOfsx0
import Derived.Test.YtlfammlboncmeaaPObservedOfsx1
import Derived.Test.YtlfammlboncmeaaPObservedOfsx7
import Derived.Test.YtlfammlboncmeaaPObservedOfsx8
import Derived.Test.YtlfammlboncmeaaPObservedOfsx10
import Derived.Test.YtlfammlboncmeaaPObservedOfsx11
import Derived.Test.YtlfammlboncmeaaPObservedOfsx12
namespace Go.Proofs.Ytlfammlboncmeaa.PObservedOfs
open Go.RowKit Go.Proofs.YtlfammlboncmeaaW.PrintWords Go.Proofs.YtlfammlboncmeaaW.PrintLast Go.Proofs.YtlfammlboncmeaaW.PrintMore Go.Proofs.Ytlfammlboncmeaa.Y
attribute [local go_sem] max2_int min2_int max_two min_two max_three min_three max_four min_four   -- for this text's walks alone
set_option linter.unusedVariables false
set_option linter.unusedSimpArgs false

/-! ### ephemerislaw1_ObservedOfs: function 6 -/
mutual
def ephemerislaw1_ObservedOfs.j0 : Nat → Int → Int → Bool → ByteArray → Int → Int → Int → Int → Int → Int → Int → Int → List Int → List Int → Option (Bool)
 | 0, _, _, _, _, _, _, _, _, _, _, _, _, _, _ => none
 | k + 1, x1, x2, x44, x239000, x239001, x239002, x239003, x239004, x239005, x239006, x239007, x239008, x239009, x239010 => if x44 = true then (some false) else (if x2 > 4 then (ephemerislaw1_ObservedOfs.j1 k x1 x2 (decide (x2 ≤ 40)) x239000 x239001 x239002 x239003 x239004 x239005 x239006 x239007 x239008 x239009 x239010) else (ephemerislaw1_ObservedOfs.j1 k x1 x2 false x239000 x239001 x239002 x239003 x239004 x239005 x239006 x239007 x239008 x239009 x239010))
def ephemerislaw1_ObservedOfs.j1 : Nat → Int → Int → Bool → ByteArray → Int → Int → Int → Int → Int → Int → Int → Int → List Int → List Int → Option (Bool)
 | 0, _, _, _, _, _, _, _, _, _, _, _, _, _, _ => none
 | k + 1, x1, x2, x50, x239000, x239001, x239002, x239003, x239004, x239005, x239006, x239007, x239008, x239009, x239010 => if x50 = true then (ephemerislaw1_ObservedOfs.j2 k x1 (wrap64 ((Int.tmod x2 4) + 1)) x239000 x239001 x239002 x239003 x239004 x239005 x239006 x239007 x239008 x239009 x239010) else (ephemerislaw1_ObservedOfs.j2 k x1 x2 x239000 x239001 x239002 x239003 x239004 x239005 x239006 x239007 x239008 x239009 x239010)
def ephemerislaw1_ObservedOfs.j2 : Nat → Int → Int → ByteArray → Int → Int → Int → Int → Int → Int → Int → Int → List Int → List Int → Option (Bool)
 | 0, _, _, _, _, _, _, _, _, _, _, _, _, _ => none
 | k + 1, x1, x2, x239000, x239001, x239002, x239003, x239004, x239005, x239006, x239007, x239008, x239009, x239010 => (observed_Of.f k x239000 x239001 x239002 x239003 x239004 x239005 x239006 x239007 x239008 x239009 x239010 x1 x2).bind fun bt266 => ((ephemerisref1_MoonError.f k x239000 x239001 x239002 x239003 x239004 x239005 x239006 x239007 x239008 x239009 x239010).bind fun t276 => (if t276 = 0 then ((ephemerisref1_In.f x2 1 40).bind fun t277 => (if t277 = true then ((ephemerisref1_In.f x1 (-10000) 9960).bind fun t278 => (if t278 = true then (ephemerislaw1_ObservedOfs.j3 k x1 x2 bt266.2.2.2.2 t276 x239000 x239001 x239002 x239003 x239004 x239005 x239006 x239007 x239008 x239009 x239010 bt266.1 bt266.2.1 bt266.2.2.1 bt266.2.2.2.1) else (ephemerislaw1_ObservedOfs.j3 k x1 x2 bt266.2.2.2.2 3 x239000 x239001 x239002 x239003 x239004 x239005 x239006 x239007 x239008 x239009 x239010 bt266.1 bt266.2.1 bt266.2.2.1 bt266.2.2.2.1))) else (ephemerislaw1_ObservedOfs.j3 k x1 x2 bt266.2.2.2.2 1 x239000 x239001 x239002 x239003 x239004 x239005 x239006 x239007 x239008 x239009 x239010 bt266.1 bt266.2.1 bt266.2.2.1 bt266.2.2.2.1))) else (ephemerislaw1_ObservedOfs.j3 k x1 x2 bt266.2.2.2.2 t276 x239000 x239001 x239002 x239003 x239004 x239005 x239006 x239007 x239008 x239009 x239010 bt266.1 bt266.2.1 bt266.2.2.1 bt266.2.2.2.1)))
def ephemerislaw1_ObservedOfs.j3 : Nat → Int → Int → Int → Int → ByteArray → Int → Int → Int → Int → Int → Int → Int → Int → List Int → List Int → ByteArray → Int → List Int → List Int → Option (Bool)
 | 0, _, _, _, _, _, _, _, _, _, _, _, _, _, _, _, _, _, _, _ => none
 | k + 1, x1, x2, x10, x11, x239000, x239001, x239002, x239003, x239004, x239005, x239006, x239007, x239008, x239009, x239010, x276000, x276001, x276002, x276003 => ephemerislaw1_ObservedOfs.l0 k x1 x2 x10 x11 x1 x239000 x239001 x239002 x239003 x239004 x239005 x239006 x239007 x239008 x239009 x239010 x276000 x276001 x276002 x276003 x239000 x1 ([] : List Int) ([] : List Int)
def ephemerislaw1_ObservedOfs.l0 : Nat → Int → Int → Int → Int → Int → ByteArray → Int → Int → Int → Int → Int → Int → Int → Int → List Int → List Int → ByteArray → Int → List Int → List Int → ByteArray → Int → List Int → List Int → Option (Bool)
 | 0, _, _, _, _, _, _, _, _, _, _, _, _, _, _, _, _, _, _, _, _, _, _, _, _ => none
 | k + 1, x1, x2, x10, x11, x13, x239000, x239001, x239002, x239003, x239004, x239005, x239006, x239007, x239008, x239009, x239010, x276000, x276001, x276002, x276003, x280000, x280001, x280002, x280003 => if x11 = 0 then (ephemerislaw1_ObservedOfs.j5 k x1 x2 x10 x11 x13 (decide (x13 < (wrap64 (x1 + x2)))) x239000 x239001 x239002 x239003 x239004 x239005 x239006 x239007 x239008 x239009 x239010 x276000 x276001 x276002 x276003 x280000 x280001 x280002 x280003) else (ephemerislaw1_ObservedOfs.j5 k x1 x2 x10 x11 x13 false x239000 x239001 x239002 x239003 x239004 x239005 x239006 x239007 x239008 x239009 x239010 x276000 x276001 x276002 x276003 x280000 x280001 x280002 x280003)
def ephemerislaw1_ObservedOfs.j5 : Nat → Int → Int → Int → Int → Int → Bool → ByteArray → Int → Int → Int → Int → Int → Int → Int → Int → List Int → List Int → ByteArray → Int → List Int → List Int → ByteArray → Int → List Int → List Int → Option (Bool)
 | 0, _, _, _, _, _, _, _, _, _, _, _, _, _, _, _, _, _, _, _, _, _, _, _, _, _ => none
 | k + 1, x1, x2, x10, x11, x13, x87, x239000, x239001, x239002, x239003, x239004, x239005, x239006, x239007, x239008, x239009, x239010, x276000, x276001, x276002, x276003, x280000, x280001, x280002, x280003 => if x87 = true then ((ephemerisref1_MoonMonths.f k x239000 x239001 x239002 x239003 x239004 x239005 x239006 x239007 x239008 x239009 x239010 x13).bind fun t280 => (if x280002.length < 17592186044416 then (ephemerislaw1_ObservedOfs.l1 k x1 x2 x10 x11 x13 t280 1 x239000 x239001 x239002 x239003 x239004 x239005 x239006 x239007 x239008 x239009 x239010 x276000 x276001 x276002 x276003 x280000 x280001 (x280002 ++ [t280]) x280003) else (none))) else (if x11 = 0 then ((ephemerisref1_MoonBegin.f k x239000 x239001 x239002 x239003 x239004 x239005 x239006 x239007 x239008 x239009 x239010 (wrap64 (x1 + x2)) 1).bind fun t288 => (if x280003.length < 17592186044416 then ((some (x280003 ++ [t288] : List Int)).bind fun y289 => (ephemerislaw1_ObservedOfs.l2 k x10 x11 y289 (y289.length : Int) 0 x276000 x276001 x276002 x276003 x280000 x280001 x280002 y289)) else (none))) else (ephemerislaw1_ObservedOfs.j8 k x10 x11 x276000 x276001 x276002 x276003 x280000 x280001 x280002 x280003))
def ephemerislaw1_ObservedOfs.l1 : Nat → Int → Int → Int → Int → Int → Int → Int → ByteArray → Int → Int → Int → Int → Int → Int → Int → Int → List Int → List Int → ByteArray → Int → List Int → List Int → ByteArray → Int → List Int → List Int → Option (Bool)
 | 0, _, _, _, _, _, _, _, _, _, _, _, _, _, _, _, _, _, _, _, _, _, _, _, _, _, _ => none
 | k + 1, x1, x2, x10, x11, x13, x14, x15, x239000, x239001, x239002, x239003, x239004, x239005, x239006, x239007, x239008, x239009, x239010, x276000, x276001, x276002, x276003, x280000, x280001, x280002, x280003 => if x15 ≤ x14 then ((ephemerisref1_MoonBegin.f k x239000 x239001 x239002 x239003 x239004 x239005 x239006 x239007 x239008 x239009 x239010 x13 x15).bind fun t284 => (if x280003.length < 17592186044416 then (ephemerislaw1_ObservedOfs.l1 k x1 x2 x10 x11 x13 x14 (wrap64 (x15 + 1)) x239000 x239001 x239002 x239003 x239004 x239005 x239006 x239007 x239008 x239009 x239010 x276000 x276001 x276002 x276003 x280000 x280001 x280002 (x280003 ++ [t284])) else (none))) else (ephemerislaw1_ObservedOfs.l0 k x1 x2 x10 x11 (wrap64 (x13 + 1)) x239000 x239001 x239002 x239003 x239004 x239005 x239006 x239007 x239008 x239009 x239010 x276000 x276001 x276002 x276003 x280000 x280001 x280002 x280003)
def ephemerislaw1_ObservedOfs.j8 : Nat → Int → Int → ByteArray → Int → List Int → List Int → ByteArray → Int → List Int → List Int → Option (Bool)
 | 0, _, _, _, _, _, _, _, _, _, _ => none
 | k + 1, x10, x11, x276000, x276001, x276002, x276003, x280000, x280001, x280002, x280003 => if x11 = 0 then (if x10 = 0 then ((ephemerisref1_SameTable.f k x276000 x276001 x276002 x276003 x280000 x280001 x280002 x280003).bind fun t294 => (some t294)) else (some false)) else ((ephemerisref1_SameTable.f k x276000 x276001 x276002 x276003 (⟨#[]⟩ : ByteArray) 0 ([] : List Int) ([] : List Int)).bind fun t295 => (if t295 = true then (some (x10 == x11)) else (some false)))
def ephemerislaw1_ObservedOfs.l2 : Nat → Int → Int → List Int → Int → Int → ByteArray → Int → List Int → List Int → ByteArray → Int → List Int → List Int → Option (Bool)
 | 0, _, _, _, _, _, _, _, _, _, _, _, _, _ => none
 | k + 1, x10, x11, x126, x127, x128, x276000, x276001, x276002, x276003, x280000, x280001, x280002, x280003 => if x128 < x127 then (if 0 ≤ x128 then (if x128 < (x126.length : Int) then ((ephemerisref1_Day.f (rd x126 x128)).bind fun t293 => (if t293 = true then (ephemerislaw1_ObservedOfs.l2 k x10 x11 x126 x127 (wrap64 (x128 + 1)) x276000 x276001 x276002 x276003 x280000 x280001 x280002 x280003) else (ephemerislaw1_ObservedOfs.l2 k x10 3 x126 x127 (wrap64 (x128 + 1)) x276000 x276001 x276002 x276003 x280000 x280001 x280002 x280003))) else (none)) else (none)) else (ephemerislaw1_ObservedOfs.j8 k x10 x11 x276000 x276001 x276002 x276003 x280000 x280001 x280002 x280003)
end
def ephemerislaw1_ObservedOfs.f (k : Nat) (a0_0 : ByteArray) (a0_1 : Int) (a0_2 : Int) (a0_3 : Int) (a0_4 : Int) (a0_5 : Int) (a0_6 : Int) (a0_7 : Int) (a0_8 : Int) (l0_9 : List Int) (l0_10 : List Int) (a1 : Int) (a2 : Int) : Option (Bool) := (ephemerislaw1_plainMoon.f).bind fun bt239 => ((observed_Of.f k bt239.1 bt239.2.1 bt239.2.2.1 bt239.2.2.2.1 bt239.2.2.2.2.1 bt239.2.2.2.2.2.1 bt239.2.2.2.2.2.2.1 bt239.2.2.2.2.2.2.2.1 bt239.2.2.2.2.2.2.2.2.1 bt239.2.2.2.2.2.2.2.2.2.1 bt239.2.2.2.2.2.2.2.2.2.2 1 1).bind fun bt254 => (if bt254.2.2.2.2 = 0 then (if (bt254.2.2.2.1.length : Int) = 13 then (if 1 < (bt254.2.2.2.1.length : Int) then (if (rd bt254.2.2.2.1 1) = 30 then (if 12 < (bt254.2.2.2.1.length : Int) then (ephemerislaw1_ObservedOfs.j0 k a1 a2 ((rd bt254.2.2.2.1 12) != 355) a0_0 a0_1 a0_2 a0_3 a0_4 a0_5 a0_6 a0_7 a0_8 l0_9 l0_10) else (none)) else (ephemerislaw1_ObservedOfs.j0 k a1 a2 true a0_0 a0_1 a0_2 a0_3 a0_4 a0_5 a0_6 a0_7 a0_8 l0_9 l0_10)) else (none)) else (ephemerislaw1_ObservedOfs.j0 k a1 a2 true a0_0 a0_1 a0_2 a0_3 a0_4 a0_5 a0_6 a0_7 a0_8 l0_9 l0_10)) else (ephemerislaw1_ObservedOfs.j0 k a1 a2 true a0_0 a0_1 a0_2 a0_3 a0_4 a0_5 a0_6 a0_7 a0_8 l0_9 l0_10)))
theorem ephemerislaw1_ObservedOfs.mono_l : ∀ k, (∀ y0 y1 y2 y3 y4 y5 y6 y7 y8 y9 y10 y11 y12 y13, LeO (ephemerislaw1_ObservedOfs.j0 k y0 y1 y2 y3 y4 y5 y6 y7 y8 y9 y10 y11 y12 y13) (ephemerislaw1_ObservedOfs.j0 (k + 1) y0 y1 y2 y3 y4 y5 y6 y7 y8 y9 y10 y11 y12 y13)) ∧ (∀ y0 y1 y2 y3 y4 y5 y6 y7 y8 y9 y10 y11 y12 y13, LeO (ephemerislaw1_ObservedOfs.j1 k y0 y1 y2 y3 y4 y5 y6 y7 y8 y9 y10 y11 y12 y13) (ephemerislaw1_ObservedOfs.j1 (k + 1) y0 y1 y2 y3 y4 y5 y6 y7 y8 y9 y10 y11 y12 y13)) ∧ (∀ y0 y1 y2 y3 y4 y5 y6 y7 y8 y9 y10 y11 y12, LeO (ephemerislaw1_ObservedOfs.j2 k y0 y1 y2 y3 y4 y5 y6 y7 y8 y9 y10 y11 y12) (ephemerislaw1_ObservedOfs.j2 (k + 1) y0 y1 y2 y3 y4 y5 y6 y7 y8 y9 y10 y11 y12)) ∧ (∀ y0 y1 y2 y3 y4 y5 y6 y7 y8 y9 y10 y11 y12 y13 y14 y15 y16 y17 y18, LeO (ephemerislaw1_ObservedOfs.j3 k y0 y1 y2 y3 y4 y5 y6 y7 y8 y9 y10 y11 y12 y13 y14 y15 y16 y17 y18) (ephemerislaw1_ObservedOfs.j3 (k + 1) y0 y1 y2 y3 y4 y5 y6 y7 y8 y9 y10 y11 y12 y13 y14 y15 y16 y17 y18)) ∧ (∀ y0 y1 y2 y3 y4 y5 y6 y7 y8 y9 y10 y11 y12 y13 y14 y15 y16 y17 y18 y19 y20 y21 y22 y23, LeO (ephemerislaw1_ObservedOfs.l0 k y0 y1 y2 y3 y4 y5 y6 y7 y8 y9 y10 y11 y12 y13 y14 y15 y16 y17 y18 y19 y20 y21 y22 y23) (ephemerislaw1_ObservedOfs.l0 (k + 1) y0 y1 y2 y3 y4 y5 y6 y7 y8 y9 y10 y11 y12 y13 y14 y15 y16 y17 y18 y19 y20 y21 y22 y23)) ∧ (∀ y0 y1 y2 y3 y4 y5 y6 y7 y8 y9 y10 y11 y12 y13 y14 y15 y16 y17 y18 y19 y20 y21 y22 y23 y24, LeO (ephemerislaw1_ObservedOfs.j5 k y0 y1 y2 y3 y4 y5 y6 y7 y8 y9 y10 y11 y12 y13 y14 y15 y16 y17 y18 y19 y20 y21 y22 y23 y24) (ephemerislaw1_ObservedOfs.j5 (k + 1) y0 y1 y2 y3 y4 y5 y6 y7 y8 y9 y10 y11 y12 y13 y14 y15 y16 y17 y18 y19 y20 y21 y22 y23 y24)) ∧ (∀ y0 y1 y2 y3 y4 y5 y6 y7 y8 y9 y10 y11 y12 y13 y14 y15 y16 y17 y18 y19 y20 y21 y22 y23 y24 y25, LeO (ephemerislaw1_ObservedOfs.l1 k y0 y1 y2 y3 y4 y5 y6 y7 y8 y9 y10 y11 y12 y13 y14 y15 y16 y17 y18 y19 y20 y21 y22 y23 y24 y25) (ephemerislaw1_ObservedOfs.l1 (k + 1) y0 y1 y2 y3 y4 y5 y6 y7 y8 y9 y10 y11 y12 y13 y14 y15 y16 y17 y18 y19 y20 y21 y22 y23 y24 y25)) ∧ (∀ y0 y1 y2 y3 y4 y5 y6 y7 y8 y9, LeO (ephemerislaw1_ObservedOfs.j8 k y0 y1 y2 y3 y4 y5 y6 y7 y8 y9) (ephemerislaw1_ObservedOfs.j8 (k + 1) y0 y1 y2 y3 y4 y5 y6 y7 y8 y9)) ∧ (∀ y0 y1 y2 y3 y4 y5 y6 y7 y8 y9 y10 y11 y12, LeO (ephemerislaw1_ObservedOfs.l2 k y0 y1 y2 y3 y4 y5 y6 y7 y8 y9 y10 y11 y12) (ephemerislaw1_ObservedOfs.l2 (k + 1) y0 y1 y2 y3 y4 y5 y6 y7 y8 y9 y10 y11 y12))
 | 0 => ⟨fun _ _ _ _ _ _ _ _ _ _ _ _ _ _ r h => by simp [ephemerislaw1_ObservedOfs.j0] at h, fun _ _ _ _ _ _ _ _ _ _ _ _ _ _ r h => by simp [ephemerislaw1_ObservedOfs.j1] at h, fun _ _ _ _ _ _ _ _ _ _ _ _ _ r h => by simp [ephemerislaw1_ObservedOfs.j2] at h, fun _ _ _ _ _ _ _ _ _ _ _ _ _ _ _ _ _ _ _ r h => by simp [ephemerislaw1_ObservedOfs.j3] at h, fun _ _ _ _ _ _ _ _ _ _ _ _ _ _ _ _ _ _ _ _ _ _ _ _ r h => by simp [ephemerislaw1_ObservedOfs.l0] at h, fun _ _ _ _ _ _ _ _ _ _ _ _ _ _ _ _ _ _ _ _ _ _ _ _ _ r h => by simp [ephemerislaw1_ObservedOfs.j5] at h, fun _ _ _ _ _ _ _ _ _ _ _ _ _ _ _ _ _ _ _ _ _ _ _ _ _ _ r h => by simp [ephemerislaw1_ObservedOfs.l1] at h, fun _ _ _ _ _ _ _ _ _ _ r h => by simp [ephemerislaw1_ObservedOfs.j8] at h, fun _ _ _ _ _ _ _ _ _ _ _ _ _ r h => by simp [ephemerislaw1_ObservedOfs.l2] at h⟩
 | k + 1 => by
  obtain ⟨ih0, ih1, ih2, ih3, ih4, ih5, ih6, ih7, ih8⟩ := ephemerislaw1_ObservedOfs.mono_l k
  refine ⟨?_, ?_, ?_, ?_, ?_, ?_, ?_, ?_, ?_⟩
  ·intro y0 y1 y2 y3 y4 y5 y6 y7 y8 y9 y10 y11 y12 y13
   unfold ephemerislaw1_ObservedOfs.j0
   repeat' first
   | (with_reducible exact ih0 _ _ _ _ _ _ _ _ _ _ _ _ _ _)
   | (with_reducible exact ih1 _ _ _ _ _ _ _ _ _ _ _ _ _ _)
   | (with_reducible exact ih2 _ _ _ _ _ _ _ _ _ _ _ _ _)
   | (with_reducible exact ih3 _ _ _ _ _ _ _ _ _ _ _ _ _ _ _ _ _ _ _)
   | (with_reducible exact ih4 _ _ _ _ _ _ _ _ _ _ _ _ _ _ _ _ _ _ _ _ _ _ _ _)
   | (with_reducible exact ih5 _ _ _ _ _ _ _ _ _ _ _ _ _ _ _ _ _ _ _ _ _ _ _ _ _)
   | (with_reducible exact ih6 _ _ _ _ _ _ _ _ _ _ _ _ _ _ _ _ _ _ _ _ _ _ _ _ _ _)
   | (with_reducible exact ih7 _ _ _ _ _ _ _ _ _ _)
   | (with_reducible exact ih8 _ _ _ _ _ _ _ _ _ _ _ _ _)
   | (with_reducible exact ephemerisref1_MoonBegin.mono _ _ _ _ _ _ _ _ _ _ _ _ _ _)
   | (with_reducible exact ephemerisref1_MoonError.mono _ _ _ _ _ _ _ _ _ _ _ _)
   | (with_reducible exact ephemerisref1_MoonMonths.mono _ _ _ _ _ _ _ _ _ _ _ _ _)
   | (with_reducible exact ephemerisref1_SameTable.mono _ _ _ _ _ _ _ _ _)
   | (with_reducible exact observed_Of.mono _ _ _ _ _ _ _ _ _ _ _ _ _ _)
   | (with_reducible exact LeO.refl _)
   | (with_reducible exact LeO.none _)
   | (with_reducible refine LeO.ite ?_ ?_)
   | (with_reducible refine LeO.bind ?_ (fun _ => ?_))
   | exact ih0 _ _ _ _ _ _ _ _ _ _ _ _ _ _
   | exact ih1 _ _ _ _ _ _ _ _ _ _ _ _ _ _
   | exact ih2 _ _ _ _ _ _ _ _ _ _ _ _ _
   | exact ih3 _ _ _ _ _ _ _ _ _ _ _ _ _ _ _ _ _ _ _
   | exact ih4 _ _ _ _ _ _ _ _ _ _ _ _ _ _ _ _ _ _ _ _ _ _ _ _
   | exact ih5 _ _ _ _ _ _ _ _ _ _ _ _ _ _ _ _ _ _ _ _ _ _ _ _ _
   | exact ih6 _ _ _ _ _ _ _ _ _ _ _ _ _ _ _ _ _ _ _ _ _ _ _ _ _ _
   | exact ih7 _ _ _ _ _ _ _ _ _ _
   | exact ih8 _ _ _ _ _ _ _ _ _ _ _ _ _
   | exact ephemerisref1_MoonBegin.mono _ _ _ _ _ _ _ _ _ _ _ _ _ _
   | exact ephemerisref1_MoonError.mono _ _ _ _ _ _ _ _ _ _ _ _
   | exact ephemerisref1_MoonMonths.mono _ _ _ _ _ _ _ _ _ _ _ _ _
   | exact ephemerisref1_SameTable.mono _ _ _ _ _ _ _ _ _
   | exact observed_Of.mono _ _ _ _ _ _ _ _ _ _ _ _ _ _
   | exact LeO.none _
   | refine LeO.ite ?_ ?_
   | refine LeO.bind ?_ (fun _ => ?_)
  ·intro y0 y1 y2 y3 y4 y5 y6 y7 y8 y9 y10 y11 y12 y13
   unfold ephemerislaw1_ObservedOfs.j1
   repeat' first
   | (with_reducible exact ih0 _ _ _ _ _ _ _ _ _ _ _ _ _ _)
   | (with_reducible exact ih1 _ _ _ _ _ _ _ _ _ _ _ _ _ _)
   | (with_reducible exact ih2 _ _ _ _ _ _ _ _ _ _ _ _ _)
   | (with_reducible exact ih3 _ _ _ _ _ _ _ _ _ _ _ _ _ _ _ _ _ _ _)
   | (with_reducible exact ih4 _ _ _ _ _ _ _ _ _ _ _ _ _ _ _ _ _ _ _ _ _ _ _ _)
   | (with_reducible exact ih5 _ _ _ _ _ _ _ _ _ _ _ _ _ _ _ _ _ _ _ _ _ _ _ _ _)
   | (with_reducible exact ih6 _ _ _ _ _ _ _ _ _ _ _ _ _ _ _ _ _ _ _ _ _ _ _ _ _ _)
   | (with_reducible exact ih7 _ _ _ _ _ _ _ _ _ _)
   | (with_reducible exact ih8 _ _ _ _ _ _ _ _ _ _ _ _ _)
   | (with_reducible exact ephemerisref1_MoonBegin.mono _ _ _ _ _ _ _ _ _ _ _ _ _ _)
   | (with_reducible exact ephemerisref1_MoonError.mono _ _ _ _ _ _ _ _ _ _ _ _)
   | (with_reducible exact ephemerisref1_MoonMonths.mono _ _ _ _ _ _ _ _ _ _ _ _ _)
   | (with_reducible exact ephemerisref1_SameTable.mono _ _ _ _ _ _ _ _ _)
   | (with_reducible exact observed_Of.mono _ _ _ _ _ _ _ _ _ _ _ _ _ _)
   | (with_reducible exact LeO.refl _)
   | (with_reducible exact LeO.none _)
   | (with_reducible refine LeO.ite ?_ ?_)
   | (with_reducible refine LeO.bind ?_ (fun _ => ?_))
   | exact ih0 _ _ _ _ _ _ _ _ _ _ _ _ _ _
   | exact ih1 _ _ _ _ _ _ _ _ _ _ _ _ _ _
   | exact ih2 _ _ _ _ _ _ _ _ _ _ _ _ _
   | exact ih3 _ _ _ _ _ _ _ _ _ _ _ _ _ _ _ _ _ _ _
   | exact ih4 _ _ _ _ _ _ _ _ _ _ _ _ _ _ _ _ _ _ _ _ _ _ _ _
   | exact ih5 _ _ _ _ _ _ _ _ _ _ _ _ _ _ _ _ _ _ _ _ _ _ _ _ _
   | exact ih6 _ _ _ _ _ _ _ _ _ _ _ _ _ _ _ _ _ _ _ _ _ _ _ _ _ _
   | exact ih7 _ _ _ _ _ _ _ _ _ _
   | exact ih8 _ _ _ _ _ _ _ _ _ _ _ _ _
   | exact ephemerisref1_MoonBegin.mono _ _ _ _ _ _ _ _ _ _ _ _ _ _
   | exact ephemerisref1_MoonError.mono _ _ _ _ _ _ _ _ _ _ _ _
   | exact ephemerisref1_MoonMonths.mono _ _ _ _ _ _ _ _ _ _ _ _ _
   | exact ephemerisref1_SameTable.mono _ _ _ _ _ _ _ _ _
   | exact observed_Of.mono _ _ _ _ _ _ _ _ _ _ _ _ _ _
   | exact LeO.none _
   | refine LeO.ite ?_ ?_
   | refine LeO.bind ?_ (fun _ => ?_)
  ·intro y0 y1 y2 y3 y4 y5 y6 y7 y8 y9 y10 y11 y12
   unfold ephemerislaw1_ObservedOfs.j2
   repeat' first
   | (with_reducible exact ih0 _ _ _ _ _ _ _ _ _ _ _ _ _ _)
   | (with_reducible exact ih1 _ _ _ _ _ _ _ _ _ _ _ _ _ _)
   | (with_reducible exact ih2 _ _ _ _ _ _ _ _ _ _ _ _ _)
   | (with_reducible exact ih3 _ _ _ _ _ _ _ _ _ _ _ _ _ _ _ _ _ _ _)
   | (with_reducible exact ih4 _ _ _ _ _ _ _ _ _ _ _ _ _ _ _ _ _ _ _ _ _ _ _ _)
   | (with_reducible exact ih5 _ _ _ _ _ _ _ _ _ _ _ _ _ _ _ _ _ _ _ _ _ _ _ _ _)
   | (with_reducible exact ih6 _ _ _ _ _ _ _ _ _ _ _ _ _ _ _ _ _ _ _ _ _ _ _ _ _ _)
   | (with_reducible exact ih7 _ _ _ _ _ _ _ _ _ _)
   | (with_reducible exact ih8 _ _ _ _ _ _ _ _ _ _ _ _ _)
   | (with_reducible exact ephemerisref1_MoonBegin.mono _ _ _ _ _ _ _ _ _ _ _ _ _ _)
   | (with_reducible exact ephemerisref1_MoonError.mono _ _ _ _ _ _ _ _ _ _ _ _)
   | (with_reducible exact ephemerisref1_MoonMonths.mono _ _ _ _ _ _ _ _ _ _ _ _ _)
   | (with_reducible exact ephemerisref1_SameTable.mono _ _ _ _ _ _ _ _ _)
   | (with_reducible exact observed_Of.mono _ _ _ _ _ _ _ _ _ _ _ _ _ _)
   | (with_reducible exact LeO.refl _)
   | (with_reducible exact LeO.none _)
   | (with_reducible refine LeO.ite ?_ ?_)
   | (with_reducible refine LeO.bind ?_ (fun _ => ?_))
   | exact ih0 _ _ _ _ _ _ _ _ _ _ _ _ _ _
   | exact ih1 _ _ _ _ _ _ _ _ _ _ _ _ _ _
   | exact ih2 _ _ _ _ _ _ _ _ _ _ _ _ _
   | exact ih3 _ _ _ _ _ _ _ _ _ _ _ _ _ _ _ _ _ _ _
   | exact ih4 _ _ _ _ _ _ _ _ _ _ _ _ _ _ _ _ _ _ _ _ _ _ _ _
   | exact ih5 _ _ _ _ _ _ _ _ _ _ _ _ _ _ _ _ _ _ _ _ _ _ _ _ _
   | exact ih6 _ _ _ _ _ _ _ _ _ _ _ _ _ _ _ _ _ _ _ _ _ _ _ _ _ _
   | exact ih7 _ _ _ _ _ _ _ _ _ _
   | exact ih8 _ _ _ _ _ _ _ _ _ _ _ _ _
   | exact ephemerisref1_MoonBegin.mono _ _ _ _ _ _ _ _ _ _ _ _ _ _
   | exact ephemerisref1_MoonError.mono _ _ _ _ _ _ _ _ _ _ _ _
   | exact ephemerisref1_MoonMonths.mono _ _ _ _ _ _ _ _ _ _ _ _ _
   | exact ephemerisref1_SameTable.mono _ _ _ _ _ _ _ _ _
   | exact observed_Of.mono _ _ _ _ _ _ _ _ _ _ _ _ _ _
   | exact LeO.none _
   | refine LeO.ite ?_ ?_
   | refine LeO.bind ?_ (fun _ => ?_)
  ·intro y0 y1 y2 y3 y4 y5 y6 y7 y8 y9 y10 y11 y12 y13 y14 y15 y16 y17 y18
   unfold ephemerislaw1_ObservedOfs.j3
   repeat' first
   | (with_reducible exact ih0 _ _ _ _ _ _ _ _ _ _ _ _ _ _)
   | (with_reducible exact ih1 _ _ _ _ _ _ _ _ _ _ _ _ _ _)
   | (with_reducible exact ih2 _ _ _ _ _ _ _ _ _ _ _ _ _)
   | (with_reducible exact ih3 _ _ _ _ _ _ _ _ _ _ _ _ _ _ _ _ _ _ _)
   | (with_reducible exact ih4 _ _ _ _ _ _ _ _ _ _ _ _ _ _ _ _ _ _ _ _ _ _ _ _)
   | (with_reducible exact ih5 _ _ _ _ _ _ _ _ _ _ _ _ _ _ _ _ _ _ _ _ _ _ _ _ _)
   | (with_reducible exact ih6 _ _ _ _ _ _ _ _ _ _ _ _ _ _ _ _ _ _ _ _ _ _ _ _ _ _)
   | (with_reducible exact ih7 _ _ _ _ _ _ _ _ _ _)
   | (with_reducible exact ih8 _ _ _ _ _ _ _ _ _ _ _ _ _)
   | (with_reducible exact ephemerisref1_MoonBegin.mono _ _ _ _ _ _ _ _ _ _ _ _ _ _)
   | (with_reducible exact ephemerisref1_MoonError.mono _ _ _ _ _ _ _ _ _ _ _ _)
   | (with_reducible exact ephemerisref1_MoonMonths.mono _ _ _ _ _ _ _ _ _ _ _ _ _)
   | (with_reducible exact ephemerisref1_SameTable.mono _ _ _ _ _ _ _ _ _)
   | (with_reducible exact observed_Of.mono _ _ _ _ _ _ _ _ _ _ _ _ _ _)
   | (with_reducible exact LeO.refl _)
   | (with_reducible exact LeO.none _)
   | (with_reducible refine LeO.ite ?_ ?_)
   | (with_reducible refine LeO.bind ?_ (fun _ => ?_))
   | exact ih0 _ _ _ _ _ _ _ _ _ _ _ _ _ _
   | exact ih1 _ _ _ _ _ _ _ _ _ _ _ _ _ _
   | exact ih2 _ _ _ _ _ _ _ _ _ _ _ _ _
   | exact ih3 _ _ _ _ _ _ _ _ _ _ _ _ _ _ _ _ _ _ _
   | exact ih4 _ _ _ _ _ _ _ _ _ _ _ _ _ _ _ _ _ _ _ _ _ _ _ _
   | exact ih5 _ _ _ _ _ _ _ _ _ _ _ _ _ _ _ _ _ _ _ _ _ _ _ _ _
   | exact ih6 _ _ _ _ _ _ _ _ _ _ _ _ _ _ _ _ _ _ _ _ _ _ _ _ _ _
   | exact ih7 _ _ _ _ _ _ _ _ _ _
   | exact ih8 _ _ _ _ _ _ _ _ _ _ _ _ _
   | exact ephemerisref1_MoonBegin.mono _ _ _ _ _ _ _ _ _ _ _ _ _ _
   | exact ephemerisref1_MoonError.mono _ _ _ _ _ _ _ _ _ _ _ _
   | exact ephemerisref1_MoonMonths.mono _ _ _ _ _ _ _ _ _ _ _ _ _
   | exact ephemerisref1_SameTable.mono _ _ _ _ _ _ _ _ _
   | exact observed_Of.mono _ _ _ _ _ _ _ _ _ _ _ _ _ _
   | exact LeO.none _
   | refine LeO.ite ?_ ?_
   | refine LeO.bind ?_ (fun _ => ?_)
  ·intro y0 y1 y2 y3 y4 y5 y6 y7 y8 y9 y10 y11 y12 y13 y14 y15 y16 y17 y18 y19 y20 y21 y22 y23
   unfold ephemerislaw1_ObservedOfs.l0
   repeat' first
   | (with_reducible exact ih0 _ _ _ _ _ _ _ _ _ _ _ _ _ _)
   | (with_reducible exact ih1 _ _ _ _ _ _ _ _ _ _ _ _ _ _)
   | (with_reducible exact ih2 _ _ _ _ _ _ _ _ _ _ _ _ _)
   | (with_reducible exact ih3 _ _ _ _ _ _ _ _ _ _ _ _ _ _ _ _ _ _ _)
   | (with_reducible exact ih4 _ _ _ _ _ _ _ _ _ _ _ _ _ _ _ _ _ _ _ _ _ _ _ _)
   | (with_reducible exact ih5 _ _ _ _ _ _ _ _ _ _ _ _ _ _ _ _ _ _ _ _ _ _ _ _ _)
   | (with_reducible exact ih6 _ _ _ _ _ _ _ _ _ _ _ _ _ _ _ _ _ _ _ _ _ _ _ _ _ _)
   | (with_reducible exact ih7 _ _ _ _ _ _ _ _ _ _)
   | (with_reducible exact ih8 _ _ _ _ _ _ _ _ _ _ _ _ _)
   | (with_reducible exact ephemerisref1_MoonBegin.mono _ _ _ _ _ _ _ _ _ _ _ _ _ _)
   | (with_reducible exact ephemerisref1_MoonError.mono _ _ _ _ _ _ _ _ _ _ _ _)
   | (with_reducible exact ephemerisref1_MoonMonths.mono _ _ _ _ _ _ _ _ _ _ _ _ _)
   | (with_reducible exact ephemerisref1_SameTable.mono _ _ _ _ _ _ _ _ _)
   | (with_reducible exact observed_Of.mono _ _ _ _ _ _ _ _ _ _ _ _ _ _)
   | (with_reducible exact LeO.refl _)
   | (with_reducible exact LeO.none _)
   | (with_reducible refine LeO.ite ?_ ?_)
   | (with_reducible refine LeO.bind ?_ (fun _ => ?_))
   | exact ih0 _ _ _ _ _ _ _ _ _ _ _ _ _ _
   | exact ih1 _ _ _ _ _ _ _ _ _ _ _ _ _ _
   | exact ih2 _ _ _ _ _ _ _ _ _ _ _ _ _
   | exact ih3 _ _ _ _ _ _ _ _ _ _ _ _ _ _ _ _ _ _ _
   | exact ih4 _ _ _ _ _ _ _ _ _ _ _ _ _ _ _ _ _ _ _ _ _ _ _ _
   | exact ih5 _ _ _ _ _ _ _ _ _ _ _ _ _ _ _ _ _ _ _ _ _ _ _ _ _
   | exact ih6 _ _ _ _ _ _ _ _ _ _ _ _ _ _ _ _ _ _ _ _ _ _ _ _ _ _
   | exact ih7 _ _ _ _ _ _ _ _ _ _
   | exact ih8 _ _ _ _ _ _ _ _ _ _ _ _ _
   | exact ephemerisref1_MoonBegin.mono _ _ _ _ _ _ _ _ _ _ _ _ _ _
   | exact ephemerisref1_MoonError.mono _ _ _ _ _ _ _ _ _ _ _ _
   | exact ephemerisref1_MoonMonths.mono _ _ _ _ _ _ _ _ _ _ _ _ _
   | exact ephemerisref1_SameTable.mono _ _ _ _ _ _ _ _ _
   | exact observed_Of.mono _ _ _ _ _ _ _ _ _ _ _ _ _ _
   | exact LeO.none _
   | refine LeO.ite ?_ ?_
   | refine LeO.bind ?_ (fun _ => ?_)
  ·intro y0 y1 y2 y3 y4 y5 y6 y7 y8 y9 y10 y11 y12 y13 y14 y15 y16 y17 y18 y19 y20 y21 y22 y23 y24
   unfold ephemerislaw1_ObservedOfs.j5
   repeat' first
   | (with_reducible exact ih0 _ _ _ _ _ _ _ _ _ _ _ _ _ _)
   | (with_reducible exact ih1 _ _ _ _ _ _ _ _ _ _ _ _ _ _)
   | (with_reducible exact ih2 _ _ _ _ _ _ _ _ _ _ _ _ _)
   | (with_reducible exact ih3 _ _ _ _ _ _ _ _ _ _ _ _ _ _ _ _ _ _ _)
   | (with_reducible exact ih4 _ _ _ _ _ _ _ _ _ _ _ _ _ _ _ _ _ _ _ _ _ _ _ _)
   | (with_reducible exact ih5 _ _ _ _ _ _ _ _ _ _ _ _ _ _ _ _ _ _ _ _ _ _ _ _ _)
   | (with_reducible exact ih6 _ _ _ _ _ _ _ _ _ _ _ _ _ _ _ _ _ _ _ _ _ _ _ _ _ _)
   | (with_reducible exact ih7 _ _ _ _ _ _ _ _ _ _)
   | (with_reducible exact ih8 _ _ _ _ _ _ _ _ _ _ _ _ _)
   | (with_reducible exact ephemerisref1_MoonBegin.mono _ _ _ _ _ _ _ _ _ _ _ _ _ _)
   | (with_reducible exact ephemerisref1_MoonError.mono _ _ _ _ _ _ _ _ _ _ _ _)
   | (with_reducible exact ephemerisref1_MoonMonths.mono _ _ _ _ _ _ _ _ _ _ _ _ _)
   | (with_reducible exact ephemerisref1_SameTable.mono _ _ _ _ _ _ _ _ _)
   | (with_reducible exact observed_Of.mono _ _ _ _ _ _ _ _ _ _ _ _ _ _)
   | (with_reducible exact LeO.refl _)
   | (with_reducible exact LeO.none _)
   | (with_reducible refine LeO.ite ?_ ?_)
   | (with_reducible refine LeO.bind ?_ (fun _ => ?_))
   | exact ih0 _ _ _ _ _ _ _ _ _ _ _ _ _ _
   | exact ih1 _ _ _ _ _ _ _ _ _ _ _ _ _ _
   | exact ih2 _ _ _ _ _ _ _ _ _ _ _ _ _
   | exact ih3 _ _ _ _ _ _ _ _ _ _ _ _ _ _ _ _ _ _ _
   | exact ih4 _ _ _ _ _ _ _ _ _ _ _ _ _ _ _ _ _ _ _ _ _ _ _ _
   | exact ih5 _ _ _ _ _ _ _ _ _ _ _ _ _ _ _ _ _ _ _ _ _ _ _ _ _
   | exact ih6 _ _ _ _ _ _ _ _ _ _ _ _ _ _ _ _ _ _ _ _ _ _ _ _ _ _
   | exact ih7 _ _ _ _ _ _ _ _ _ _
   | exact ih8 _ _ _ _ _ _ _ _ _ _ _ _ _
   | exact ephemerisref1_MoonBegin.mono _ _ _ _ _ _ _ _ _ _ _ _ _ _
   | exact ephemerisref1_MoonError.mono _ _ _ _ _ _ _ _ _ _ _ _
   | exact ephemerisref1_MoonMonths.mono _ _ _ _ _ _ _ _ _ _ _ _ _
   | exact ephemerisref1_SameTable.mono _ _ _ _ _ _ _ _ _
   | exact observed_Of.mono _ _ _ _ _ _ _ _ _ _ _ _ _ _
   | exact LeO.none _
   | refine LeO.ite ?_ ?_
   | refine LeO.bind ?_ (fun _ => ?_)
  ·intro y0 y1 y2 y3 y4 y5 y6 y7 y8 y9 y10 y11 y12 y13 y14 y15 y16 y17 y18 y19 y20 y21 y22 y23 y24 y25
   unfold ephemerislaw1_ObservedOfs.l1
   repeat' first
   | (with_reducible exact ih0 _ _ _ _ _ _ _ _ _ _ _ _ _ _)
   | (with_reducible exact ih1 _ _ _ _ _ _ _ _ _ _ _ _ _ _)
   | (with_reducible exact ih2 _ _ _ _ _ _ _ _ _ _ _ _ _)
   | (with_reducible exact ih3 _ _ _ _ _ _ _ _ _ _ _ _ _ _ _ _ _ _ _)
   | (with_reducible exact ih4 _ _ _ _ _ _ _ _ _ _ _ _ _ _ _ _ _ _ _ _ _ _ _ _)
   | (with_reducible exact ih5 _ _ _ _ _ _ _ _ _ _ _ _ _ _ _ _ _ _ _ _ _ _ _ _ _)
   | (with_reducible exact ih6 _ _ _ _ _ _ _ _ _ _ _ _ _ _ _ _ _ _ _ _ _ _ _ _ _ _)
   | (with_reducible exact ih7 _ _ _ _ _ _ _ _ _ _)
   | (with_reducible exact ih8 _ _ _ _ _ _ _ _ _ _ _ _ _)
   | (with_reducible exact ephemerisref1_MoonBegin.mono _ _ _ _ _ _ _ _ _ _ _ _ _ _)
   | (with_reducible exact ephemerisref1_MoonError.mono _ _ _ _ _ _ _ _ _ _ _ _)
   | (with_reducible exact ephemerisref1_MoonMonths.mono _ _ _ _ _ _ _ _ _ _ _ _ _)
   | (with_reducible exact ephemerisref1_SameTable.mono _ _ _ _ _ _ _ _ _)
   | (with_reducible exact observed_Of.mono _ _ _ _ _ _ _ _ _ _ _ _ _ _)
   | (with_reducible exact LeO.refl _)
   | (with_reducible exact LeO.none _)
   | (with_reducible refine LeO.ite ?_ ?_)
   | (with_reducible refine LeO.bind ?_ (fun _ => ?_))
   | exact ih0 _ _ _ _ _ _ _ _ _ _ _ _ _ _
   | exact ih1 _ _ _ _ _ _ _ _ _ _ _ _ _ _
   | exact ih2 _ _ _ _ _ _ _ _ _ _ _ _ _
   | exact ih3 _ _ _ _ _ _ _ _ _ _ _ _ _ _ _ _ _ _ _
   | exact ih4 _ _ _ _ _ _ _ _ _ _ _ _ _ _ _ _ _ _ _ _ _ _ _ _
   | exact ih5 _ _ _ _ _ _ _ _ _ _ _ _ _ _ _ _ _ _ _ _ _ _ _ _ _
   | exact ih6 _ _ _ _ _ _ _ _ _ _ _ _ _ _ _ _ _ _ _ _ _ _ _ _ _ _
   | exact ih7 _ _ _ _ _ _ _ _ _ _
   | exact ih8 _ _ _ _ _ _ _ _ _ _ _ _ _
   | exact ephemerisref1_MoonBegin.mono _ _ _ _ _ _ _ _ _ _ _ _ _ _
   | exact ephemerisref1_MoonError.mono _ _ _ _ _ _ _ _ _ _ _ _
   | exact ephemerisref1_MoonMonths.mono _ _ _ _ _ _ _ _ _ _ _ _ _
   | exact ephemerisref1_SameTable.mono _ _ _ _ _ _ _ _ _
   | exact observed_Of.mono _ _ _ _ _ _ _ _ _ _ _ _ _ _
   | exact LeO.none _
   | refine LeO.ite ?_ ?_
   | refine LeO.bind ?_ (fun _ => ?_)
  ·intro y0 y1 y2 y3 y4 y5 y6 y7 y8 y9
   unfold ephemerislaw1_ObservedOfs.j8
   repeat' first
   | (with_reducible exact ih0 _ _ _ _ _ _ _ _ _ _ _ _ _ _)
   | (with_reducible exact ih1 _ _ _ _ _ _ _ _ _ _ _ _ _ _)
   | (with_reducible exact ih2 _ _ _ _ _ _ _ _ _ _ _ _ _)
   | (with_reducible exact ih3 _ _ _ _ _ _ _ _ _ _ _ _ _ _ _ _ _ _ _)
   | (with_reducible exact ih4 _ _ _ _ _ _ _ _ _ _ _ _ _ _ _ _ _ _ _ _ _ _ _ _)
   | (with_reducible exact ih5 _ _ _ _ _ _ _ _ _ _ _ _ _ _ _ _ _ _ _ _ _ _ _ _ _)
   | (with_reducible exact ih6 _ _ _ _ _ _ _ _ _ _ _ _ _ _ _ _ _ _ _ _ _ _ _ _ _ _)
   | (with_reducible exact ih7 _ _ _ _ _ _ _ _ _ _)
   | (with_reducible exact ih8 _ _ _ _ _ _ _ _ _ _ _ _ _)
   | (with_reducible exact ephemerisref1_MoonBegin.mono _ _ _ _ _ _ _ _ _ _ _ _ _ _)
   | (with_reducible exact ephemerisref1_MoonError.mono _ _ _ _ _ _ _ _ _ _ _ _)
   | (with_reducible exact ephemerisref1_MoonMonths.mono _ _ _ _ _ _ _ _ _ _ _ _ _)
   | (with_reducible exact ephemerisref1_SameTable.mono _ _ _ _ _ _ _ _ _)
   | (with_reducible exact observed_Of.mono _ _ _ _ _ _ _ _ _ _ _ _ _ _)
   | (with_reducible exact LeO.refl _)
   | (with_reducible exact LeO.none _)
   | (with_reducible refine LeO.ite ?_ ?_)
   | (with_reducible refine LeO.bind ?_ (fun _ => ?_))
   | exact ih0 _ _ _ _ _ _ _ _ _ _ _ _ _ _
   | exact ih1 _ _ _ _ _ _ _ _ _ _ _ _ _ _
   | exact ih2 _ _ _ _ _ _ _ _ _ _ _ _ _
   | exact ih3 _ _ _ _ _ _ _ _ _ _ _ _ _ _ _ _ _ _ _
   | exact ih4 _ _ _ _ _ _ _ _ _ _ _ _ _ _ _ _ _ _ _ _ _ _ _ _
   | exact ih5 _ _ _ _ _ _ _ _ _ _ _ _ _ _ _ _ _ _ _ _ _ _ _ _ _
   | exact ih6 _ _ _ _ _ _ _ _ _ _ _ _ _ _ _ _ _ _ _ _ _ _ _ _ _ _
   | exact ih7 _ _ _ _ _ _ _ _ _ _
   | exact ih8 _ _ _ _ _ _ _ _ _ _ _ _ _
   | exact ephemerisref1_MoonBegin.mono _ _ _ _ _ _ _ _ _ _ _ _ _ _
   | exact ephemerisref1_MoonError.mono _ _ _ _ _ _ _ _ _ _ _ _
   | exact ephemerisref1_MoonMonths.mono _ _ _ _ _ _ _ _ _ _ _ _ _
   | exact ephemerisref1_SameTable.mono _ _ _ _ _ _ _ _ _
   | exact observed_Of.mono _ _ _ _ _ _ _ _ _ _ _ _ _ _
   | exact LeO.none _
   | refine LeO.ite ?_ ?_
   | refine LeO.bind ?_ (fun _ => ?_)
  ·intro y0 y1 y2 y3 y4 y5 y6 y7 y8 y9 y10 y11 y12
   unfold ephemerislaw1_ObservedOfs.l2
   repeat' first
   | (with_reducible exact ih0 _ _ _ _ _ _ _ _ _ _ _ _ _ _)
   | (with_reducible exact ih1 _ _ _ _ _ _ _ _ _ _ _ _ _ _)
   | (with_reducible exact ih2 _ _ _ _ _ _ _ _ _ _ _ _ _)
   | (with_reducible exact ih3 _ _ _ _ _ _ _ _ _ _ _ _ _ _ _ _ _ _ _)
   | (with_reducible exact ih4 _ _ _ _ _ _ _ _ _ _ _ _ _ _ _ _ _ _ _ _ _ _ _ _)
   | (with_reducible exact ih5 _ _ _ _ _ _ _ _ _ _ _ _ _ _ _ _ _ _ _ _ _ _ _ _ _)
   | (with_reducible exact ih6 _ _ _ _ _ _ _ _ _ _ _ _ _ _ _ _ _ _ _ _ _ _ _ _ _ _)
   | (with_reducible exact ih7 _ _ _ _ _ _ _ _ _ _)
   | (with_reducible exact ih8 _ _ _ _ _ _ _ _ _ _ _ _ _)
   | (with_reducible exact ephemerisref1_MoonBegin.mono _ _ _ _ _ _ _ _ _ _ _ _ _ _)
   | (with_reducible exact ephemerisref1_MoonError.mono _ _ _ _ _ _ _ _ _ _ _ _)
   | (with_reducible exact ephemerisref1_MoonMonths.mono _ _ _ _ _ _ _ _ _ _ _ _ _)
   | (with_reducible exact ephemerisref1_SameTable.mono _ _ _ _ _ _ _ _ _)
   | (with_reducible exact observed_Of.mono _ _ _ _ _ _ _ _ _ _ _ _ _ _)
   | (with_reducible exact LeO.refl _)
   | (with_reducible exact LeO.none _)
   | (with_reducible refine LeO.ite ?_ ?_)
   | (with_reducible refine LeO.bind ?_ (fun _ => ?_))
   | exact ih0 _ _ _ _ _ _ _ _ _ _ _ _ _ _
   | exact ih1 _ _ _ _ _ _ _ _ _ _ _ _ _ _
   | exact ih2 _ _ _ _ _ _ _ _ _ _ _ _ _
   | exact ih3 _ _ _ _ _ _ _ _ _ _ _ _ _ _ _ _ _ _ _
   | exact ih4 _ _ _ _ _ _ _ _ _ _ _ _ _ _ _ _ _ _ _ _ _ _ _ _
   | exact ih5 _ _ _ _ _ _ _ _ _ _ _ _ _ _ _ _ _ _ _ _ _ _ _ _ _
   | exact ih6 _ _ _ _ _ _ _ _ _ _ _ _ _ _ _ _ _ _ _ _ _ _ _ _ _ _
   | exact ih7 _ _ _ _ _ _ _ _ _ _
   | exact ih8 _ _ _ _ _ _ _ _ _ _ _ _ _
   | exact ephemerisref1_MoonBegin.mono _ _ _ _ _ _ _ _ _ _ _ _ _ _
   | exact ephemerisref1_MoonError.mono _ _ _ _ _ _ _ _ _ _ _ _
   | exact ephemerisref1_MoonMonths.mono _ _ _ _ _ _ _ _ _ _ _ _ _
   | exact ephemerisref1_SameTable.mono _ _ _ _ _ _ _ _ _
   | exact observed_Of.mono _ _ _ _ _ _ _ _ _ _ _ _ _ _
   | exact LeO.none _
   | refine LeO.ite ?_ ?_
   | refine LeO.bind ?_ (fun _ => ?_)
theorem ephemerislaw1_ObservedOfs.mono : ∀ a0 a1 a2 a3 a4 a5 a6 a7 a8 a9 a10 a11 a12 k, LeO (ephemerislaw1_ObservedOfs.f k a0 a1 a2 a3 a4 a5 a6 a7 a8 a9 a10 a11 a12) (ephemerislaw1_ObservedOfs.f (k + 1) a0 a1 a2 a3 a4 a5 a6 a7 a8 a9 a10 a11 a12) := by
 intro a0 a1 a2 a3 a4 a5 a6 a7 a8 a9 a10 a11 a12 k
 obtain ⟨ih0, ih1, ih2, ih3, ih4, ih5, ih6, ih7, ih8⟩ := ephemerislaw1_ObservedOfs.mono_l k
 unfold ephemerislaw1_ObservedOfs.f
 repeat' first
   | (with_reducible exact ih0 _ _ _ _ _ _ _ _ _ _ _ _ _ _)
   | (with_reducible exact ih1 _ _ _ _ _ _ _ _ _ _ _ _ _ _)
   | (with_reducible exact ih2 _ _ _ _ _ _ _ _ _ _ _ _ _)
   | (with_reducible exact ih3 _ _ _ _ _ _ _ _ _ _ _ _ _ _ _ _ _ _ _)
   | (with_reducible exact ih4 _ _ _ _ _ _ _ _ _ _ _ _ _ _ _ _ _ _ _ _ _ _ _ _)
   | (with_reducible exact ih5 _ _ _ _ _ _ _ _ _ _ _ _ _ _ _ _ _ _ _ _ _ _ _ _ _)
   | (with_reducible exact ih6 _ _ _ _ _ _ _ _ _ _ _ _ _ _ _ _ _ _ _ _ _ _ _ _ _ _)
   | (with_reducible exact ih7 _ _ _ _ _ _ _ _ _ _)
   | (with_reducible exact ih8 _ _ _ _ _ _ _ _ _ _ _ _ _)
   | (with_reducible exact ephemerisref1_MoonBegin.mono _ _ _ _ _ _ _ _ _ _ _ _ _ _)
   | (with_reducible exact ephemerisref1_MoonError.mono _ _ _ _ _ _ _ _ _ _ _ _)
   | (with_reducible exact ephemerisref1_MoonMonths.mono _ _ _ _ _ _ _ _ _ _ _ _ _)
   | (with_reducible exact ephemerisref1_SameTable.mono _ _ _ _ _ _ _ _ _)
   | (with_reducible exact observed_Of.mono _ _ _ _ _ _ _ _ _ _ _ _ _ _)
   | (with_reducible exact LeO.refl _)
   | (with_reducible exact LeO.none _)
   | (with_reducible refine LeO.ite ?_ ?_)
   | (with_reducible refine LeO.bind ?_ (fun _ => ?_))
   | exact ih0 _ _ _ _ _ _ _ _ _ _ _ _ _ _
   | exact ih1 _ _ _ _ _ _ _ _ _ _ _ _ _ _
   | exact ih2 _ _ _ _ _ _ _ _ _ _ _ _ _
   | exact ih3 _ _ _ _ _ _ _ _ _ _ _ _ _ _ _ _ _ _ _
   | exact ih4 _ _ _ _ _ _ _ _ _ _ _ _ _ _ _ _ _ _ _ _ _ _ _ _
   | exact ih5 _ _ _ _ _ _ _ _ _ _ _ _ _ _ _ _ _ _ _ _ _ _ _ _ _
   | exact ih6 _ _ _ _ _ _ _ _ _ _ _ _ _ _ _ _ _ _ _ _ _ _ _ _ _ _
   | exact ih7 _ _ _ _ _ _ _ _ _ _
   | exact ih8 _ _ _ _ _ _ _ _ _ _ _ _ _
   | exact ephemerisref1_MoonBegin.mono _ _ _ _ _ _ _ _ _ _ _ _ _ _
   | exact ephemerisref1_MoonError.mono _ _ _ _ _ _ _ _ _ _ _ _
   | exact ephemerisref1_MoonMonths.mono _ _ _ _ _ _ _ _ _ _ _ _ _
   | exact ephemerisref1_SameTable.mono _ _ _ _ _ _ _ _ _
   | exact observed_Of.mono _ _ _ _ _ _ _ _ _ _ _ _ _ _
   | exact LeO.none _
   | refine LeO.ite ?_ ?_
   | refine LeO.bind ?_ (fun _ => ?_)
def ephemerislaw1_ObservedOfs.T22 : Bool × List (List Nat × List Nat) := (true, [([], []), ([0], [0]), ([], []), ([], []), ([], []), ([2, 3, 4], [2, 3, 4]), ([5], [5]), ([1, 6, 5], [1, 6]), ([0, 1, 2, 3, 4, 5, 6, 7], []), ([8, 7, 7, 0, 1, 2, 3, 4, 5, 6, 7], [7, 8])])
def ephemerislaw1_ObservedOfs.B22 : List Nat := [0, 1, 0, 0, 0, 28, 60, 127, 255, 511]
theorem ephemerislaw1_ObservedOfs.tab22 : rtab .any (opsOf Try.f6 22) = ephemerislaw1_ObservedOfs.T22 := by kernel_rfl
theorem ephemerislaw1_ObservedOfs.bits22 : waitsOk ephemerislaw1_ObservedOfs.T22.2 ephemerislaw1_ObservedOfs.B22 = true := by kernel_rfl
def ephemerislaw1_ObservedOfs.T24 : Bool × List (List Nat × List Nat) := (true, [([], []), ([0], [0]), ([], []), ([], []), ([], []), ([3, 4], [3, 4]), ([2, 5], [2, 5]), ([6], [6]), ([1, 7, 6], [1, 7]), ([0, 1, 2, 3, 4, 5, 6, 7, 8], []), ([9, 8, 8, 0, 1, 2, 3, 4, 5, 6, 7, 8], [8, 9])])
def ephemerislaw1_ObservedOfs.B24 : List Nat := [0, 1, 0, 0, 0, 24, 60, 124, 255, 511, 1023]
theorem ephemerislaw1_ObservedOfs.tab24 : rtab .any (opsOf Try.f6 24) = ephemerislaw1_ObservedOfs.T24 := by kernel_rfl
theorem ephemerislaw1_ObservedOfs.bits24 : waitsOk ephemerislaw1_ObservedOfs.T24.2 ephemerislaw1_ObservedOfs.B24 = true := by kernel_rfl
set_option maxHeartbeats 8000000 in
set_option maxRecDepth 100000 in
theorem ephemerislaw1_ObservedOfs.calls (k : Nat) (a0_0 : ByteArray) (a0_1 : Int) (a0_2 : Int) (a0_3 : Int) (a0_4 : Int) (a0_5 : Int) (a0_6 : Int) (a0_7 : Int) (a0_8 : Int) (A0_9 : Option Addr) (c0_9 : Nat) (l0_9 : List Int) (A0_10 : Option Addr) (c0_10 : Nat) (l0_10 : List Int) (a1 : Int) (a2 : Int) (r : Bool) (w : World) (hr0_9 : Kd.C (Kd.int .i64) w A0_9 l0_9.length l0_9) (hc0_9 : l0_9.length ≤ c0_9) (hr0_10 : Kd.C (Kd.int .i64) w A0_10 l0_10.length l0_10) (hc0_10 : l0_10.length ≤ c0_10) (h : ephemerislaw1_ObservedOfs.f k a0_0 a0_1 a0_2 a0_3 a0_4 a0_5 a0_6 a0_7 a0_8 l0_9 l0_10 a1 a2 = some r) :
  Calls Try.prog 6 #[.agg #[.string a0_0, .int .i64 a0_1, .int .i64 a0_2, .int .i64 a0_3, .int .i64 a0_4, .int .i64 a0_5, .int .i64 a0_6, .int .i64 a0_7, .int .i64 a0_8, .slice A0_9 l0_9.length c0_9, .slice A0_10 l0_10.length c0_10], .int .i64 a1, .int .i64 a2] w fun e w' => e = .returned (.bool r) ∧ Below w.heap.size w w' := by
 have hu60 := Try.underlying60
 have hu24 := Try.underlying24
 have HR0_9 := Aside0.mk hr0_9
 have HC0_9 := Aside0.mk hc0_9
 clear hr0_9 hc0_9
 have HR0_10 := Aside0.mk hr0_10
 have HC0_10 := Aside0.mk hc0_10
 clear hr0_10 hc0_10
 have HB := Aside0.mk (Below.refl w.heap.size w)
 have H : ((ephemerislaw1_plainMoon.f).bind fun bt239 => ((observed_Of.f k bt239.1 bt239.2.1 bt239.2.2.1 bt239.2.2.2.1 bt239.2.2.2.2.1 bt239.2.2.2.2.2.1 bt239.2.2.2.2.2.2.1 bt239.2.2.2.2.2.2.2.1 bt239.2.2.2.2.2.2.2.2.1 bt239.2.2.2.2.2.2.2.2.2.1 bt239.2.2.2.2.2.2.2.2.2.2 1 1).bind fun bt254 => (if bt254.2.2.2.2 = 0 then (if (bt254.2.2.2.1.length : Int) = 13 then (if 1 < (bt254.2.2.2.1.length : Int) then (if (rd bt254.2.2.2.1 1) = 30 then (if 12 < (bt254.2.2.2.1.length : Int) then (ephemerislaw1_ObservedOfs.j0 k a1 a2 ((rd bt254.2.2.2.1 12) != 355) a0_0 a0_1 a0_2 a0_3 a0_4 a0_5 a0_6 a0_7 a0_8 l0_9 l0_10) else (none)) else (ephemerislaw1_ObservedOfs.j0 k a1 a2 true a0_0 a0_1 a0_2 a0_3 a0_4 a0_5 a0_6 a0_7 a0_8 l0_9 l0_10)) else (none)) else (ephemerislaw1_ObservedOfs.j0 k a1 a2 true a0_0 a0_1 a0_2 a0_3 a0_4 a0_5 a0_6 a0_7 a0_8 l0_9 l0_10)) else (ephemerislaw1_ObservedOfs.j0 k a1 a2 true a0_0 a0_1 a0_2 a0_3 a0_4 a0_5 a0_6 a0_7 a0_8 l0_9 l0_10)))) = some r := h
 clear h
 replace H := Option.bind_eq_some_iff.mp H
 obtain ⟨⟨t239, t240, t241, t242, t243, t244, t245, t246, t247, t248, t251⟩, A40, H⟩ := H
 replace H : ((observed_Of.f k t239 t240 t241 t242 t243 t244 t245 t246 t247 t248 t251 1 1).bind fun bt254 => (if bt254.2.2.2.2 = 0 then (if (bt254.2.2.2.1.length : Int) = 13 then (if 1 < (bt254.2.2.2.1.length : Int) then (if (rd bt254.2.2.2.1 1) = 30 then (if 12 < (bt254.2.2.2.1.length : Int) then (ephemerislaw1_ObservedOfs.j0 k a1 a2 ((rd bt254.2.2.2.1 12) != 355) a0_0 a0_1 a0_2 a0_3 a0_4 a0_5 a0_6 a0_7 a0_8 l0_9 l0_10) else (none)) else (ephemerislaw1_ObservedOfs.j0 k a1 a2 true a0_0 a0_1 a0_2 a0_3 a0_4 a0_5 a0_6 a0_7 a0_8 l0_9 l0_10)) else (none)) else (ephemerislaw1_ObservedOfs.j0 k a1 a2 true a0_0 a0_1 a0_2 a0_3 a0_4 a0_5 a0_6 a0_7 a0_8 l0_9 l0_10)) else (ephemerislaw1_ObservedOfs.j0 k a1 a2 true a0_0 a0_1 a0_2 a0_3 a0_4 a0_5 a0_6 a0_7 a0_8 l0_9 l0_10))) = some r := H
 have A4 := Aside0.mk A40
 clear A40
 replace H := Option.bind_eq_some_iff.mp H
 obtain ⟨⟨t254, t255, t256, t259, t262⟩, A50, H⟩ := H
 replace H : (if t262 = 0 then (if (t259.length : Int) = 13 then (if 1 < (t259.length : Int) then (if (rd t259 1) = 30 then (if 12 < (t259.length : Int) then (ephemerislaw1_ObservedOfs.j0 k a1 a2 ((rd t259 12) != 355) a0_0 a0_1 a0_2 a0_3 a0_4 a0_5 a0_6 a0_7 a0_8 l0_9 l0_10) else (none)) else (ephemerislaw1_ObservedOfs.j0 k a1 a2 true a0_0 a0_1 a0_2 a0_3 a0_4 a0_5 a0_6 a0_7 a0_8 l0_9 l0_10)) else (none)) else (ephemerislaw1_ObservedOfs.j0 k a1 a2 true a0_0 a0_1 a0_2 a0_3 a0_4 a0_5 a0_6 a0_7 a0_8 l0_9 l0_10)) else (ephemerislaw1_ObservedOfs.j0 k a1 a2 true a0_0 a0_1 a0_2 a0_3 a0_4 a0_5 a0_6 a0_7 a0_8 l0_9 l0_10)) = some r := H
 have A5 := Aside0.mk A50
 clear A50
 have HC6 := Aside0.mk H
 clear H
 go_enter Try.func6, Try.ntmps6
 go_upto_region 2 with (first | ((with_reducible refine gate_dst (N := 3) rfl ?_); (try (refine gate_guard (by rfl) ?_; dsimp only)); refine box_event ?hg (N := 3) ?hd (cs := #[.string a0_0, .int .i64 a0_1, .int .i64 a0_2, .int .i64 a0_3, .int .i64 a0_4, .int .i64 a0_5, .int .i64 a0_6, .int .i64 a0_7, .int .i64 a0_8, .slice A0_9 l0_9.length c0_9, .slice A0_10 l0_10.length c0_10]) (t := 60) ?hr ?_; (case hd => rfl); (case hg => rfl); (case hr => first | (go_simp; done) | (go_simp; rfl)); intro gb238 hg w7 hbox hb; have n0_ := Aside0.mk (below_step be hb); have n1_ := Aside0.mk (hbox); have n2_ := gs hg HB; have n3_ := n2_; clear HB; have HB := n0_; have BK238 := n1_; have GW238 := n2_; have GE238 := n3_; clear n0_ n1_ n2_ n3_; clear hb hbox hg) | ((with_reducible refine gate_callee (f := 26) rfl ?_); refine goesL_ (some 19) rfl rfl Try.func26 kx rfl #[] rfl aa ?_; (with_reducible refine (ephemerislaw1_plainMoon.calls  t239 t240 t241 t242 t243 t244 t245 t246 t247 t248 t251 _ A4.out).mono ?_); rintro e w8 ⟨v249, v252, rfl, ho0, ho1, hb⟩; refine ⟨_, rfl, ?_⟩; have n0_ := Aside0.mk (Kd.R_lower ho0 (below_size be)); have n1_ := Aside0.mk (Kd.R_lower ho1 (below_size be)); have n2_ := bb BK238 hb; have n3_ := Aside0.mk (below_step be hb); clear BK238; clear HB; have HO250 := n0_; have HO253 := n1_; have BK238 := n2_; have HB := n3_; clear n0_ n1_ n2_ n3_; (try clear hb); (try clear hb2); (try clear hk); (try clear hi); (try clear ho0); (try clear ho1); obtain ⟨Ao9, co9, eo9⟩ := Kd.R_slice HO250.out; subst eo9; obtain ⟨Ao10, co10, eo10⟩ := Kd.R_slice HO253.out; subst eo10) | ((with_reducible refine gate_callee (f := 25) rfl ?_); refine goesL_ (some 20) rfl rfl Try.func25 kx rfl #[.agg #[.string t239, .int .i64 t240, .int .i64 t241, .int .i64 t242, .int .i64 t243, .int .i64 t244, .int .i64 t245, .int .i64 t246, .int .i64 t247, .slice Ao9 t248.length co9, .slice Ao10 t251.length co10], .int .i64 1, .int .i64 1] rfl aa ?_; (with_reducible refine (observed_Of.calls k t239 t240 t241 t242 t243 t244 t245 t246 t247 _ _ t248 _ _ t251 1 1 t254 t255 t256 t259 t262 _ ?side1 ?side2 ?side3 ?side4 A5.out).mono ?_); (case side1 => repeat (first | exact (Kd.R_reads' HO250.out).2.2 | (with_reducible refine Kd.C_alloc ?_ _) | (with_reducible refine Kd.C_drewN ?_ _) | (with_reducible refine Kd.C_drew ?_))); (case side2 => exact (Kd.R_reads' HO250.out).2.1); (case side3 => repeat (first | exact (Kd.R_reads' HO253.out).2.2 | (with_reducible refine Kd.C_alloc ?_ _) | (with_reducible refine Kd.C_drewN ?_ _) | (with_reducible refine Kd.C_drew ?_))); (case side4 => exact (Kd.R_reads' HO253.out).2.1); rintro e w11 ⟨v257, v260, rfl, ho0, ho1, hb⟩; refine ⟨_, rfl, ?_⟩; have n0_ := Aside0.mk (Kd.R_mono (Kd.R_told (Kd.R_told (Kd.R_old (by (with_reducible repeat (first | apply Kd.R_alloc | apply Kd.R_drewN | apply Kd.R_drew)); exact HO250.out) hb) (Kd.R_base ho0)) (Kd.R_base ho1)) (fun _ h_ => h_.1)); have n1_ := Aside0.mk (Kd.R_mono (Kd.R_told (Kd.R_told (Kd.R_old (by (with_reducible repeat (first | apply Kd.R_alloc | apply Kd.R_drewN | apply Kd.R_drew)); exact HO253.out) hb) (Kd.R_base ho0)) (Kd.R_base ho1)) (fun _ h_ => h_.1)); have n2_ := Aside0.mk (Kd.R_lower (Kd.R_new' (Kd.R_new' ho0 (Kd.R_lt (by (with_reducible repeat (first | apply Kd.R_alloc | apply Kd.R_drewN | apply Kd.R_drew)); exact HO250.out))) (Kd.R_lt (by (with_reducible repeat (first | apply Kd.R_alloc | apply Kd.R_drewN | apply Kd.R_drew)); exact HO253.out))) (below_size be)); have n3_ := Aside0.mk (Kd.R_lower (Kd.R_new' (Kd.R_new' ho1 (Kd.R_lt (by (with_reducible repeat (first | apply Kd.R_alloc | apply Kd.R_drewN | apply Kd.R_drew)); exact HO250.out))) (Kd.R_lt (by (with_reducible repeat (first | apply Kd.R_alloc | apply Kd.R_drewN | apply Kd.R_drew)); exact HO253.out))) (below_size be)); have n4_ := bb BK238 hb; have n5_ := Aside0.mk (below_step be hb); clear HO250; clear HO253; clear BK238; clear HB; have HO250 := n0_; have HO253 := n1_; have HO258 := n2_; have HO261 := n3_; have BK238 := n4_; have HB := n5_; clear n0_ n1_ n2_ n3_ n4_ n5_; (try clear hb); (try clear hb2); (try clear hk); (try clear hi); (try clear ho0); (try clear ho1)) | ((with_reducible refine gate_dst (N := 7) rfl ?_); (try (refine gate_guard (by rfl) ?_; dsimp only)); refine box_event ?hg (N := 7) ?hd (cs := #[.string (⟨#[]⟩ : ByteArray), .int .i64 0, .slice none 0 0, .slice none 0 0]) (t := 24) ?hr ?_; (case hd => rfl); (case hg => rfl); (case hr => first | (go_simp; done) | (go_simp; rfl)); intro gb263 hg w12 hbox hb; have n0_ := Aside0.mk (Kd.R_below (by (with_reducible repeat (first | apply Kd.R_alloc | apply Kd.R_drewN | apply Kd.R_drew)); exact HO250.out) hb); have n1_ := Aside0.mk (Kd.R_below (by (with_reducible repeat (first | apply Kd.R_alloc | apply Kd.R_drewN | apply Kd.R_drew)); exact HO253.out) hb); have n2_ := Aside0.mk (Kd.R_below (by (with_reducible repeat (first | apply Kd.R_alloc | apply Kd.R_drewN | apply Kd.R_drew)); exact HO258.out) hb); have n3_ := Aside0.mk (Kd.R_below (by (with_reducible repeat (first | apply Kd.R_alloc | apply Kd.R_drewN | apply Kd.R_drew)); exact HO261.out) hb); have n4_ := bb BK238 hb; have n5_ := Aside0.mk (below_step be hb); have n6_ := Aside0.mk (hbox); have n7_ := gs hg HB; have n8_ := n7_; have n9_ := nl BK238 hg; have n10_ := ns n9_; clear HO250; clear HO253; clear HO258; clear HO261; clear BK238; clear HB; have HO250 := n0_; have HO253 := n1_; have HO258 := n2_; have HO261 := n3_; have BK238 := n4_; have HB := n5_; have BK263 := n6_; have GW263 := n7_; have GE263 := n8_; have NB238_263 := n9_; have NB263_238 := n10_; clear n0_ n1_ n2_ n3_ n4_ n5_ n6_ n7_ n8_ n9_ n10_; clear hb hbox hg; have hnb13 := NB263_238.out; have hnc13 := NB238_263.out; obtain ⟨hcz14_0, hcz14_1, hcz14_2, hcz14_3, hfz14_0, hfz14_1, hfz14_2, hfz14_3⟩ := bc4 BK263; obtain ⟨Ao15, co15, eo15⟩ := Kd.R_slice HO258.out; subst eo15; obtain ⟨Ao16, co16, eo16⟩ := Kd.R_slice HO261.out; subst eo16))
 (try simp only [Act.put, List.setIfInBounds_toArray, List.set_cons_zero, List.set_cons_succ])
 go_cut [44] (fun v44 wc => ∃ (kq : Nat) (x44_5 : Bool), v44 = .bool x44_5 ∧ Aside0 (ephemerislaw1_ObservedOfs.j0 kq a1 a2 x44_5 a0_0 a0_1 a0_2 a0_3 a0_4 a0_5 a0_6 a0_7 a0_8 l0_9 l0_10 = some r) ∧ Aside0 (kq ≤ k) ∧ Aside0 (Kd.R (Kd.int .i64) 3 wc w.heap.size (fun k_ => some k_ ≠ ((.slice Ao16 t259.length co16) : Value).ownBlock) (.slice Ao15 t256.length co15) t256) ∧ Aside0 (Kd.R (Kd.int .i64) 3 wc w.heap.size (fun k_ => some k_ ≠ ((.slice Ao15 t256.length co15) : Value).ownBlock) (.slice Ao16 t259.length co16) t259) ∧ Aside0 (wc.heap[gb238]? = some (.cells #[.string a0_0, .int .i64 a0_1, .int .i64 a0_2, .int .i64 a0_3, .int .i64 a0_4, .int .i64 a0_5, .int .i64 a0_6, .int .i64 a0_7, .int .i64 a0_8, (.slice A0_9 l0_9.length c0_9), (.slice A0_10 l0_10.length c0_10)] 60 (0, 0))) ∧ Aside0 (wc.heap[gb263]? = some (.cells #[.string t254, .int .i64 t255, (.slice Ao15 t256.length co15), (.slice Ao16 t259.length co16)] 24 (0, 0))) ∧ Aside0 (Below w.heap.size w wc))
 case first =>
  have H := HC6.out
  clear HC6
  by_cases c17 : t262 = 0
  ·rw [if_pos c17] at H
   have c17b0 : (t262 == 0) = true := beq_iff_eq.mpr c17
   have c17b1 : (t262 != 0) = false := bne_eq_false_iff_eq.mpr c17
   clear c17
   (first | rw [c17b0] | (simp only [i64_w, i32_w]; rw [c17b0]) | skip)
   by_cases c18 : (t259.length : Int) = 13
   ·rw [if_pos c18] at H
    have c18b0 : ((t259.length : Int) == 13) = true := beq_iff_eq.mpr c18
    have c18b1 : ((t259.length : Int) != 13) = false := bne_eq_false_iff_eq.mpr c18
    clear c18
    by_cases c19 : 1 < (t259.length : Int)
    ·rw [if_pos c19] at H
     have c19b0 : decide (1 < (t259.length : Int)) = true := decide_eq_true c19
     have c19b1 : decide (1 < t259.length) = true := decide_eq_true (by omega)
     clear c19
     by_cases c20 : (rd t259 1) = 30
     ·rw [if_pos c20] at H
      have c20b0 : ((rd t259 1) == 30) = true := beq_iff_eq.mpr c20
      have c20b1 : ((rd t259 1) != 30) = false := bne_eq_false_iff_eq.mpr c20
      clear c20
      by_cases c21 : 12 < (t259.length : Int)
      ·rw [if_pos c21] at H
       have c21b0 : decide (12 < (t259.length : Int)) = true := decide_eq_true c21
       have c21b1 : decide (12 < t259.length) = true := decide_eq_true (by omega)
       clear c21
       have H' := Aside0.mk H
       clear H
       have hnb22 := NB263_238.out
       have hnc22 := NB238_263.out
       obtain ⟨hcz23_0, hcz23_1, hcz23_2, hcz23_3, hfz23_0, hfz23_1, hfz23_2, hfz23_3⟩ := bc4 BK263
       have p264 : 0 ≤ (1 : Int) := (by omega)
       have q264 : 1 < (t259.length : Int) := of_decide_eq_true ka
       obtain ⟨ad264, e264, hx264_0⟩ := Kd.at_int (Kd.R_reads' HO261.out).2.2 1 p264 q264
       cases e264
       (try simp only [show (1 : Int).toNat = 1 from rfl, Nat.reduceMul, Nat.reduceEqDiff, Go.Addr.add, ↓reduceIte] at hx264_0)
       have qi264 : (1 < t259.length) = True := eq_true (by omega)
       (try rw [show ((1 : Int)).toNat = 1 from rfl] at hx264_0)
       have hn264_0 : ad264.block ≠ gb263 := Kd.own_blk (Kd.R_ne HO261.out BK263.out (by decide))
       have hn264_1 : ad264.block ≠ gb263 := Kd.own_blk (Kd.R_ne HO261.out BK263.out (by decide))
       have hn264_2 : ad264.block ≠ gb263 := Kd.own_blk (Kd.R_ne HO261.out BK263.out (by decide))
       have hn264_3 : ad264.block ≠ gb263 := Kd.own_blk (Kd.R_ne HO261.out BK263.out (by decide))
       replace hx264_0 := (cell_far (p := ⟨gb263, 0, none⟩) (by first | (rw [add_block]; exact hn264_0) | (show (Addr.add _ _).block ≠ _; rw [add_block]; exact hn264_0) | exact hn264_0) (.string t254)).trans hx264_0
       replace hx264_0 := (cell_far (p := ⟨gb263, 1, none⟩) (by first | (rw [add_block]; exact hn264_1) | (show (Addr.add _ _).block ≠ _; rw [add_block]; exact hn264_1) | exact hn264_1) (.int .i64 t255)).trans hx264_0
       replace hx264_0 := (cell_far (p := ⟨gb263, 2, none⟩) (by first | (rw [add_block]; exact hn264_2) | (show (Addr.add _ _).block ≠ _; rw [add_block]; exact hn264_2) | exact hn264_2) (.slice Ao15 t256.length co15)).trans hx264_0
       replace hx264_0 := (cell_far (p := ⟨gb263, 3, none⟩) (by first | (rw [add_block]; exact hn264_3) | (show (Addr.add _ _).block ≠ _; rw [add_block]; exact hn264_3) | exact hn264_3) (.slice (some ad264) t259.length co16)).trans hx264_0
       clear hn264_0
       clear hn264_1
       clear hn264_2
       clear hn264_3
       replace p264 := eq_true p264
       replace q264 := eq_true q264
       have p265 : 0 ≤ (12 : Int) := (by omega)
       have q265 : 12 < (t259.length : Int) := of_decide_eq_true ka
       obtain ⟨ad265, e265, hx265_0⟩ := Kd.at_int (Kd.R_reads' HO261.out).2.2 12 p265 q265
       obtain rfl : ad264 = ad265 := (by injection e265)
       (try simp only [show (12 : Int).toNat = 12 from rfl, Nat.reduceMul, Nat.reduceEqDiff, Go.Addr.add, ↓reduceIte] at hx265_0)
       have qi265 : (12 < t259.length) = True := eq_true (by omega)
       (try rw [show ((12 : Int)).toNat = 12 from rfl] at hx265_0)
       have hn265_0 : ad264.block ≠ gb263 := Kd.own_blk (Kd.R_ne HO261.out BK263.out (by decide))
       have hn265_1 : ad264.block ≠ gb263 := Kd.own_blk (Kd.R_ne HO261.out BK263.out (by decide))
       have hn265_2 : ad264.block ≠ gb263 := Kd.own_blk (Kd.R_ne HO261.out BK263.out (by decide))
       have hn265_3 : ad264.block ≠ gb263 := Kd.own_blk (Kd.R_ne HO261.out BK263.out (by decide))
       replace hx265_0 := (cell_far (p := ⟨gb263, 0, none⟩) (by first | (rw [add_block]; exact hn265_0) | (show (Addr.add _ _).block ≠ _; rw [add_block]; exact hn265_0) | exact hn265_0) (.string t254)).trans hx265_0
       replace hx265_0 := (cell_far (p := ⟨gb263, 1, none⟩) (by first | (rw [add_block]; exact hn265_1) | (show (Addr.add _ _).block ≠ _; rw [add_block]; exact hn265_1) | exact hn265_1) (.int .i64 t255)).trans hx265_0
       replace hx265_0 := (cell_far (p := ⟨gb263, 2, none⟩) (by first | (rw [add_block]; exact hn265_2) | (show (Addr.add _ _).block ≠ _; rw [add_block]; exact hn265_2) | exact hn265_2) (.slice Ao15 t256.length co15)).trans hx265_0
       replace hx265_0 := (cell_far (p := ⟨gb263, 3, none⟩) (by first | (rw [add_block]; exact hn265_3) | (show (Addr.add _ _).block ≠ _; rw [add_block]; exact hn265_3) | exact hn265_3) (.slice (some ad264) t259.length co16)).trans hx265_0
       clear hn265_0
       clear hn265_1
       clear hn265_2
       clear hn265_3
       replace p265 := eq_true p265
       replace q265 := eq_true q265
       go_wp2
       go_meet
       case rel => exact ⟨_, (((rd t259 12) != 355)), rs, H', ⟨by first | omega | exact Nat.le_refl _⟩, ⟨by (with_reducible repeat (first | apply Kd.R_alloc | apply Kd.R_drewN | apply Kd.R_drew)); exact Kd.R_mono (Kd.R_far (p := ⟨gb263, 3, none⟩) (Kd.R_far (p := ⟨gb263, 2, none⟩) (Kd.R_far (p := ⟨gb263, 1, none⟩) (Kd.R_far (p := ⟨gb263, 0, none⟩) (Kd.R_types HO258.out BK263.out (by decide)) (fun _ hk => hk.2) (.string t254)) (fun _ hk => hk.2) (.int .i64 t255)) (fun _ hk => hk.2) (.slice Ao15 t256.length co15)) (fun _ hk => hk.2) (.slice (some ad264) t259.length co16)) (fun _ hk => hk.1.1.1)⟩, ⟨by (with_reducible repeat (first | apply Kd.R_alloc | apply Kd.R_drewN | apply Kd.R_drew)); exact Kd.R_mono (Kd.R_far (p := ⟨gb263, 3, none⟩) (Kd.R_far (p := ⟨gb263, 2, none⟩) (Kd.R_far (p := ⟨gb263, 1, none⟩) (Kd.R_far (p := ⟨gb263, 0, none⟩) (Kd.R_types HO261.out BK263.out (by decide)) (fun _ hk => hk.2) (.string t254)) (fun _ hk => hk.2) (.int .i64 t255)) (fun _ hk => hk.2) (.slice Ao15 t256.length co15)) (fun _ hk => hk.2) (.slice (some ad264) t259.length co16)) (fun _ hk => hk.1.1.1)⟩, ⟨bk BK238⟩, ⟨bk BK263⟩, ⟨be⟩⟩
      ·rw [if_neg c21] at H
       exact absurd H (by simp)
     ·rw [if_neg c20] at H
      have c20b0 : ((rd t259 1) == 30) = false := beq_eq_false_iff_ne.mpr c20
      have c20b1 : ((rd t259 1) != 30) = true := bne_iff_ne.mpr c20
      have H' := Aside0.mk H
      clear H
      have hnb24 := NB263_238.out
      have hnc24 := NB238_263.out
      obtain ⟨hcz25_0, hcz25_1, hcz25_2, hcz25_3, hfz25_0, hfz25_1, hfz25_2, hfz25_3⟩ := bc4 BK263
      have p264 : 0 ≤ (1 : Int) := (by omega)
      have q264 : 1 < (t259.length : Int) := of_decide_eq_true ka
      obtain ⟨ad264, e264, hx264_0⟩ := Kd.at_int (Kd.R_reads' HO261.out).2.2 1 p264 q264
      cases e264
      (try simp only [show (1 : Int).toNat = 1 from rfl, Nat.reduceMul, Nat.reduceEqDiff, Go.Addr.add, ↓reduceIte] at hx264_0)
      have qi264 : (1 < t259.length) = True := eq_true (by omega)
      (try rw [show ((1 : Int)).toNat = 1 from rfl] at hx264_0)
      have hn264_0 : ad264.block ≠ gb263 := Kd.own_blk (Kd.R_ne HO261.out BK263.out (by decide))
      have hn264_1 : ad264.block ≠ gb263 := Kd.own_blk (Kd.R_ne HO261.out BK263.out (by decide))
      have hn264_2 : ad264.block ≠ gb263 := Kd.own_blk (Kd.R_ne HO261.out BK263.out (by decide))
      have hn264_3 : ad264.block ≠ gb263 := Kd.own_blk (Kd.R_ne HO261.out BK263.out (by decide))
      replace hx264_0 := (cell_far (p := ⟨gb263, 0, none⟩) (by first | (rw [add_block]; exact hn264_0) | (show (Addr.add _ _).block ≠ _; rw [add_block]; exact hn264_0) | exact hn264_0) (.string t254)).trans hx264_0
      replace hx264_0 := (cell_far (p := ⟨gb263, 1, none⟩) (by first | (rw [add_block]; exact hn264_1) | (show (Addr.add _ _).block ≠ _; rw [add_block]; exact hn264_1) | exact hn264_1) (.int .i64 t255)).trans hx264_0
      replace hx264_0 := (cell_far (p := ⟨gb263, 2, none⟩) (by first | (rw [add_block]; exact hn264_2) | (show (Addr.add _ _).block ≠ _; rw [add_block]; exact hn264_2) | exact hn264_2) (.slice Ao15 t256.length co15)).trans hx264_0
      replace hx264_0 := (cell_far (p := ⟨gb263, 3, none⟩) (by first | (rw [add_block]; exact hn264_3) | (show (Addr.add _ _).block ≠ _; rw [add_block]; exact hn264_3) | exact hn264_3) (.slice (some ad264) t259.length co16)).trans hx264_0
      clear hn264_0
      clear hn264_1
      clear hn264_2
      clear hn264_3
      replace p264 := eq_true p264
      replace q264 := eq_true q264
      go_wp2
      go_meet
      case rel => exact ⟨_, (true), rs, H', ⟨by first | omega | exact Nat.le_refl _⟩, ⟨by (with_reducible repeat (first | apply Kd.R_alloc | apply Kd.R_drewN | apply Kd.R_drew)); exact Kd.R_mono (Kd.R_far (p := ⟨gb263, 3, none⟩) (Kd.R_far (p := ⟨gb263, 2, none⟩) (Kd.R_far (p := ⟨gb263, 1, none⟩) (Kd.R_far (p := ⟨gb263, 0, none⟩) (Kd.R_types HO258.out BK263.out (by decide)) (fun _ hk => hk.2) (.string t254)) (fun _ hk => hk.2) (.int .i64 t255)) (fun _ hk => hk.2) (.slice Ao15 t256.length co15)) (fun _ hk => hk.2) (.slice (some ad264) t259.length co16)) (fun _ hk => hk.1.1.1)⟩, ⟨by (with_reducible repeat (first | apply Kd.R_alloc | apply Kd.R_drewN | apply Kd.R_drew)); exact Kd.R_mono (Kd.R_far (p := ⟨gb263, 3, none⟩) (Kd.R_far (p := ⟨gb263, 2, none⟩) (Kd.R_far (p := ⟨gb263, 1, none⟩) (Kd.R_far (p := ⟨gb263, 0, none⟩) (Kd.R_types HO261.out BK263.out (by decide)) (fun _ hk => hk.2) (.string t254)) (fun _ hk => hk.2) (.int .i64 t255)) (fun _ hk => hk.2) (.slice Ao15 t256.length co15)) (fun _ hk => hk.2) (.slice (some ad264) t259.length co16)) (fun _ hk => hk.1.1.1)⟩, ⟨bk BK238⟩, ⟨bk BK263⟩, ⟨be⟩⟩
    ·rw [if_neg c19] at H
     exact absurd H (by simp)
   ·rw [if_neg c18] at H
    have c18b0 : ((t259.length : Int) == 13) = false := beq_eq_false_iff_ne.mpr c18
    have c18b1 : ((t259.length : Int) != 13) = true := bne_iff_ne.mpr c18
    have H' := Aside0.mk H
    clear H
    have hnb26 := NB263_238.out
    have hnc26 := NB238_263.out
    obtain ⟨hcz27_0, hcz27_1, hcz27_2, hcz27_3, hfz27_0, hfz27_1, hfz27_2, hfz27_3⟩ := bc4 BK263
    go_wp2
    go_meet
    case rel => exact ⟨_, (true), rs, H', ⟨by first | omega | exact Nat.le_refl _⟩, ⟨by (with_reducible repeat (first | apply Kd.R_alloc | apply Kd.R_drewN | apply Kd.R_drew)); exact Kd.R_mono (Kd.R_far (p := ⟨gb263, 3, none⟩) (Kd.R_far (p := ⟨gb263, 2, none⟩) (Kd.R_far (p := ⟨gb263, 1, none⟩) (Kd.R_far (p := ⟨gb263, 0, none⟩) (Kd.R_types HO258.out BK263.out (by decide)) (fun _ hk => hk.2) (.string t254)) (fun _ hk => hk.2) (.int .i64 t255)) (fun _ hk => hk.2) (.slice Ao15 t256.length co15)) (fun _ hk => hk.2) (.slice Ao16 t259.length co16)) (fun _ hk => hk.1.1.1)⟩, ⟨by (with_reducible repeat (first | apply Kd.R_alloc | apply Kd.R_drewN | apply Kd.R_drew)); exact Kd.R_mono (Kd.R_far (p := ⟨gb263, 3, none⟩) (Kd.R_far (p := ⟨gb263, 2, none⟩) (Kd.R_far (p := ⟨gb263, 1, none⟩) (Kd.R_far (p := ⟨gb263, 0, none⟩) (Kd.R_types HO261.out BK263.out (by decide)) (fun _ hk => hk.2) (.string t254)) (fun _ hk => hk.2) (.int .i64 t255)) (fun _ hk => hk.2) (.slice Ao15 t256.length co15)) (fun _ hk => hk.2) (.slice Ao16 t259.length co16)) (fun _ hk => hk.1.1.1)⟩, ⟨bk BK238⟩, ⟨bk BK263⟩, ⟨be⟩⟩
  ·rw [if_neg c17] at H
   have c17b0 : (t262 == 0) = false := beq_eq_false_iff_ne.mpr c17
   have c17b1 : (t262 != 0) = true := bne_iff_ne.mpr c17
   (first | rw [c17b0] | (simp only [i64_w, i32_w]; rw [c17b0]) | skip)
   have H' := Aside0.mk H
   clear H
   go_wp2
   go_meet
   case rel => exact ⟨_, (true), rs, H', ⟨by first | omega | exact Nat.le_refl _⟩, ⟨by (with_reducible repeat (first | apply Kd.R_alloc | apply Kd.R_drewN | apply Kd.R_drew)); exact Kd.R_mono (Kd.R_far (p := ⟨gb263, 3, none⟩) (Kd.R_far (p := ⟨gb263, 2, none⟩) (Kd.R_far (p := ⟨gb263, 1, none⟩) (Kd.R_far (p := ⟨gb263, 0, none⟩) (Kd.R_types HO258.out BK263.out (by decide)) (fun _ hk => hk.2) (.string t254)) (fun _ hk => hk.2) (.int .i64 t255)) (fun _ hk => hk.2) (.slice Ao15 t256.length co15)) (fun _ hk => hk.2) (.slice Ao16 t259.length co16)) (fun _ hk => hk.1.1.1)⟩, ⟨by (with_reducible repeat (first | apply Kd.R_alloc | apply Kd.R_drewN | apply Kd.R_drew)); exact Kd.R_mono (Kd.R_far (p := ⟨gb263, 3, none⟩) (Kd.R_far (p := ⟨gb263, 2, none⟩) (Kd.R_far (p := ⟨gb263, 1, none⟩) (Kd.R_far (p := ⟨gb263, 0, none⟩) (Kd.R_types HO261.out BK263.out (by decide)) (fun _ hk => hk.2) (.string t254)) (fun _ hk => hk.2) (.int .i64 t255)) (fun _ hk => hk.2) (.slice Ao15 t256.length co15)) (fun _ hk => hk.2) (.slice Ao16 t259.length co16)) (fun _ hk => hk.1.1.1)⟩, ⟨bk BK238⟩, ⟨bk BK263⟩, ⟨be⟩⟩
 case rest =>
  clear HC6
  (try clear c1); (try clear c2); (try clear p2); (try clear q2); (try clear hx2); (try clear qi2); (try clear c6); (try clear c13); (try clear c17); (try clear c17b0); (try clear c17b1); (try clear c18); (try clear c18b0); (try clear c18b1); (try clear c19); (try clear c19b0); (try clear c19b1); (try clear c20); (try clear c20b0); (try clear c20b1); (try clear c21); (try clear c21b0); (try clear c21b1); (try clear c22); (try clear c24); (try clear c25); (try clear c26); (try clear p26); (try clear q26); (try clear hx26); (try clear qi26); (try clear hcz14_0); (try clear hcz14_1); (try clear hcz14_2); (try clear hcz14_3); (try clear hcz23_0); (try clear hcz23_1); (try clear hcz23_2); (try clear hcz23_3); (try clear hcz25_0); (try clear hcz25_1); (try clear hcz25_2); (try clear hcz25_3); (try clear hcz27_0); (try clear hcz27_1); (try clear hcz27_2); (try clear hcz27_3); (try clear hfz14_0); (try clear hfz14_1); (try clear hfz14_2); (try clear hfz14_3); (try clear hfz23_0); (try clear hfz23_1); (try clear hfz23_2); (try clear hfz23_3); (try clear hfz25_0); (try clear hfz25_1); (try clear hfz25_2); (try clear hfz25_3); (try clear hfz27_0); (try clear hfz27_1); (try clear hfz27_2); (try clear hfz27_3); (try clear hx264_0); (try clear hx265_0); (try clear p264); (try clear p265); (try clear q264); (try clear q265)
  obtain ⟨kq, x44_5, rfl, HA, HJ5, HO_264002, HO_264003, BK238, BK263, HB⟩ := hcut
  cases kq with
  | zero => exact absurd HA.out (by simp [ephemerislaw1_ObservedOfs.j0])
  | succ kj5 =>
   have H := HA.out
   clear HA
   simp only [ephemerislaw1_ObservedOfs.j0] at H
   by_cases c28 : x44_5 = true
   ·subst c28
    have H1 : (some false) = some r := by rw [if_pos rfl] at H; exact H
    clear H
    have H := H1
    clear H1
    obtain rfl := Option.some.inj H
    go_wp2
    go_ret
    exact ⟨by first | rfl | (simp [errW_none, errW_some] <;> rfl) | (simp [*, errW_none, errW_some] <;> rfl), be⟩
   ·replace c28 := Bool.eq_false_iff.mpr c28
    subst c28
    have H1 : (if a2 > 4 then (ephemerislaw1_ObservedOfs.j1 kj5 a1 a2 (decide (a2 ≤ 40)) a0_0 a0_1 a0_2 a0_3 a0_4 a0_5 a0_6 a0_7 a0_8 l0_9 l0_10) else (ephemerislaw1_ObservedOfs.j1 kj5 a1 a2 false a0_0 a0_1 a0_2 a0_3 a0_4 a0_5 a0_6 a0_7 a0_8 l0_9 l0_10)) = some r := by rw [if_neg (show ¬ (false = true) by decide)] at H; exact H
    clear H
    have H := H1
    clear H1
    have HC29 := Aside0.mk H
    clear H
    go_upto_region 4 with (fail)
    go_cut [50] (fun v50 wc => ∃ (kq : Nat) (x50_28 : Bool), v50 = .bool x50_28 ∧ Aside0 (ephemerislaw1_ObservedOfs.j1 kq a1 a2 x50_28 a0_0 a0_1 a0_2 a0_3 a0_4 a0_5 a0_6 a0_7 a0_8 l0_9 l0_10 = some r) ∧ Aside0 (kq ≤ kj5) ∧ Aside0 (Kd.R (Kd.int .i64) 3 wc w.heap.size (fun k_ => some k_ ≠ ((.slice Ao16 t259.length co16) : Value).ownBlock) (.slice Ao15 t256.length co15) t256) ∧ Aside0 (Kd.R (Kd.int .i64) 3 wc w.heap.size (fun k_ => some k_ ≠ ((.slice Ao15 t256.length co15) : Value).ownBlock) (.slice Ao16 t259.length co16) t259) ∧ Aside0 (wc.heap[gb238]? = some (.cells #[.string a0_0, .int .i64 a0_1, .int .i64 a0_2, .int .i64 a0_3, .int .i64 a0_4, .int .i64 a0_5, .int .i64 a0_6, .int .i64 a0_7, .int .i64 a0_8, (.slice A0_9 l0_9.length c0_9), (.slice A0_10 l0_10.length c0_10)] 60 (0, 0))) ∧ Aside0 (wc.heap[gb263]? = some (.cells #[.string t254, .int .i64 t255, (.slice Ao15 t256.length co15), (.slice Ao16 t259.length co16)] 24 (0, 0))) ∧ Aside0 (Below w.heap.size w wc))
    case first =>
     have H := HC29.out
     clear HC29
     by_cases c30 : a2 > 4
     ·rw [if_pos c30] at H
      have c30b0 : decide (4 < a2) = true := decide_eq_true c30
      clear c30
      (first | rw [c30b0] | (simp only [i64_w, i32_w]; rw [c30b0]) | skip)
      have H' := Aside0.mk H
      clear H
      go_wp2
      go_meet
      case rel => exact ⟨_, (decide (a2 ≤ 40)), rs, H', ⟨by have := HJ5.out; first | omega | exact Nat.le_refl _⟩, ⟨by (with_reducible repeat (first | apply Kd.R_alloc | apply Kd.R_drewN | apply Kd.R_drew)); exact HO_264002.out⟩, ⟨by (with_reducible repeat (first | apply Kd.R_alloc | apply Kd.R_drewN | apply Kd.R_drew)); exact HO_264003.out⟩, ⟨bk BK238⟩, ⟨bk BK263⟩, ⟨be⟩⟩
     ·rw [if_neg c30] at H
      have c30b0 : decide (4 < a2) = false := decide_eq_false c30
      clear c30
      (first | rw [c30b0] | (simp only [i64_w, i32_w]; rw [c30b0]) | skip)
      have H' := Aside0.mk H
      clear H
      go_wp2
      go_meet
      case rel => exact ⟨_, (false), rs, H', ⟨by have := HJ5.out; first | omega | exact Nat.le_refl _⟩, ⟨by (with_reducible repeat (first | apply Kd.R_alloc | apply Kd.R_drewN | apply Kd.R_drew)); exact HO_264002.out⟩, ⟨by (with_reducible repeat (first | apply Kd.R_alloc | apply Kd.R_drewN | apply Kd.R_drew)); exact HO_264003.out⟩, ⟨bk BK238⟩, ⟨bk BK263⟩, ⟨be⟩⟩
    case rest =>
     clear HC29
     (try clear c1); (try clear c2); (try clear p2); (try clear q2); (try clear hx2); (try clear qi2); (try clear c3); (try clear c6); (try clear c13); (try clear c17); (try clear c17b0); (try clear c17b1); (try clear c18); (try clear c18b0); (try clear c18b1); (try clear c19); (try clear c19b0); (try clear c19b1); (try clear c20); (try clear c20b0); (try clear c20b1); (try clear c21); (try clear c21b0); (try clear c21b1); (try clear c22); (try clear c24); (try clear c25); (try clear c26); (try clear p26); (try clear q26); (try clear hx26); (try clear qi26); (try clear c28); (try clear c30); (try clear c30b0); (try clear hcz14_0); (try clear hcz14_1); (try clear hcz14_2); (try clear hcz14_3); (try clear hcz23_0); (try clear hcz23_1); (try clear hcz23_2); (try clear hcz23_3); (try clear hcz25_0); (try clear hcz25_1); (try clear hcz25_2); (try clear hcz25_3); (try clear hcz27_0); (try clear hcz27_1); (try clear hcz27_2); (try clear hcz27_3); (try clear hfz14_0); (try clear hfz14_1); (try clear hfz14_2); (try clear hfz14_3); (try clear hfz23_0); (try clear hfz23_1); (try clear hfz23_2); (try clear hfz23_3); (try clear hfz25_0); (try clear hfz25_1); (try clear hfz25_2); (try clear hfz25_3); (try clear hfz27_0); (try clear hfz27_1); (try clear hfz27_2); (try clear hfz27_3); (try clear hx264_0); (try clear hx265_0); (try clear p2); (try clear p26); (try clear p264); (try clear p265); (try clear q2); (try clear q26); (try clear q264); (try clear q265)
     obtain ⟨kq, x50_28, rfl, HA, HJ28, HO_264002, HO_264003, BK238, BK263, HB⟩ := hcut
     cases kq with
     | zero => exact absurd HA.out (by simp [ephemerislaw1_ObservedOfs.j1])
     | succ kj28 =>
      have H := HA.out
      clear HA
      simp only [ephemerislaw1_ObservedOfs.j1] at H
      have HC31 := Aside0.mk H
      clear H
      go_upto_if 50 with (fail)
      go_cut [2] (fun v2 wc => ∃ (kq : Nat) (x2_30 : Int), v2 = .int .i64 x2_30 ∧ Aside0 (ephemerislaw1_ObservedOfs.j2 kq a1 x2_30 a0_0 a0_1 a0_2 a0_3 a0_4 a0_5 a0_6 a0_7 a0_8 l0_9 l0_10 = some r) ∧ Aside0 (kq ≤ kj28) ∧ Aside0 (Kd.R (Kd.int .i64) 3 wc w.heap.size (fun k_ => some k_ ≠ ((.slice Ao16 t259.length co16) : Value).ownBlock) (.slice Ao15 t256.length co15) t256) ∧ Aside0 (Kd.R (Kd.int .i64) 3 wc w.heap.size (fun k_ => some k_ ≠ ((.slice Ao15 t256.length co15) : Value).ownBlock) (.slice Ao16 t259.length co16) t259) ∧ Aside0 (wc.heap[gb238]? = some (.cells #[.string a0_0, .int .i64 a0_1, .int .i64 a0_2, .int .i64 a0_3, .int .i64 a0_4, .int .i64 a0_5, .int .i64 a0_6, .int .i64 a0_7, .int .i64 a0_8, (.slice A0_9 l0_9.length c0_9), (.slice A0_10 l0_10.length c0_10)] 60 (0, 0))) ∧ Aside0 (wc.heap[gb263]? = some (.cells #[.string t254, .int .i64 t255, (.slice Ao15 t256.length co15), (.slice Ao16 t259.length co16)] 24 (0, 0))) ∧ Aside0 (Below w.heap.size w wc))
      case first =>
       have H := HC31.out
       clear HC31
       by_cases c32 : x50_28 = true
       ·subst c32
        have H1 : (ephemerislaw1_ObservedOfs.j2 kj28 a1 (wrap64 ((Int.tmod a2 4) + 1)) a0_0 a0_1 a0_2 a0_3 a0_4 a0_5 a0_6 a0_7 a0_8 l0_9 l0_10) = some r := by rw [if_pos rfl] at H; exact H
        clear H
        have H := H1
        clear H1
        have H' := Aside0.mk H
        clear H
        go_wp2
        go_meet
        case rel => exact ⟨_, (wrap64 ((Int.tmod a2 4) + 1)), rs, H', ⟨by have := HJ5.out; have := HJ28.out; first | omega | exact Nat.le_refl _⟩, ⟨by (with_reducible repeat (first | apply Kd.R_alloc | apply Kd.R_drewN | apply Kd.R_drew)); exact HO_264002.out⟩, ⟨by (with_reducible repeat (first | apply Kd.R_alloc | apply Kd.R_drewN | apply Kd.R_drew)); exact HO_264003.out⟩, ⟨bk BK238⟩, ⟨bk BK263⟩, ⟨be⟩⟩
       ·replace c32 := Bool.eq_false_iff.mpr c32
        subst c32
        have H1 : (ephemerislaw1_ObservedOfs.j2 kj28 a1 a2 a0_0 a0_1 a0_2 a0_3 a0_4 a0_5 a0_6 a0_7 a0_8 l0_9 l0_10) = some r := by rw [if_neg (show ¬ (false = true) by decide)] at H; exact H
        clear H
        have H := H1
        clear H1
        have H' := Aside0.mk H
        clear H
        go_wp2
        go_meet
        case rel => exact ⟨_, (a2), rs, H', ⟨by have := HJ5.out; have := HJ28.out; first | omega | exact Nat.le_refl _⟩, ⟨by (with_reducible repeat (first | apply Kd.R_alloc | apply Kd.R_drewN | apply Kd.R_drew)); exact HO_264002.out⟩, ⟨by (with_reducible repeat (first | apply Kd.R_alloc | apply Kd.R_drewN | apply Kd.R_drew)); exact HO_264003.out⟩, ⟨bk BK238⟩, ⟨bk BK263⟩, ⟨be⟩⟩
      case rest =>
       clear HC31
       (try clear c1); (try clear c2); (try clear p2); (try clear q2); (try clear hx2); (try clear qi2); (try clear c3); (try clear c6); (try clear p6); (try clear c13); (try clear c17); (try clear c17b0); (try clear c17b1); (try clear c18); (try clear c18b0); (try clear c18b1); (try clear c19); (try clear c19b0); (try clear c19b1); (try clear c20); (try clear c20b0); (try clear c20b1); (try clear c21); (try clear c21b0); (try clear c21b1); (try clear c22); (try clear c24); (try clear c25); (try clear c26); (try clear p26); (try clear q26); (try clear hx26); (try clear qi26); (try clear c28); (try clear c30); (try clear c30b0); (try clear c32); (try clear hcz14_0); (try clear hcz14_1); (try clear hcz14_2); (try clear hcz14_3); (try clear hcz23_0); (try clear hcz23_1); (try clear hcz23_2); (try clear hcz23_3); (try clear hcz25_0); (try clear hcz25_1); (try clear hcz25_2); (try clear hcz25_3); (try clear hcz27_0); (try clear hcz27_1); (try clear hcz27_2); (try clear hcz27_3); (try clear hfz14_0); (try clear hfz14_1); (try clear hfz14_2); (try clear hfz14_3); (try clear hfz23_0); (try clear hfz23_1); (try clear hfz23_2); (try clear hfz23_3); (try clear hfz25_0); (try clear hfz25_1); (try clear hfz25_2); (try clear hfz25_3); (try clear hfz27_0); (try clear hfz27_1); (try clear hfz27_2); (try clear hfz27_3); (try clear hx264_0); (try clear hx265_0); (try clear p2); (try clear p26); (try clear p264); (try clear p265); (try clear q2); (try clear q26); (try clear q264); (try clear q265)
       obtain ⟨kq, x2_30, rfl, HA, HJ30, HO_264002, HO_264003, BK238, BK263, HB⟩ := hcut
       cases kq with
       | zero => exact absurd HA.out (by simp [ephemerislaw1_ObservedOfs.j2])
       | succ kj30 =>
        have H := HA.out
        clear HA
        simp only [ephemerislaw1_ObservedOfs.j2] at H
        replace H := Option.bind_eq_some_iff.mp H
        obtain ⟨⟨t266, t267, t268, t271, t274⟩, A330, H⟩ := H
        replace H : ((ephemerisref1_MoonError.f kj30 a0_0 a0_1 a0_2 a0_3 a0_4 a0_5 a0_6 a0_7 a0_8 l0_9 l0_10).bind fun t276 => (if t276 = 0 then ((ephemerisref1_In.f x2_30 1 40).bind fun t277 => (if t277 = true then ((ephemerisref1_In.f a1 (-10000) 9960).bind fun t278 => (if t278 = true then (ephemerislaw1_ObservedOfs.j3 kj30 a1 x2_30 t274 t276 a0_0 a0_1 a0_2 a0_3 a0_4 a0_5 a0_6 a0_7 a0_8 l0_9 l0_10 t266 t267 t268 t271) else (ephemerislaw1_ObservedOfs.j3 kj30 a1 x2_30 t274 3 a0_0 a0_1 a0_2 a0_3 a0_4 a0_5 a0_6 a0_7 a0_8 l0_9 l0_10 t266 t267 t268 t271))) else (ephemerislaw1_ObservedOfs.j3 kj30 a1 x2_30 t274 1 a0_0 a0_1 a0_2 a0_3 a0_4 a0_5 a0_6 a0_7 a0_8 l0_9 l0_10 t266 t267 t268 t271))) else (ephemerislaw1_ObservedOfs.j3 kj30 a1 x2_30 t274 t276 a0_0 a0_1 a0_2 a0_3 a0_4 a0_5 a0_6 a0_7 a0_8 l0_9 l0_10 t266 t267 t268 t271))) = some r := H
        have A33 := Aside0.mk A330
        clear A330
        replace H := Option.bind_eq_some_iff.mp H
        obtain ⟨t276, A340, H⟩ := H
        replace H : (if t276 = 0 then ((ephemerisref1_In.f x2_30 1 40).bind fun t277 => (if t277 = true then ((ephemerisref1_In.f a1 (-10000) 9960).bind fun t278 => (if t278 = true then (ephemerislaw1_ObservedOfs.j3 kj30 a1 x2_30 t274 t276 a0_0 a0_1 a0_2 a0_3 a0_4 a0_5 a0_6 a0_7 a0_8 l0_9 l0_10 t266 t267 t268 t271) else (ephemerislaw1_ObservedOfs.j3 kj30 a1 x2_30 t274 3 a0_0 a0_1 a0_2 a0_3 a0_4 a0_5 a0_6 a0_7 a0_8 l0_9 l0_10 t266 t267 t268 t271))) else (ephemerislaw1_ObservedOfs.j3 kj30 a1 x2_30 t274 1 a0_0 a0_1 a0_2 a0_3 a0_4 a0_5 a0_6 a0_7 a0_8 l0_9 l0_10 t266 t267 t268 t271))) else (ephemerislaw1_ObservedOfs.j3 kj30 a1 x2_30 t274 t276 a0_0 a0_1 a0_2 a0_3 a0_4 a0_5 a0_6 a0_7 a0_8 l0_9 l0_10 t266 t267 t268 t271)) = some r := H
        have A34 := Aside0.mk A340
        clear A340
        have HC35 := Aside0.mk H
        clear H
        have hnb36 := NB238_263.out
        have hnc36 := NB263_238.out
        obtain ⟨hcz37_0, hcz37_1, hcz37_2, hcz37_3, hcz37_4, hcz37_5, hcz37_6, hcz37_7, hcz37_8, hcz37_9, hcz37_10, hfz37_0, hfz37_1, hfz37_2, hfz37_3, hfz37_4, hfz37_5, hfz37_6, hfz37_7, hfz37_8, hfz37_9, hfz37_10⟩ := bc11 BK238
        go_upto_block 0 with (first | ((with_reducible refine gate_callee (f := 25) rfl ?_); refine goesL_ (some 58) rfl rfl Try.func25 kx rfl #[.agg #[.string a0_0, .int .i64 a0_1, .int .i64 a0_2, .int .i64 a0_3, .int .i64 a0_4, .int .i64 a0_5, .int .i64 a0_6, .int .i64 a0_7, .int .i64 a0_8, .slice A0_9 l0_9.length c0_9, .slice A0_10 l0_10.length c0_10], .int .i64 a1, .int .i64 x2_30] rfl aa ?_; (with_reducible refine (observed_Of.calls kj30 a0_0 a0_1 a0_2 a0_3 a0_4 a0_5 a0_6 a0_7 a0_8 _ _ l0_9 _ _ l0_10 a1 x2_30 t266 t267 t268 t271 t274 _ ?side1 ?side2 ?side3 ?side4 A33.out).mono ?_); (case side1 => exact kc (Kd.C_below HR0_9.out HB.out)); (case side2 => exact HC0_9.out); (case side3 => exact kc (Kd.C_below HR0_10.out HB.out)); (case side4 => exact HC0_10.out); rintro e w38 ⟨v269, v272, rfl, ho0, ho1, hb⟩; refine ⟨_, rfl, ?_⟩; have n0_ := Aside0.mk (Kd.R_mono (Kd.R_told (Kd.R_told (Kd.R_old (by (with_reducible repeat (first | apply Kd.R_alloc | apply Kd.R_drewN | apply Kd.R_drew)); exact HO_264002.out) hb) (Kd.R_base ho0)) (Kd.R_base ho1)) (fun _ h_ => h_.1)); have n1_ := Aside0.mk (Kd.R_mono (Kd.R_told (Kd.R_told (Kd.R_old (by (with_reducible repeat (first | apply Kd.R_alloc | apply Kd.R_drewN | apply Kd.R_drew)); exact HO_264003.out) hb) (Kd.R_base ho0)) (Kd.R_base ho1)) (fun _ h_ => h_.1)); have n2_ := Aside0.mk (Kd.R_lower (Kd.R_new' (Kd.R_new' ho0 (Kd.R_lt (by (with_reducible repeat (first | apply Kd.R_alloc | apply Kd.R_drewN | apply Kd.R_drew)); exact HO_264002.out))) (Kd.R_lt (by (with_reducible repeat (first | apply Kd.R_alloc | apply Kd.R_drewN | apply Kd.R_drew)); exact HO_264003.out))) (below_size be)); have n3_ := Aside0.mk (Kd.R_lower (Kd.R_new' (Kd.R_new' ho1 (Kd.R_lt (by (with_reducible repeat (first | apply Kd.R_alloc | apply Kd.R_drewN | apply Kd.R_drew)); exact HO_264002.out))) (Kd.R_lt (by (with_reducible repeat (first | apply Kd.R_alloc | apply Kd.R_drewN | apply Kd.R_drew)); exact HO_264003.out))) (below_size be)); have n4_ := bb BK238 hb; have n5_ := bb BK263 hb; have n6_ := Aside0.mk (below_step be hb); clear HO_264002; clear HO_264003; clear BK238; clear BK263; clear HB; have HO_264002 := n0_; have HO_264003 := n1_; have HO270 := n2_; have HO273 := n3_; have BK238 := n4_; have BK263 := n5_; have HB := n6_; clear n0_ n1_ n2_ n3_ n4_ n5_ n6_; (try clear hb); (try clear hb2); (try clear hk); (try clear hi); (try clear ho0); (try clear ho1)) | ((with_reducible refine gate_dst (N := 9) rfl ?_); (try (refine gate_guard (by rfl) ?_; dsimp only)); refine box_event ?hg (N := 9) ?hd (cs := #[.string (⟨#[]⟩ : ByteArray), .int .i64 0, .slice none 0 0, .slice none 0 0]) (t := 24) ?hr ?_; (case hd => rfl); (case hg => rfl); (case hr => first | (go_simp; done) | (go_simp; rfl)); intro gb275 hg w39 hbox hb; have n0_ := Aside0.mk (Kd.R_below (by (with_reducible repeat (first | apply Kd.R_alloc | apply Kd.R_drewN | apply Kd.R_drew)); exact HO_264002.out) hb); have n1_ := Aside0.mk (Kd.R_below (by (with_reducible repeat (first | apply Kd.R_alloc | apply Kd.R_drewN | apply Kd.R_drew)); exact HO_264003.out) hb); have n2_ := Aside0.mk (Kd.R_below (by (with_reducible repeat (first | apply Kd.R_alloc | apply Kd.R_drewN | apply Kd.R_drew)); exact HO270.out) hb); have n3_ := Aside0.mk (Kd.R_below (by (with_reducible repeat (first | apply Kd.R_alloc | apply Kd.R_drewN | apply Kd.R_drew)); exact HO273.out) hb); have n4_ := bb BK238 hb; have n5_ := bb BK263 hb; have n6_ := Aside0.mk (below_step be hb); have n7_ := Aside0.mk (hbox); have n8_ := gs hg HB; have n9_ := n8_; have n10_ := nl BK238 hg; have n11_ := ns n10_; have n12_ := nl BK263 hg; have n13_ := ns n12_; clear HO_264002; clear HO_264003; clear HO270; clear HO273; clear BK238; clear BK263; clear HB; have HO_264002 := n0_; have HO_264003 := n1_; have HO270 := n2_; have HO273 := n3_; have BK238 := n4_; have BK263 := n5_; have HB := n6_; have BK275 := n7_; have GW275 := n8_; have GE275 := n9_; have NB238_275 := n10_; have NB275_238 := n11_; have NB263_275 := n12_; have NB275_263 := n13_; clear n0_ n1_ n2_ n3_ n4_ n5_ n6_ n7_ n8_ n9_ n10_ n11_ n12_ n13_; clear hb hbox hg; have hnb40 := NB275_238.out; have hnc40 := NB238_275.out; have hnb41 := NB275_263.out; have hnc41 := NB263_275.out; obtain ⟨hcz42_0, hcz42_1, hcz42_2, hcz42_3, hfz42_0, hfz42_1, hfz42_2, hfz42_3⟩ := bc4 BK275; obtain ⟨Ao43, co43, eo43⟩ := Kd.R_slice HO270.out; subst eo43; obtain ⟨Ao44, co44, eo44⟩ := Kd.R_slice HO273.out; subst eo44; obtain ⟨hcz45_0, hcz45_1, hcz45_2, hcz45_3, hcz45_4, hcz45_5, hcz45_6, hcz45_7, hcz45_8, hcz45_9, hcz45_10, hfz45_0, hfz45_1, hfz45_2, hfz45_3, hfz45_4, hfz45_5, hfz45_6, hfz45_7, hfz45_8, hfz45_9, hfz45_10⟩ := bc11 BK238) | ((with_reducible refine gate_callee (f := 27) rfl ?_); refine goesL_ (some 62) rfl rfl Try.func27 kx rfl #[.agg #[.string a0_0, .int .i64 a0_1, .int .i64 a0_2, .int .i64 a0_3, .int .i64 a0_4, .int .i64 a0_5, .int .i64 a0_6, .int .i64 a0_7, .int .i64 a0_8, .slice A0_9 l0_9.length c0_9, .slice A0_10 l0_10.length c0_10]] rfl aa ?_; (with_reducible refine (ephemerisref1_MoonError.calls kj30 a0_0 a0_1 a0_2 a0_3 a0_4 a0_5 a0_6 a0_7 a0_8 _ _ l0_9 _ _ l0_10 t276 _ ?side1 ?side2 ?side3 ?side4 A34.out).mono ?_); (case side1 => exact Kd.C_below HR0_9.out be); (case side2 => exact HC0_9.out); (case side3 => exact Kd.C_below HR0_10.out be); (case side4 => exact HC0_10.out); rintro e w46 ⟨rfl, hb⟩; refine ⟨_, rfl, ?_⟩; have n0_ := Aside0.mk (Kd.R_below (by (with_reducible repeat (first | apply Kd.R_alloc | apply Kd.R_drewN | apply Kd.R_drew)); exact (Kd.R_mono (Kd.R_far (p := ⟨gb275, 3, none⟩) (Kd.R_far (p := ⟨gb275, 2, none⟩) (Kd.R_far (p := ⟨gb275, 1, none⟩) (Kd.R_far (p := ⟨gb275, 0, none⟩) (Kd.R_types HO_264002.out BK275.out (by decide)) (fun _ hk => hk.2) (.string t266)) (fun _ hk => hk.2) (.int .i64 t267)) (fun _ hk => hk.2) (.slice Ao43 t268.length co43)) (fun _ hk => hk.2) (.slice Ao44 t271.length co44)) (fun _ h_ => h_.1))) hb); have n1_ := Aside0.mk (Kd.R_below (by (with_reducible repeat (first | apply Kd.R_alloc | apply Kd.R_drewN | apply Kd.R_drew)); exact (Kd.R_mono (Kd.R_far (p := ⟨gb275, 3, none⟩) (Kd.R_far (p := ⟨gb275, 2, none⟩) (Kd.R_far (p := ⟨gb275, 1, none⟩) (Kd.R_far (p := ⟨gb275, 0, none⟩) (Kd.R_types HO_264003.out BK275.out (by decide)) (fun _ hk => hk.2) (.string t266)) (fun _ hk => hk.2) (.int .i64 t267)) (fun _ hk => hk.2) (.slice Ao43 t268.length co43)) (fun _ hk => hk.2) (.slice Ao44 t271.length co44)) (fun _ h_ => h_.1))) hb); have n2_ := Aside0.mk (Kd.R_below (by (with_reducible repeat (first | apply Kd.R_alloc | apply Kd.R_drewN | apply Kd.R_drew)); exact (Kd.R_mono (Kd.R_far (p := ⟨gb275, 3, none⟩) (Kd.R_far (p := ⟨gb275, 2, none⟩) (Kd.R_far (p := ⟨gb275, 1, none⟩) (Kd.R_far (p := ⟨gb275, 0, none⟩) (Kd.R_types HO270.out BK275.out (by decide)) (fun _ hk => hk.2) (.string t266)) (fun _ hk => hk.2) (.int .i64 t267)) (fun _ hk => hk.2) (.slice Ao43 t268.length co43)) (fun _ hk => hk.2) (.slice Ao44 t271.length co44)) (fun _ h_ => h_.1))) hb); have n3_ := Aside0.mk (Kd.R_below (by (with_reducible repeat (first | apply Kd.R_alloc | apply Kd.R_drewN | apply Kd.R_drew)); exact (Kd.R_mono (Kd.R_far (p := ⟨gb275, 3, none⟩) (Kd.R_far (p := ⟨gb275, 2, none⟩) (Kd.R_far (p := ⟨gb275, 1, none⟩) (Kd.R_far (p := ⟨gb275, 0, none⟩) (Kd.R_types HO273.out BK275.out (by decide)) (fun _ hk => hk.2) (.string t266)) (fun _ hk => hk.2) (.int .i64 t267)) (fun _ hk => hk.2) (.slice Ao43 t268.length co43)) (fun _ hk => hk.2) (.slice Ao44 t271.length co44)) (fun _ h_ => h_.1))) hb); have n4_ := bb BK238 hb; have n5_ := bb BK263 hb; have n6_ := Aside0.mk (blk_below (g := gb275) (o := .cells #[.string t266, .int .i64 t267, .slice Ao43 t268.length co43, .slice Ao44 t271.length co44] 24 (0, 0)) (bk BK275) hb); have n7_ := Aside0.mk (below_step be hb); clear HO_264002; clear HO_264003; clear HO270; clear HO273; clear BK238; clear BK263; clear BK275; clear HB; have HO_264002 := n0_; have HO_264003 := n1_; have HO270 := n2_; have HO273 := n3_; have BK238 := n4_; have BK263 := n5_; have BK275 := n6_; have HB := n7_; clear n0_ n1_ n2_ n3_ n4_ n5_ n6_ n7_; (try clear hb); (try clear hb2); (try clear hk); (try clear hi)))
        (try simp only [Act.put, List.setIfInBounds_toArray, List.set_cons_zero, List.set_cons_succ])
        go_cut [11] (fun v11 wc => ∃ (kq : Nat) (x11_34 : Int), v11 = .int .i64 x11_34 ∧ Aside0 (ephemerislaw1_ObservedOfs.j3 kq a1 x2_30 t274 x11_34 a0_0 a0_1 a0_2 a0_3 a0_4 a0_5 a0_6 a0_7 a0_8 l0_9 l0_10 t266 t267 t268 t271 = some r) ∧ Aside0 (kq ≤ kj30) ∧ Aside0 (Kd.R (Kd.int .i64) 3 wc w.heap.size (fun k_ => some k_ ≠ ((.slice Ao16 t259.length co16) : Value).ownBlock ∧ some k_ ≠ ((.slice Ao43 t268.length co43) : Value).ownBlock ∧ some k_ ≠ ((.slice Ao44 t271.length co44) : Value).ownBlock) (.slice Ao15 t256.length co15) t256) ∧ Aside0 (Kd.R (Kd.int .i64) 3 wc w.heap.size (fun k_ => some k_ ≠ ((.slice Ao15 t256.length co15) : Value).ownBlock ∧ some k_ ≠ ((.slice Ao43 t268.length co43) : Value).ownBlock ∧ some k_ ≠ ((.slice Ao44 t271.length co44) : Value).ownBlock) (.slice Ao16 t259.length co16) t259) ∧ Aside0 (Kd.R (Kd.int .i64) 3 wc w.heap.size (fun k_ => some k_ ≠ ((.slice Ao15 t256.length co15) : Value).ownBlock ∧ some k_ ≠ ((.slice Ao16 t259.length co16) : Value).ownBlock ∧ some k_ ≠ ((.slice Ao44 t271.length co44) : Value).ownBlock) (.slice Ao43 t268.length co43) t268) ∧ Aside0 (Kd.R (Kd.int .i64) 3 wc w.heap.size (fun k_ => some k_ ≠ ((.slice Ao15 t256.length co15) : Value).ownBlock ∧ some k_ ≠ ((.slice Ao16 t259.length co16) : Value).ownBlock ∧ some k_ ≠ ((.slice Ao43 t268.length co43) : Value).ownBlock) (.slice Ao44 t271.length co44) t271) ∧ Aside0 (wc.heap[gb238]? = some (.cells #[.string a0_0, .int .i64 a0_1, .int .i64 a0_2, .int .i64 a0_3, .int .i64 a0_4, .int .i64 a0_5, .int .i64 a0_6, .int .i64 a0_7, .int .i64 a0_8, (.slice A0_9 l0_9.length c0_9), (.slice A0_10 l0_10.length c0_10)] 60 (0, 0))) ∧ Aside0 (wc.heap[gb263]? = some (.cells #[.string t254, .int .i64 t255, (.slice Ao15 t256.length co15), (.slice Ao16 t259.length co16)] 24 (0, 0))) ∧ Aside0 (wc.heap[gb275]? = some (.cells #[.string t266, .int .i64 t267, (.slice Ao43 t268.length co43), (.slice Ao44 t271.length co44)] 24 (0, 0))) ∧ Aside0 (Below w.heap.size w wc))
        case first =>
         have H := HC35.out
         clear HC35
         by_cases c47 : t276 = 0
         ·rw [if_pos c47] at H
          have c47b0 : (t276 == 0) = true := beq_iff_eq.mpr c47
          have c47b1 : (t276 != 0) = false := bne_eq_false_iff_eq.mpr c47
          clear c47
          (first | rw [c47b0] | (simp only [i64_w, i32_w]; rw [c47b0]) | skip)
          replace H := Option.bind_eq_some_iff.mp H
          obtain ⟨t277, A480, H⟩ := H
          replace H : (if t277 = true then ((ephemerisref1_In.f a1 (-10000) 9960).bind fun t278 => (if t278 = true then (ephemerislaw1_ObservedOfs.j3 kj30 a1 x2_30 t274 t276 a0_0 a0_1 a0_2 a0_3 a0_4 a0_5 a0_6 a0_7 a0_8 l0_9 l0_10 t266 t267 t268 t271) else (ephemerislaw1_ObservedOfs.j3 kj30 a1 x2_30 t274 3 a0_0 a0_1 a0_2 a0_3 a0_4 a0_5 a0_6 a0_7 a0_8 l0_9 l0_10 t266 t267 t268 t271))) else (ephemerislaw1_ObservedOfs.j3 kj30 a1 x2_30 t274 1 a0_0 a0_1 a0_2 a0_3 a0_4 a0_5 a0_6 a0_7 a0_8 l0_9 l0_10 t266 t267 t268 t271)) = some r := H
          have A48 := Aside0.mk A480
          clear A480
          by_cases c49 : t277 = true
          ·subst c49
           have H1 : ((ephemerisref1_In.f a1 (-10000) 9960).bind fun t278 => (if t278 = true then (ephemerislaw1_ObservedOfs.j3 kj30 a1 x2_30 t274 t276 a0_0 a0_1 a0_2 a0_3 a0_4 a0_5 a0_6 a0_7 a0_8 l0_9 l0_10 t266 t267 t268 t271) else (ephemerislaw1_ObservedOfs.j3 kj30 a1 x2_30 t274 3 a0_0 a0_1 a0_2 a0_3 a0_4 a0_5 a0_6 a0_7 a0_8 l0_9 l0_10 t266 t267 t268 t271))) = some r := by rw [if_pos rfl] at H; exact H
           clear H
           have H := H1
           clear H1
           replace H := Option.bind_eq_some_iff.mp H
           obtain ⟨t278, A500, H⟩ := H
           replace H : (if t278 = true then (ephemerislaw1_ObservedOfs.j3 kj30 a1 x2_30 t274 t276 a0_0 a0_1 a0_2 a0_3 a0_4 a0_5 a0_6 a0_7 a0_8 l0_9 l0_10 t266 t267 t268 t271) else (ephemerislaw1_ObservedOfs.j3 kj30 a1 x2_30 t274 3 a0_0 a0_1 a0_2 a0_3 a0_4 a0_5 a0_6 a0_7 a0_8 l0_9 l0_10 t266 t267 t268 t271)) = some r := H
           have A50 := Aside0.mk A500
           clear A500
           by_cases c51 : t278 = true
           ·subst c51
            have H1 : (ephemerislaw1_ObservedOfs.j3 kj30 a1 x2_30 t274 t276 a0_0 a0_1 a0_2 a0_3 a0_4 a0_5 a0_6 a0_7 a0_8 l0_9 l0_10 t266 t267 t268 t271) = some r := by rw [if_pos rfl] at H; exact H
            clear H
            have H := H1
            clear H1
            have H' := Aside0.mk H
            clear H
            go_wp2_with (first | ((with_reducible refine gate_callee (f := 21) rfl ?_); refine goesL_ (some 68) rfl rfl Try.func21 kx rfl #[.int .i64 x2_30, .int .i64 1, .int .i64 40] rfl aa ?_; (with_reducible refine (ephemerisref1_In.calls x2_30 1 40 true _ A48.out).mono ?_); rintro e w' ⟨rfl, ⟨nd, rfl⟩⟩; refine ⟨_, rfl, ?_⟩) | ((with_reducible refine gate_callee (f := 21) rfl ?_); refine goesL_ (some 72) rfl rfl Try.func21 kx rfl #[.int .i64 a1, .int .i64 (-10000), .int .i64 9960] rfl aa ?_; (with_reducible refine (ephemerisref1_In.calls a1 (-10000) 9960 true _ A50.out).mono ?_); rintro e w' ⟨rfl, ⟨nd, rfl⟩⟩; refine ⟨_, rfl, ?_⟩))
            go_meet
            case rel => exact ⟨_, (t276), rs, H', ⟨by have := HJ5.out; have := HJ28.out; have := HJ30.out; first | omega | exact Nat.le_refl _⟩, ⟨by (with_reducible repeat (first | apply Kd.R_alloc | apply Kd.R_drewN | apply Kd.R_drew)); exact Kd.R_mono HO_264002.out (fun _ hk => ⟨hk.1.1, ⟨hk.1.2, hk.2⟩⟩)⟩, ⟨by (with_reducible repeat (first | apply Kd.R_alloc | apply Kd.R_drewN | apply Kd.R_drew)); exact Kd.R_mono HO_264003.out (fun _ hk => ⟨hk.1.1, ⟨hk.1.2, hk.2⟩⟩)⟩, ⟨by (with_reducible repeat (first | apply Kd.R_alloc | apply Kd.R_drewN | apply Kd.R_drew)); exact Kd.R_mono HO270.out (fun _ hk => ⟨hk.1.2, ⟨hk.2, hk.1.1⟩⟩)⟩, ⟨by (with_reducible repeat (first | apply Kd.R_alloc | apply Kd.R_drewN | apply Kd.R_drew)); exact Kd.R_mono HO273.out (fun _ hk => ⟨hk.1.2, ⟨hk.2, hk.1.1⟩⟩)⟩, ⟨bk BK238⟩, ⟨bk BK263⟩, ⟨bk BK275⟩, ⟨be⟩⟩
           ·replace c51 := Bool.eq_false_iff.mpr c51
            subst c51
            have H1 : (ephemerislaw1_ObservedOfs.j3 kj30 a1 x2_30 t274 3 a0_0 a0_1 a0_2 a0_3 a0_4 a0_5 a0_6 a0_7 a0_8 l0_9 l0_10 t266 t267 t268 t271) = some r := by rw [if_neg (show ¬ (false = true) by decide)] at H; exact H
            clear H
            have H := H1
            clear H1
            have H' := Aside0.mk H
            clear H
            go_wp2_with (first | ((with_reducible refine gate_callee (f := 21) rfl ?_); refine goesL_ (some 68) rfl rfl Try.func21 kx rfl #[.int .i64 x2_30, .int .i64 1, .int .i64 40] rfl aa ?_; (with_reducible refine (ephemerisref1_In.calls x2_30 1 40 true _ A48.out).mono ?_); rintro e w' ⟨rfl, ⟨nd, rfl⟩⟩; refine ⟨_, rfl, ?_⟩) | ((with_reducible refine gate_callee (f := 21) rfl ?_); refine goesL_ (some 72) rfl rfl Try.func21 kx rfl #[.int .i64 a1, .int .i64 (-10000), .int .i64 9960] rfl aa ?_; (with_reducible refine (ephemerisref1_In.calls a1 (-10000) 9960 false _ A50.out).mono ?_); rintro e w' ⟨rfl, ⟨nd, rfl⟩⟩; refine ⟨_, rfl, ?_⟩))
            go_meet
            case rel => exact ⟨_, (3), rs, H', ⟨by have := HJ5.out; have := HJ28.out; have := HJ30.out; first | omega | exact Nat.le_refl _⟩, ⟨by (with_reducible repeat (first | apply Kd.R_alloc | apply Kd.R_drewN | apply Kd.R_drew)); exact Kd.R_mono HO_264002.out (fun _ hk => ⟨hk.1.1, ⟨hk.1.2, hk.2⟩⟩)⟩, ⟨by (with_reducible repeat (first | apply Kd.R_alloc | apply Kd.R_drewN | apply Kd.R_drew)); exact Kd.R_mono HO_264003.out (fun _ hk => ⟨hk.1.1, ⟨hk.1.2, hk.2⟩⟩)⟩, ⟨by (with_reducible repeat (first | apply Kd.R_alloc | apply Kd.R_drewN | apply Kd.R_drew)); exact Kd.R_mono HO270.out (fun _ hk => ⟨hk.1.2, ⟨hk.2, hk.1.1⟩⟩)⟩, ⟨by (with_reducible repeat (first | apply Kd.R_alloc | apply Kd.R_drewN | apply Kd.R_drew)); exact Kd.R_mono HO273.out (fun _ hk => ⟨hk.1.2, ⟨hk.2, hk.1.1⟩⟩)⟩, ⟨bk BK238⟩, ⟨bk BK263⟩, ⟨bk BK275⟩, ⟨be⟩⟩
          ·replace c49 := Bool.eq_false_iff.mpr c49
           subst c49
           have H1 : (ephemerislaw1_ObservedOfs.j3 kj30 a1 x2_30 t274 1 a0_0 a0_1 a0_2 a0_3 a0_4 a0_5 a0_6 a0_7 a0_8 l0_9 l0_10 t266 t267 t268 t271) = some r := by rw [if_neg (show ¬ (false = true) by decide)] at H; exact H
           clear H
           have H := H1
           clear H1
           have H' := Aside0.mk H
           clear H
           go_wp2_with (first | ((with_reducible refine gate_callee (f := 21) rfl ?_); refine goesL_ (some 68) rfl rfl Try.func21 kx rfl #[.int .i64 x2_30, .int .i64 1, .int .i64 40] rfl aa ?_; (with_reducible refine (ephemerisref1_In.calls x2_30 1 40 false _ A48.out).mono ?_); rintro e w' ⟨rfl, ⟨nd, rfl⟩⟩; refine ⟨_, rfl, ?_⟩))
           go_meet
           case rel => exact ⟨_, (1), rs, H', ⟨by have := HJ5.out; have := HJ28.out; have := HJ30.out; first | omega | exact Nat.le_refl _⟩, ⟨by (with_reducible repeat (first | apply Kd.R_alloc | apply Kd.R_drewN | apply Kd.R_drew)); exact Kd.R_mono HO_264002.out (fun _ hk => ⟨hk.1.1, ⟨hk.1.2, hk.2⟩⟩)⟩, ⟨by (with_reducible repeat (first | apply Kd.R_alloc | apply Kd.R_drewN | apply Kd.R_drew)); exact Kd.R_mono HO_264003.out (fun _ hk => ⟨hk.1.1, ⟨hk.1.2, hk.2⟩⟩)⟩, ⟨by (with_reducible repeat (first | apply Kd.R_alloc | apply Kd.R_drewN | apply Kd.R_drew)); exact Kd.R_mono HO270.out (fun _ hk => ⟨hk.1.2, ⟨hk.2, hk.1.1⟩⟩)⟩, ⟨by (with_reducible repeat (first | apply Kd.R_alloc | apply Kd.R_drewN | apply Kd.R_drew)); exact Kd.R_mono HO273.out (fun _ hk => ⟨hk.1.2, ⟨hk.2, hk.1.1⟩⟩)⟩, ⟨bk BK238⟩, ⟨bk BK263⟩, ⟨bk BK275⟩, ⟨be⟩⟩
         ·rw [if_neg c47] at H
          have c47b0 : (t276 == 0) = false := beq_eq_false_iff_ne.mpr c47
          have c47b1 : (t276 != 0) = true := bne_iff_ne.mpr c47
          (first | rw [c47b0] | (simp only [i64_w, i32_w]; rw [c47b0]) | skip)
          have H' := Aside0.mk H
          clear H
          go_wp2
          go_meet
          case rel => exact ⟨_, (t276), rs, H', ⟨by have := HJ5.out; have := HJ28.out; have := HJ30.out; first | omega | exact Nat.le_refl _⟩, ⟨by (with_reducible repeat (first | apply Kd.R_alloc | apply Kd.R_drewN | apply Kd.R_drew)); exact Kd.R_mono HO_264002.out (fun _ hk => ⟨hk.1.1, ⟨hk.1.2, hk.2⟩⟩)⟩, ⟨by (with_reducible repeat (first | apply Kd.R_alloc | apply Kd.R_drewN | apply Kd.R_drew)); exact Kd.R_mono HO_264003.out (fun _ hk => ⟨hk.1.1, ⟨hk.1.2, hk.2⟩⟩)⟩, ⟨by (with_reducible repeat (first | apply Kd.R_alloc | apply Kd.R_drewN | apply Kd.R_drew)); exact Kd.R_mono HO270.out (fun _ hk => ⟨hk.1.2, ⟨hk.2, hk.1.1⟩⟩)⟩, ⟨by (with_reducible repeat (first | apply Kd.R_alloc | apply Kd.R_drewN | apply Kd.R_drew)); exact Kd.R_mono HO273.out (fun _ hk => ⟨hk.1.2, ⟨hk.2, hk.1.1⟩⟩)⟩, ⟨bk BK238⟩, ⟨bk BK263⟩, ⟨bk BK275⟩, ⟨be⟩⟩
        case rest =>
         clear HC35
         (try clear c1); (try clear c2); (try clear p2); (try clear q2); (try clear hx2); (try clear qi2); (try clear c3); (try clear c4); (try clear c5); (try clear c6); (try clear p6); (try clear c13); (try clear c17); (try clear c17b0); (try clear c17b1); (try clear c18); (try clear c18b0); (try clear c18b1); (try clear c19); (try clear c19b0); (try clear c19b1); (try clear c20); (try clear c20b0); (try clear c20b1); (try clear c21); (try clear c21b0); (try clear c21b1); (try clear c22); (try clear c24); (try clear c25); (try clear c26); (try clear p26); (try clear q26); (try clear hx26); (try clear qi26); (try clear c27); (try clear c28); (try clear c30); (try clear c30b0); (try clear c32); (try clear c36); (try clear c40); (try clear c41); (try clear c47); (try clear c47b0); (try clear c47b1); (try clear c49); (try clear c51); (try clear hcz14_0); (try clear hcz14_1); (try clear hcz14_2); (try clear hcz14_3); (try clear hcz23_0); (try clear hcz23_1); (try clear hcz23_2); (try clear hcz23_3); (try clear hcz25_0); (try clear hcz25_1); (try clear hcz25_2); (try clear hcz25_3); (try clear hcz27_0); (try clear hcz27_1); (try clear hcz27_2); (try clear hcz27_3); (try clear hcz37_0); (try clear hcz37_1); (try clear hcz37_10); (try clear hcz37_2); (try clear hcz37_3); (try clear hcz37_4); (try clear hcz37_5); (try clear hcz37_6); (try clear hcz37_7); (try clear hcz37_8); (try clear hcz37_9); (try clear hcz42_0); (try clear hcz42_1); (try clear hcz42_2); (try clear hcz42_3); (try clear hcz45_0); (try clear hcz45_1); (try clear hcz45_10); (try clear hcz45_2); (try clear hcz45_3); (try clear hcz45_4); (try clear hcz45_5); (try clear hcz45_6); (try clear hcz45_7); (try clear hcz45_8); (try clear hcz45_9); (try clear hfz14_0); (try clear hfz14_1); (try clear hfz14_2); (try clear hfz14_3); (try clear hfz23_0); (try clear hfz23_1); (try clear hfz23_2); (try clear hfz23_3); (try clear hfz25_0); (try clear hfz25_1); (try clear hfz25_2); (try clear hfz25_3); (try clear hfz27_0); (try clear hfz27_1); (try clear hfz27_2); (try clear hfz27_3); (try clear hfz37_0); (try clear hfz37_1); (try clear hfz37_10); (try clear hfz37_2); (try clear hfz37_3); (try clear hfz37_4); (try clear hfz37_5); (try clear hfz37_6); (try clear hfz37_7); (try clear hfz37_8); (try clear hfz37_9); (try clear hfz42_0); (try clear hfz42_1); (try clear hfz42_2); (try clear hfz42_3); (try clear hfz45_0); (try clear hfz45_1); (try clear hfz45_10); (try clear hfz45_2); (try clear hfz45_3); (try clear hfz45_4); (try clear hfz45_5); (try clear hfz45_6); (try clear hfz45_7); (try clear hfz45_8); (try clear hfz45_9); (try clear hx264_0); (try clear hx265_0); (try clear p2); (try clear p26); (try clear p264); (try clear p265); (try clear p6); (try clear q2); (try clear q26); (try clear q264); (try clear q265)
         obtain ⟨kq, x11_34, rfl, HA, HJ34, HO_264002, HO_264003, HO_276002, HO_276003, BK238, BK263, BK275, HB⟩ := hcut
         cases kq with
         | zero => exact absurd HA.out (by simp [ephemerislaw1_ObservedOfs.j3])
         | succ kj34 =>
          have H := HA.out
          clear HA
          simp only [ephemerislaw1_ObservedOfs.j3] at H
          have H' := Aside0.mk H
          clear H
          have hnb52 := NB238_263.out
          have hnc52 := NB263_238.out
          have hnb53 := NB238_275.out
          have hnc53 := NB275_238.out
          obtain ⟨hcz54_0, hcz54_1, hcz54_2, hcz54_3, hcz54_4, hcz54_5, hcz54_6, hcz54_7, hcz54_8, hcz54_9, hcz54_10, hfz54_0, hfz54_1, hfz54_2, hfz54_3, hfz54_4, hfz54_5, hfz54_6, hfz54_7, hfz54_8, hfz54_9, hfz54_10⟩ := bc11 BK238
          go_wp2_with (first | ((with_reducible refine gate_dst (N := 12) rfl ?_); (try (refine gate_guard (by rfl) ?_; dsimp only)); refine box_event ?hg (N := 12) ?hd (cs := #[.string (⟨#[]⟩ : ByteArray), .int .i64 0, .slice none 0 0, .slice none 0 0]) (t := 24) ?hr ?_; (case hd => rfl); (case hg => rfl); (case hr => first | (go_simp; done) | (go_simp; rfl)); intro gb279 hg w55 hbox hb; have n0_ := Aside0.mk (Kd.R_below (by (with_reducible repeat (first | apply Kd.R_alloc | apply Kd.R_drewN | apply Kd.R_drew)); exact HO_264002.out) hb); have n1_ := Aside0.mk (Kd.R_below (by (with_reducible repeat (first | apply Kd.R_alloc | apply Kd.R_drewN | apply Kd.R_drew)); exact HO_264003.out) hb); have n2_ := Aside0.mk (Kd.R_below (by (with_reducible repeat (first | apply Kd.R_alloc | apply Kd.R_drewN | apply Kd.R_drew)); exact HO_276002.out) hb); have n3_ := Aside0.mk (Kd.R_below (by (with_reducible repeat (first | apply Kd.R_alloc | apply Kd.R_drewN | apply Kd.R_drew)); exact HO_276003.out) hb); have n4_ := bb BK238 hb; have n5_ := bb BK263 hb; have n6_ := bb BK275 hb; have n7_ := Aside0.mk (below_step be hb); have n8_ := Aside0.mk (hbox); have n9_ := gs hg HB; have n10_ := n9_; have n11_ := nl BK238 hg; have n12_ := ns n11_; have n13_ := nl BK263 hg; have n14_ := ns n13_; have n15_ := nl BK275 hg; have n16_ := ns n15_; clear HO_264002; clear HO_264003; clear HO_276002; clear HO_276003; clear BK238; clear BK263; clear BK275; clear HB; have HO_264002 := n0_; have HO_264003 := n1_; have HO_276002 := n2_; have HO_276003 := n3_; have BK238 := n4_; have BK263 := n5_; have BK275 := n6_; have HB := n7_; have BK279 := n8_; have GW279 := n9_; have GE279 := n10_; have NB238_279 := n11_; have NB279_238 := n12_; have NB263_279 := n13_; have NB279_263 := n14_; have NB275_279 := n15_; have NB279_275 := n16_; clear n0_ n1_ n2_ n3_ n4_ n5_ n6_ n7_ n8_ n9_ n10_ n11_ n12_ n13_ n14_ n15_ n16_; clear hb hbox hg; have hnb56 := NB279_238.out; have hnc56 := NB238_279.out; have hnb57 := NB279_263.out; have hnc57 := NB263_279.out; have hnb58 := NB279_275.out; have hnc58 := NB275_279.out; obtain ⟨hcz59_0, hcz59_1, hcz59_2, hcz59_3, hfz59_0, hfz59_1, hfz59_2, hfz59_3⟩ := bc4 BK279))
          go_loopg [13] kj34 (fun kq v13 w' => ∃ (x13_5 : Int) (x280002_5 : List Int) (x280003_5 : List Int) (u280002 : Value) (u280003 : Value), v13 = .int .i64 x13_5 ∧ Aside0 (ephemerislaw1_ObservedOfs.l0 kq a1 x2_30 t274 x11_34 x13_5 a0_0 a0_1 a0_2 a0_3 a0_4 a0_5 a0_6 a0_7 a0_8 l0_9 l0_10 t266 t267 t268 t271 a0_0 a1 x280002_5 x280003_5 = some r) ∧ Aside0 (kq ≤ kj34) ∧ Aside0 (Kd.R (Kd.int .i64) 3 w' w.heap.size (fun k_ => some k_ ≠ ((.slice Ao16 t259.length co16) : Value).ownBlock ∧ some k_ ≠ ((.slice Ao43 t268.length co43) : Value).ownBlock ∧ some k_ ≠ ((.slice Ao44 t271.length co44) : Value).ownBlock ∧ some k_ ≠ (u280002 : Value).ownBlock ∧ some k_ ≠ (u280003 : Value).ownBlock) (.slice Ao15 t256.length co15) t256) ∧ Aside0 (Kd.R (Kd.int .i64) 3 w' w.heap.size (fun k_ => some k_ ≠ ((.slice Ao15 t256.length co15) : Value).ownBlock ∧ some k_ ≠ ((.slice Ao43 t268.length co43) : Value).ownBlock ∧ some k_ ≠ ((.slice Ao44 t271.length co44) : Value).ownBlock ∧ some k_ ≠ (u280002 : Value).ownBlock ∧ some k_ ≠ (u280003 : Value).ownBlock) (.slice Ao16 t259.length co16) t259) ∧ Aside0 (Kd.R (Kd.int .i64) 3 w' w.heap.size (fun k_ => some k_ ≠ ((.slice Ao15 t256.length co15) : Value).ownBlock ∧ some k_ ≠ ((.slice Ao16 t259.length co16) : Value).ownBlock ∧ some k_ ≠ ((.slice Ao44 t271.length co44) : Value).ownBlock ∧ some k_ ≠ (u280002 : Value).ownBlock ∧ some k_ ≠ (u280003 : Value).ownBlock) (.slice Ao43 t268.length co43) t268) ∧ Aside0 (Kd.R (Kd.int .i64) 3 w' w.heap.size (fun k_ => some k_ ≠ ((.slice Ao15 t256.length co15) : Value).ownBlock ∧ some k_ ≠ ((.slice Ao16 t259.length co16) : Value).ownBlock ∧ some k_ ≠ ((.slice Ao43 t268.length co43) : Value).ownBlock ∧ some k_ ≠ (u280002 : Value).ownBlock ∧ some k_ ≠ (u280003 : Value).ownBlock) (.slice Ao44 t271.length co44) t271) ∧ Aside0 (Kd.R (Kd.int .i64) 3 w' w.heap.size (fun k_ => some k_ ≠ ((.slice Ao15 t256.length co15) : Value).ownBlock ∧ some k_ ≠ ((.slice Ao16 t259.length co16) : Value).ownBlock ∧ some k_ ≠ ((.slice Ao43 t268.length co43) : Value).ownBlock ∧ some k_ ≠ ((.slice Ao44 t271.length co44) : Value).ownBlock ∧ some k_ ≠ (u280003 : Value).ownBlock) u280002 x280002_5) ∧ Aside0 (Kd.R (Kd.int .i64) 3 w' w.heap.size (fun k_ => some k_ ≠ ((.slice Ao15 t256.length co15) : Value).ownBlock ∧ some k_ ≠ ((.slice Ao16 t259.length co16) : Value).ownBlock ∧ some k_ ≠ ((.slice Ao43 t268.length co43) : Value).ownBlock ∧ some k_ ≠ ((.slice Ao44 t271.length co44) : Value).ownBlock ∧ some k_ ≠ (u280002 : Value).ownBlock) u280003 x280003_5) ∧ Aside0 (w'.heap[gb238]? = some (.cells #[.string a0_0, .int .i64 a0_1, .int .i64 a0_2, .int .i64 a0_3, .int .i64 a0_4, .int .i64 a0_5, .int .i64 a0_6, .int .i64 a0_7, .int .i64 a0_8, (.slice A0_9 l0_9.length c0_9), (.slice A0_10 l0_10.length c0_10)] 60 (0, 0))) ∧ Aside0 (w'.heap[gb263]? = some (.cells #[.string t254, .int .i64 t255, (.slice Ao15 t256.length co15), (.slice Ao16 t259.length co16)] 24 (0, 0))) ∧ Aside0 (w'.heap[gb275]? = some (.cells #[.string t266, .int .i64 t267, (.slice Ao43 t268.length co43), (.slice Ao44 t271.length co44)] 24 (0, 0))) ∧ Aside0 (w'.heap[gb279]? = some (.cells #[.string a0_0, .int .i64 a1, u280002, u280003] 24 (0, 0))) ∧ Aside0 (Below w.heap.size w w'))
          case atStart => exact ⟨(a1), (([] : List Int)), (([] : List Int)), (.slice none 0 0), (.slice none 0 0), rs, H', ⟨Nat.le_refl _⟩, ⟨by (with_reducible repeat (first | apply Kd.R_alloc | apply Kd.R_drewN | apply Kd.R_drew)); exact Kd.R_mono (Kd.R_far (p := ⟨gb279, 3, none⟩) (Kd.R_far (p := ⟨gb279, 2, none⟩) (Kd.R_far (p := ⟨gb279, 1, none⟩) (Kd.R_far (p := ⟨gb279, 0, none⟩) (Kd.R_types HO_264002.out BK279.out (by decide)) (fun _ hk => hk.2) (.string a0_0)) (fun _ hk => hk.2) (.int .i64 a1)) (fun _ hk => hk.2) (.slice none 0 0)) (fun _ hk => hk.2) (.slice none 0 0)) (fun _ hk => ⟨hk.1.1, ⟨hk.1.2.1, ⟨hk.1.2.2, ⟨(by simp [Value.ownBlock]), (by simp [Value.ownBlock])⟩⟩⟩⟩)⟩, ⟨by (with_reducible repeat (first | apply Kd.R_alloc | apply Kd.R_drewN | apply Kd.R_drew)); exact Kd.R_mono (Kd.R_far (p := ⟨gb279, 3, none⟩) (Kd.R_far (p := ⟨gb279, 2, none⟩) (Kd.R_far (p := ⟨gb279, 1, none⟩) (Kd.R_far (p := ⟨gb279, 0, none⟩) (Kd.R_types HO_264003.out BK279.out (by decide)) (fun _ hk => hk.2) (.string a0_0)) (fun _ hk => hk.2) (.int .i64 a1)) (fun _ hk => hk.2) (.slice none 0 0)) (fun _ hk => hk.2) (.slice none 0 0)) (fun _ hk => ⟨hk.1.1, ⟨hk.1.2.1, ⟨hk.1.2.2, ⟨(by simp [Value.ownBlock]), (by simp [Value.ownBlock])⟩⟩⟩⟩)⟩, ⟨by (with_reducible repeat (first | apply Kd.R_alloc | apply Kd.R_drewN | apply Kd.R_drew)); exact Kd.R_mono (Kd.R_far (p := ⟨gb279, 3, none⟩) (Kd.R_far (p := ⟨gb279, 2, none⟩) (Kd.R_far (p := ⟨gb279, 1, none⟩) (Kd.R_far (p := ⟨gb279, 0, none⟩) (Kd.R_types HO_276002.out BK279.out (by decide)) (fun _ hk => hk.2) (.string a0_0)) (fun _ hk => hk.2) (.int .i64 a1)) (fun _ hk => hk.2) (.slice none 0 0)) (fun _ hk => hk.2) (.slice none 0 0)) (fun _ hk => ⟨hk.1.1, ⟨hk.1.2.1, ⟨hk.1.2.2, ⟨(by simp [Value.ownBlock]), (by simp [Value.ownBlock])⟩⟩⟩⟩)⟩, ⟨by (with_reducible repeat (first | apply Kd.R_alloc | apply Kd.R_drewN | apply Kd.R_drew)); exact Kd.R_mono (Kd.R_far (p := ⟨gb279, 3, none⟩) (Kd.R_far (p := ⟨gb279, 2, none⟩) (Kd.R_far (p := ⟨gb279, 1, none⟩) (Kd.R_far (p := ⟨gb279, 0, none⟩) (Kd.R_types HO_276003.out BK279.out (by decide)) (fun _ hk => hk.2) (.string a0_0)) (fun _ hk => hk.2) (.int .i64 a1)) (fun _ hk => hk.2) (.slice none 0 0)) (fun _ hk => hk.2) (.slice none 0 0)) (fun _ hk => ⟨hk.1.1, ⟨hk.1.2.1, ⟨hk.1.2.2, ⟨(by simp [Value.ownBlock]), (by simp [Value.ownBlock])⟩⟩⟩⟩)⟩, ⟨by first | exact Kd.R_nil _ _ _ _ _ | exact Kd.N_nil _ _ _ _ _ | exact Kd.V_nil _ _ _ _ _ | exact Kd.Q_nil _ _ _ _ _ | exact Kd.S_nil _ _ _ _ _⟩, ⟨by first | exact Kd.R_nil _ _ _ _ _ | exact Kd.N_nil _ _ _ _ _ | exact Kd.V_nil _ _ _ _ _ | exact Kd.Q_nil _ _ _ _ _ | exact Kd.S_nil _ _ _ _ _⟩, ⟨bk BK238⟩, ⟨bk BK263⟩, ⟨bk BK275⟩, ⟨bk BK279⟩, ⟨be⟩⟩
          case round =>
           clear H'
           (try clear c1); (try clear c2); (try clear p2); (try clear q2); (try clear hx2); (try clear qi2); (try clear c3); (try clear c4); (try clear c5); (try clear c6); (try clear p6); (try clear c13); (try clear c17); (try clear c17b0); (try clear c17b1); (try clear c18); (try clear c18b0); (try clear c18b1); (try clear c19); (try clear c19b0); (try clear c19b1); (try clear c20); (try clear c20b0); (try clear c20b1); (try clear c21); (try clear c21b0); (try clear c21b1); (try clear c22); (try clear c24); (try clear c25); (try clear c26); (try clear p26); (try clear q26); (try clear hx26); (try clear qi26); (try clear c27); (try clear c28); (try clear c30); (try clear c30b0); (try clear c32); (try clear c36); (try clear c40); (try clear c41); (try clear c47); (try clear c47b0); (try clear c47b1); (try clear c49); (try clear c51); (try clear c52); (try clear c53); (try clear c56); (try clear c57); (try clear c58); (try clear hcz14_0); (try clear hcz14_1); (try clear hcz14_2); (try clear hcz14_3); (try clear hcz23_0); (try clear hcz23_1); (try clear hcz23_2); (try clear hcz23_3); (try clear hcz25_0); (try clear hcz25_1); (try clear hcz25_2); (try clear hcz25_3); (try clear hcz27_0); (try clear hcz27_1); (try clear hcz27_2); (try clear hcz27_3); (try clear hcz37_0); (try clear hcz37_1); (try clear hcz37_10); (try clear hcz37_2); (try clear hcz37_3); (try clear hcz37_4); (try clear hcz37_5); (try clear hcz37_6); (try clear hcz37_7); (try clear hcz37_8); (try clear hcz37_9); (try clear hcz42_0); (try clear hcz42_1); (try clear hcz42_2); (try clear hcz42_3); (try clear hcz45_0); (try clear hcz45_1); (try clear hcz45_10); (try clear hcz45_2); (try clear hcz45_3); (try clear hcz45_4); (try clear hcz45_5); (try clear hcz45_6); (try clear hcz45_7); (try clear hcz45_8); (try clear hcz45_9); (try clear hcz54_0); (try clear hcz54_1); (try clear hcz54_10); (try clear hcz54_2); (try clear hcz54_3); (try clear hcz54_4); (try clear hcz54_5); (try clear hcz54_6); (try clear hcz54_7); (try clear hcz54_8); (try clear hcz54_9); (try clear hcz59_0); (try clear hcz59_1); (try clear hcz59_2); (try clear hcz59_3); (try clear hfz14_0); (try clear hfz14_1); (try clear hfz14_2); (try clear hfz14_3); (try clear hfz23_0); (try clear hfz23_1); (try clear hfz23_2); (try clear hfz23_3); (try clear hfz25_0); (try clear hfz25_1); (try clear hfz25_2); (try clear hfz25_3); (try clear hfz27_0); (try clear hfz27_1); (try clear hfz27_2); (try clear hfz27_3); (try clear hfz37_0); (try clear hfz37_1); (try clear hfz37_10); (try clear hfz37_2); (try clear hfz37_3); (try clear hfz37_4); (try clear hfz37_5); (try clear hfz37_6); (try clear hfz37_7); (try clear hfz37_8); (try clear hfz37_9); (try clear hfz42_0); (try clear hfz42_1); (try clear hfz42_2); (try clear hfz42_3); (try clear hfz45_0); (try clear hfz45_1); (try clear hfz45_10); (try clear hfz45_2); (try clear hfz45_3); (try clear hfz45_4); (try clear hfz45_5); (try clear hfz45_6); (try clear hfz45_7); (try clear hfz45_8); (try clear hfz45_9); (try clear hfz54_0); (try clear hfz54_1); (try clear hfz54_10); (try clear hfz54_2); (try clear hfz54_3); (try clear hfz54_4); (try clear hfz54_5); (try clear hfz54_6); (try clear hfz54_7); (try clear hfz54_8); (try clear hfz54_9); (try clear hfz59_0); (try clear hfz59_1); (try clear hfz59_2); (try clear hfz59_3); (try clear hx264_0); (try clear hx265_0); (try clear p2); (try clear p26); (try clear p264); (try clear p265); (try clear p6); (try clear q2); (try clear q26); (try clear q264); (try clear q265)
           obtain ⟨x13_5, x280002_5, x280003_5, u280002, u280003, rfl, HA, HK5, HO_264002, HO_264003, HO_276002, HO_276003, HO_280002, HO_280003, BK238, BK263, BK275, BK279, HB⟩ := hrel
           cases gk with
           | zero => exact absurd HA.out (by simp [ephemerislaw1_ObservedOfs.l0])
           | succ k5 =>
            have H := HA.out
            clear HA
            simp only [ephemerislaw1_ObservedOfs.l0] at H
            have HC60 := Aside0.mk H
            clear H
            go_upto_region 15 with (fail)
            go_cut [87] (fun v87 wc => ∃ (kq : Nat) (x87_59 : Bool), v87 = .bool x87_59 ∧ Aside0 (ephemerislaw1_ObservedOfs.j5 kq a1 x2_30 t274 x11_34 x13_5 x87_59 a0_0 a0_1 a0_2 a0_3 a0_4 a0_5 a0_6 a0_7 a0_8 l0_9 l0_10 t266 t267 t268 t271 a0_0 a1 x280002_5 x280003_5 = some r) ∧ Aside0 (kq ≤ k5) ∧ Aside0 (Kd.R (Kd.int .i64) 3 wc w.heap.size (fun k_ => some k_ ≠ ((.slice Ao16 t259.length co16) : Value).ownBlock ∧ some k_ ≠ ((.slice Ao43 t268.length co43) : Value).ownBlock ∧ some k_ ≠ ((.slice Ao44 t271.length co44) : Value).ownBlock ∧ some k_ ≠ (u280002 : Value).ownBlock ∧ some k_ ≠ (u280003 : Value).ownBlock) (.slice Ao15 t256.length co15) t256) ∧ Aside0 (Kd.R (Kd.int .i64) 3 wc w.heap.size (fun k_ => some k_ ≠ ((.slice Ao15 t256.length co15) : Value).ownBlock ∧ some k_ ≠ ((.slice Ao43 t268.length co43) : Value).ownBlock ∧ some k_ ≠ ((.slice Ao44 t271.length co44) : Value).ownBlock ∧ some k_ ≠ (u280002 : Value).ownBlock ∧ some k_ ≠ (u280003 : Value).ownBlock) (.slice Ao16 t259.length co16) t259) ∧ Aside0 (Kd.R (Kd.int .i64) 3 wc w.heap.size (fun k_ => some k_ ≠ ((.slice Ao15 t256.length co15) : Value).ownBlock ∧ some k_ ≠ ((.slice Ao16 t259.length co16) : Value).ownBlock ∧ some k_ ≠ ((.slice Ao44 t271.length co44) : Value).ownBlock ∧ some k_ ≠ (u280002 : Value).ownBlock ∧ some k_ ≠ (u280003 : Value).ownBlock) (.slice Ao43 t268.length co43) t268) ∧ Aside0 (Kd.R (Kd.int .i64) 3 wc w.heap.size (fun k_ => some k_ ≠ ((.slice Ao15 t256.length co15) : Value).ownBlock ∧ some k_ ≠ ((.slice Ao16 t259.length co16) : Value).ownBlock ∧ some k_ ≠ ((.slice Ao43 t268.length co43) : Value).ownBlock ∧ some k_ ≠ (u280002 : Value).ownBlock ∧ some k_ ≠ (u280003 : Value).ownBlock) (.slice Ao44 t271.length co44) t271) ∧ Aside0 (Kd.R (Kd.int .i64) 3 wc w.heap.size (fun k_ => some k_ ≠ ((.slice Ao15 t256.length co15) : Value).ownBlock ∧ some k_ ≠ ((.slice Ao16 t259.length co16) : Value).ownBlock ∧ some k_ ≠ ((.slice Ao43 t268.length co43) : Value).ownBlock ∧ some k_ ≠ ((.slice Ao44 t271.length co44) : Value).ownBlock ∧ some k_ ≠ (u280003 : Value).ownBlock) u280002 x280002_5) ∧ Aside0 (Kd.R (Kd.int .i64) 3 wc w.heap.size (fun k_ => some k_ ≠ ((.slice Ao15 t256.length co15) : Value).ownBlock ∧ some k_ ≠ ((.slice Ao16 t259.length co16) : Value).ownBlock ∧ some k_ ≠ ((.slice Ao43 t268.length co43) : Value).ownBlock ∧ some k_ ≠ ((.slice Ao44 t271.length co44) : Value).ownBlock ∧ some k_ ≠ (u280002 : Value).ownBlock) u280003 x280003_5) ∧ Aside0 (wc.heap[gb238]? = some (.cells #[.string a0_0, .int .i64 a0_1, .int .i64 a0_2, .int .i64 a0_3, .int .i64 a0_4, .int .i64 a0_5, .int .i64 a0_6, .int .i64 a0_7, .int .i64 a0_8, (.slice A0_9 l0_9.length c0_9), (.slice A0_10 l0_10.length c0_10)] 60 (0, 0))) ∧ Aside0 (wc.heap[gb263]? = some (.cells #[.string t254, .int .i64 t255, (.slice Ao15 t256.length co15), (.slice Ao16 t259.length co16)] 24 (0, 0))) ∧ Aside0 (wc.heap[gb275]? = some (.cells #[.string t266, .int .i64 t267, (.slice Ao43 t268.length co43), (.slice Ao44 t271.length co44)] 24 (0, 0))) ∧ Aside0 (wc.heap[gb279]? = some (.cells #[.string a0_0, .int .i64 a1, u280002, u280003] 24 (0, 0))) ∧ Aside0 (Below w.heap.size w wc))
            case first =>
             have H := HC60.out
             clear HC60
             by_cases c61 : x11_34 = 0
             ·rw [if_pos c61] at H
              have c61b0 : (x11_34 == 0) = true := beq_iff_eq.mpr c61
              have c61b1 : (x11_34 != 0) = false := bne_eq_false_iff_eq.mpr c61
              clear c61
              (first | rw [c61b0] | (simp only [i64_w, i32_w]; rw [c61b0]) | skip)
              have H' := Aside0.mk H
              clear H
              go_wp2
              go_meet
              case rel => exact ⟨_, (decide (x13_5 < (wrap64 (a1 + x2_30)))), rs, H', ⟨by have := HJ5.out; have := HJ28.out; have := HJ30.out; have := HJ34.out; have := HK5.out; first | omega | exact Nat.le_refl _⟩, ⟨by (with_reducible repeat (first | apply Kd.R_alloc | apply Kd.R_drewN | apply Kd.R_drew)); exact HO_264002.out⟩, ⟨by (with_reducible repeat (first | apply Kd.R_alloc | apply Kd.R_drewN | apply Kd.R_drew)); exact HO_264003.out⟩, ⟨by (with_reducible repeat (first | apply Kd.R_alloc | apply Kd.R_drewN | apply Kd.R_drew)); exact HO_276002.out⟩, ⟨by (with_reducible repeat (first | apply Kd.R_alloc | apply Kd.R_drewN | apply Kd.R_drew)); exact HO_276003.out⟩, ⟨by (with_reducible repeat (first | apply Kd.R_alloc | apply Kd.R_drewN | apply Kd.R_drew)); exact HO_280002.out⟩, ⟨by (with_reducible repeat (first | apply Kd.R_alloc | apply Kd.R_drewN | apply Kd.R_drew)); exact HO_280003.out⟩, ⟨bk BK238⟩, ⟨bk BK263⟩, ⟨bk BK275⟩, ⟨bk BK279⟩, ⟨be⟩⟩
             ·rw [if_neg c61] at H
              have c61b0 : (x11_34 == 0) = false := beq_eq_false_iff_ne.mpr c61
              have c61b1 : (x11_34 != 0) = true := bne_iff_ne.mpr c61
              (first | rw [c61b0] | (simp only [i64_w, i32_w]; rw [c61b0]) | skip)
              have H' := Aside0.mk H
              clear H
              go_wp2
              go_meet
              case rel => exact ⟨_, (false), rs, H', ⟨by have := HJ5.out; have := HJ28.out; have := HJ30.out; have := HJ34.out; have := HK5.out; first | omega | exact Nat.le_refl _⟩, ⟨by (with_reducible repeat (first | apply Kd.R_alloc | apply Kd.R_drewN | apply Kd.R_drew)); exact HO_264002.out⟩, ⟨by (with_reducible repeat (first | apply Kd.R_alloc | apply Kd.R_drewN | apply Kd.R_drew)); exact HO_264003.out⟩, ⟨by (with_reducible repeat (first | apply Kd.R_alloc | apply Kd.R_drewN | apply Kd.R_drew)); exact HO_276002.out⟩, ⟨by (with_reducible repeat (first | apply Kd.R_alloc | apply Kd.R_drewN | apply Kd.R_drew)); exact HO_276003.out⟩, ⟨by (with_reducible repeat (first | apply Kd.R_alloc | apply Kd.R_drewN | apply Kd.R_drew)); exact HO_280002.out⟩, ⟨by (with_reducible repeat (first | apply Kd.R_alloc | apply Kd.R_drewN | apply Kd.R_drew)); exact HO_280003.out⟩, ⟨bk BK238⟩, ⟨bk BK263⟩, ⟨bk BK275⟩, ⟨bk BK279⟩, ⟨be⟩⟩
            case rest =>
             clear HC60
             (try clear c1); (try clear c2); (try clear p2); (try clear q2); (try clear hx2); (try clear qi2); (try clear c3); (try clear c4); (try clear c5); (try clear c6); (try clear p6); (try clear c13); (try clear c17); (try clear c17b0); (try clear c17b1); (try clear c18); (try clear c18b0); (try clear c18b1); (try clear c19); (try clear c19b0); (try clear c19b1); (try clear c20); (try clear c20b0); (try clear c20b1); (try clear c21); (try clear c21b0); (try clear c21b1); (try clear c22); (try clear c24); (try clear c25); (try clear c26); (try clear p26); (try clear q26); (try clear hx26); (try clear qi26); (try clear c27); (try clear c28); (try clear c30); (try clear c30b0); (try clear c32); (try clear c36); (try clear c40); (try clear c41); (try clear c47); (try clear c47b0); (try clear c47b1); (try clear c49); (try clear c51); (try clear c52); (try clear c53); (try clear c56); (try clear c57); (try clear c58); (try clear c61); (try clear c61b0); (try clear c61b1); (try clear hcz14_0); (try clear hcz14_1); (try clear hcz14_2); (try clear hcz14_3); (try clear hcz23_0); (try clear hcz23_1); (try clear hcz23_2); (try clear hcz23_3); (try clear hcz25_0); (try clear hcz25_1); (try clear hcz25_2); (try clear hcz25_3); (try clear hcz27_0); (try clear hcz27_1); (try clear hcz27_2); (try clear hcz27_3); (try clear hcz37_0); (try clear hcz37_1); (try clear hcz37_10); (try clear hcz37_2); (try clear hcz37_3); (try clear hcz37_4); (try clear hcz37_5); (try clear hcz37_6); (try clear hcz37_7); (try clear hcz37_8); (try clear hcz37_9); (try clear hcz42_0); (try clear hcz42_1); (try clear hcz42_2); (try clear hcz42_3); (try clear hcz45_0); (try clear hcz45_1); (try clear hcz45_10); (try clear hcz45_2); (try clear hcz45_3); (try clear hcz45_4); (try clear hcz45_5); (try clear hcz45_6); (try clear hcz45_7); (try clear hcz45_8); (try clear hcz45_9); (try clear hcz54_0); (try clear hcz54_1); (try clear hcz54_10); (try clear hcz54_2); (try clear hcz54_3); (try clear hcz54_4); (try clear hcz54_5); (try clear hcz54_6); (try clear hcz54_7); (try clear hcz54_8); (try clear hcz54_9); (try clear hcz59_0); (try clear hcz59_1); (try clear hcz59_2); (try clear hcz59_3); (try clear hfz14_0); (try clear hfz14_1); (try clear hfz14_2); (try clear hfz14_3); (try clear hfz23_0); (try clear hfz23_1); (try clear hfz23_2); (try clear hfz23_3); (try clear hfz25_0); (try clear hfz25_1); (try clear hfz25_2); (try clear hfz25_3); (try clear hfz27_0); (try clear hfz27_1); (try clear hfz27_2); (try clear hfz27_3); (try clear hfz37_0); (try clear hfz37_1); (try clear hfz37_10); (try clear hfz37_2); (try clear hfz37_3); (try clear hfz37_4); (try clear hfz37_5); (try clear hfz37_6); (try clear hfz37_7); (try clear hfz37_8); (try clear hfz37_9); (try clear hfz42_0); (try clear hfz42_1); (try clear hfz42_2); (try clear hfz42_3); (try clear hfz45_0); (try clear hfz45_1); (try clear hfz45_10); (try clear hfz45_2); (try clear hfz45_3); (try clear hfz45_4); (try clear hfz45_5); (try clear hfz45_6); (try clear hfz45_7); (try clear hfz45_8); (try clear hfz45_9); (try clear hfz54_0); (try clear hfz54_1); (try clear hfz54_10); (try clear hfz54_2); (try clear hfz54_3); (try clear hfz54_4); (try clear hfz54_5); (try clear hfz54_6); (try clear hfz54_7); (try clear hfz54_8); (try clear hfz54_9); (try clear hfz59_0); (try clear hfz59_1); (try clear hfz59_2); (try clear hfz59_3); (try clear hx264_0); (try clear hx265_0); (try clear p2); (try clear p26); (try clear p264); (try clear p265); (try clear p6); (try clear q2); (try clear q26); (try clear q264); (try clear q265)
             obtain ⟨kq, x87_59, rfl, HA, HJ59, HO_264002, HO_264003, HO_276002, HO_276003, HO_280002, HO_280003, BK238, BK263, BK275, BK279, HB⟩ := hcut
             cases kq with
             | zero => exact absurd HA.out (by simp [ephemerislaw1_ObservedOfs.j5])
             | succ kj59 =>
              have H := HA.out
              clear HA
              simp only [ephemerislaw1_ObservedOfs.j5] at H
              by_cases c62 : x87_59 = true
              ·subst c62
               have H1 : ((ephemerisref1_MoonMonths.f kj59 a0_0 a0_1 a0_2 a0_3 a0_4 a0_5 a0_6 a0_7 a0_8 l0_9 l0_10 x13_5).bind fun t280 => (if x280002_5.length < 17592186044416 then (ephemerislaw1_ObservedOfs.l1 kj59 a1 x2_30 t274 x11_34 x13_5 t280 1 a0_0 a0_1 a0_2 a0_3 a0_4 a0_5 a0_6 a0_7 a0_8 l0_9 l0_10 t266 t267 t268 t271 a0_0 a1 (x280002_5 ++ [t280]) x280003_5) else (none))) = some r := by rw [if_pos rfl] at H; exact H
               clear H
               have H := H1
               clear H1
               replace H := Option.bind_eq_some_iff.mp H
               obtain ⟨t280, A630, H⟩ := H
               replace H : (if x280002_5.length < 17592186044416 then (ephemerislaw1_ObservedOfs.l1 kj59 a1 x2_30 t274 x11_34 x13_5 t280 1 a0_0 a0_1 a0_2 a0_3 a0_4 a0_5 a0_6 a0_7 a0_8 l0_9 l0_10 t266 t267 t268 t271 a0_0 a1 (x280002_5 ++ [t280]) x280003_5) else (none)) = some r := H
               have A63 := Aside0.mk A630
               clear A630
               by_cases c64 : x280002_5.length < 17592186044416
               ·rw [if_pos c64] at H
                have LMc64 := Aside0.mk c64
                clear c64
                obtain ⟨y281, hy281⟩ : ∃ y_ : List Int, y_ = (x280002_5 ++ [t280]) := ⟨_, rfl⟩
                replace H : (ephemerislaw1_ObservedOfs.l1 kj59 a1 x2_30 t274 x11_34 x13_5 t280 1 a0_0 a0_1 a0_2 a0_3 a0_4 a0_5 a0_6 a0_7 a0_8 l0_9 l0_10 t266 t267 t268 t271 a0_0 a1 y281 x280003_5) = some r := rp hy281 H
                have Ny281 := Aside0.mk hy281
                clear hy281
                have H' := Aside0.mk H
                clear H
                have hnb65 := NB238_263.out
                have hnc65 := NB263_238.out
                have hnb66 := NB238_275.out
                have hnc66 := NB275_238.out
                have hnb67 := NB238_279.out
                have hnc67 := NB279_238.out
                obtain ⟨hcz68_0, hcz68_1, hcz68_2, hcz68_3, hcz68_4, hcz68_5, hcz68_6, hcz68_7, hcz68_8, hcz68_9, hcz68_10, hfz68_0, hfz68_1, hfz68_2, hfz68_3, hfz68_4, hfz68_5, hfz68_6, hfz68_7, hfz68_8, hfz68_9, hfz68_10⟩ := bc11 BK238
                go_wp2_with (first | ((with_reducible refine gate_callee (f := 28) rfl ?_); refine goesL_ (some 92) rfl rfl Try.func28 kx rfl #[.agg #[.string a0_0, .int .i64 a0_1, .int .i64 a0_2, .int .i64 a0_3, .int .i64 a0_4, .int .i64 a0_5, .int .i64 a0_6, .int .i64 a0_7, .int .i64 a0_8, .slice A0_9 l0_9.length c0_9, .slice A0_10 l0_10.length c0_10], .int .i64 x13_5] rfl aa ?_; (with_reducible refine (ephemerisref1_MoonMonths.calls kj59 a0_0 a0_1 a0_2 a0_3 a0_4 a0_5 a0_6 a0_7 a0_8 _ _ l0_9 _ _ l0_10 x13_5 t280 _ ?side1 ?side2 ?side3 ?side4 A63.out).mono ?_); (case side1 => exact kc (Kd.C_below HR0_9.out HB.out)); (case side2 => exact HC0_9.out); (case side3 => exact kc (Kd.C_below HR0_10.out HB.out)); (case side4 => exact HC0_10.out); rintro e w69 ⟨rfl, hb⟩; refine ⟨_, rfl, ?_⟩; have n0_ := Aside0.mk (Kd.R_below (by (with_reducible repeat (first | apply Kd.R_alloc | apply Kd.R_drewN | apply Kd.R_drew)); exact HO_264002.out) hb); have n1_ := Aside0.mk (Kd.R_below (by (with_reducible repeat (first | apply Kd.R_alloc | apply Kd.R_drewN | apply Kd.R_drew)); exact HO_264003.out) hb); have n2_ := Aside0.mk (Kd.R_below (by (with_reducible repeat (first | apply Kd.R_alloc | apply Kd.R_drewN | apply Kd.R_drew)); exact HO_276002.out) hb); have n3_ := Aside0.mk (Kd.R_below (by (with_reducible repeat (first | apply Kd.R_alloc | apply Kd.R_drewN | apply Kd.R_drew)); exact HO_276003.out) hb); have n4_ := Aside0.mk (Kd.R_below (by (with_reducible repeat (first | apply Kd.R_alloc | apply Kd.R_drewN | apply Kd.R_drew)); exact HO_280002.out) hb); have n5_ := Aside0.mk (Kd.R_below (by (with_reducible repeat (first | apply Kd.R_alloc | apply Kd.R_drewN | apply Kd.R_drew)); exact HO_280003.out) hb); have n6_ := bb BK238 hb; have n7_ := bb BK263 hb; have n8_ := bb BK275 hb; have n9_ := bb BK279 hb; have n10_ := Aside0.mk (below_step be hb); clear HO_264002; clear HO_264003; clear HO_276002; clear HO_276003; clear HO_280002; clear HO_280003; clear BK238; clear BK263; clear BK275; clear BK279; clear HB; have HO_264002 := n0_; have HO_264003 := n1_; have HO_276002 := n2_; have HO_276003 := n3_; have HO_280002 := n4_; have HO_280003 := n5_; have BK238 := n6_; have BK263 := n7_; have BK275 := n8_; have BK279 := n9_; have HB := n10_; clear n0_ n1_ n2_ n3_ n4_ n5_ n6_ n7_ n8_ n9_ n10_; (try clear hb); (try clear hb2); (try clear hk); (try clear hi); have hnb70 := NB279_263.out; have hnc70 := NB263_279.out; have hnb71 := NB279_275.out; have hnc71 := NB275_279.out; obtain ⟨hcz72_0, hcz72_1, hcz72_2, hcz72_3, hfz72_0, hfz72_1, hfz72_2, hfz72_3⟩ := bc4 BK279) | ((with_reducible refine gate_builtin (b := .append) (xs := #[.tmp 94, .tmp 96]) rfl ?_); (try (refine gate_guard (by rfl) ?_; dsimp only)); at_builtin; refine Kd.R_append (Kd.int .i64) (w0 := w) w.heap.size rfl (.tmp 94) (.tmp 96) 22 3 (.int .i64 0) 8 rfl Try.underlying22 info3 rfl (by decide) (by omega) u280002 x280002_5 t280 [.int .i64 t280] (fun k_ => some k_ ≠ (.slice Ao15 t256.length co15 : Value).ownBlock ∧ some k_ ≠ (.slice Ao16 t259.length co16 : Value).ownBlock ∧ some k_ ≠ (.slice Ao43 t268.length co43 : Value).ownBlock ∧ some k_ ≠ (.slice Ao44 t271.length co44 : Value).ownBlock ∧ some k_ ≠ (u280003 : Value).ownBlock) (fun _ => False) rfl rfl ?aP (fun _ hk => hk.elim) ?aF ?aO ?aB ?aS ?aL ?_; (case aP => exact rfl); (case aB => exact be); (case aF => exact (fun k_ hk => ⟨Kd.fresh' (Kd.R_lt (by (with_reducible repeat (first | apply Kd.R_alloc | apply Kd.R_drewN | apply Kd.R_drew)); exact HO_264002.out)) k_ hk, Kd.fresh' (Kd.R_lt (by (with_reducible repeat (first | apply Kd.R_alloc | apply Kd.R_drewN | apply Kd.R_drew)); exact HO_264003.out)) k_ hk, Kd.fresh' (Kd.R_lt (by (with_reducible repeat (first | apply Kd.R_alloc | apply Kd.R_drewN | apply Kd.R_drew)); exact HO_276002.out)) k_ hk, Kd.fresh' (Kd.R_lt (by (with_reducible repeat (first | apply Kd.R_alloc | apply Kd.R_drewN | apply Kd.R_drew)); exact HO_276003.out)) k_ hk, Kd.fresh' (Kd.R_lt (by (with_reducible repeat (first | apply Kd.R_alloc | apply Kd.R_drewN | apply Kd.R_drew)); exact HO_280003.out)) k_ hk⟩)); (case aO => exact (by (with_reducible repeat (first | apply Kd.R_alloc | apply Kd.R_drewN | apply Kd.R_drew)); exact HO_280002.out)); (case aS => exact (below_size be)); (case aL => have := LMc64.out; omega); intro v282 w73 ho hb hg hat; rw [← Ny281.out] at ho; have n0_ := Aside0.mk (Kd.R_after (ok := (fun k_ => some k_ ≠ (.slice Ao16 t259.length co16 : Value).ownBlock ∧ some k_ ≠ (.slice Ao43 t268.length co43 : Value).ownBlock ∧ some k_ ≠ (.slice Ao44 t271.length co44 : Value).ownBlock ∧ some k_ ≠ (u280003 : Value).ownBlock)) (by (with_reducible repeat (first | apply Kd.R_alloc | apply Kd.R_drewN | apply Kd.R_drew)); exact Kd.R_mono HO_264002.out (fun _ hk => ⟨⟨hk.1, ⟨hk.2.1, ⟨hk.2.2.1, hk.2.2.2.2⟩⟩⟩, hk.2.2.2.1⟩)) hg hat); have n1_ := Aside0.mk (Kd.R_after (ok := (fun k_ => some k_ ≠ (.slice Ao15 t256.length co15 : Value).ownBlock ∧ some k_ ≠ (.slice Ao43 t268.length co43 : Value).ownBlock ∧ some k_ ≠ (.slice Ao44 t271.length co44 : Value).ownBlock ∧ some k_ ≠ (u280003 : Value).ownBlock)) (by (with_reducible repeat (first | apply Kd.R_alloc | apply Kd.R_drewN | apply Kd.R_drew)); exact Kd.R_mono HO_264003.out (fun _ hk => ⟨⟨hk.1, ⟨hk.2.1, ⟨hk.2.2.1, hk.2.2.2.2⟩⟩⟩, hk.2.2.2.1⟩)) hg hat); have n2_ := Aside0.mk (Kd.R_after (ok := (fun k_ => some k_ ≠ (.slice Ao15 t256.length co15 : Value).ownBlock ∧ some k_ ≠ (.slice Ao16 t259.length co16 : Value).ownBlock ∧ some k_ ≠ (.slice Ao44 t271.length co44 : Value).ownBlock ∧ some k_ ≠ (u280003 : Value).ownBlock)) (by (with_reducible repeat (first | apply Kd.R_alloc | apply Kd.R_drewN | apply Kd.R_drew)); exact Kd.R_mono HO_276002.out (fun _ hk => ⟨⟨hk.1, ⟨hk.2.1, ⟨hk.2.2.1, hk.2.2.2.2⟩⟩⟩, hk.2.2.2.1⟩)) hg hat); have n3_ := Aside0.mk (Kd.R_after (ok := (fun k_ => some k_ ≠ (.slice Ao15 t256.length co15 : Value).ownBlock ∧ some k_ ≠ (.slice Ao16 t259.length co16 : Value).ownBlock ∧ some k_ ≠ (.slice Ao43 t268.length co43 : Value).ownBlock ∧ some k_ ≠ (u280003 : Value).ownBlock)) (by (with_reducible repeat (first | apply Kd.R_alloc | apply Kd.R_drewN | apply Kd.R_drew)); exact Kd.R_mono HO_276003.out (fun _ hk => ⟨⟨hk.1, ⟨hk.2.1, ⟨hk.2.2.1, hk.2.2.2.2⟩⟩⟩, hk.2.2.2.1⟩)) hg hat); have n4_ := Aside0.mk (Kd.R_after (ok := (fun k_ => some k_ ≠ (.slice Ao15 t256.length co15 : Value).ownBlock ∧ some k_ ≠ (.slice Ao16 t259.length co16 : Value).ownBlock ∧ some k_ ≠ (.slice Ao43 t268.length co43 : Value).ownBlock ∧ some k_ ≠ (.slice Ao44 t271.length co44 : Value).ownBlock)) (by (with_reducible repeat (first | apply Kd.R_alloc | apply Kd.R_drewN | apply Kd.R_drew)); exact Kd.R_mono HO_280003.out (fun _ hk => ⟨⟨hk.1, ⟨hk.2.1, ⟨hk.2.2.1, hk.2.2.2.1⟩⟩⟩, hk.2.2.2.2⟩)) hg hat); have n5_ := Aside0.mk (blk_grown (g := gb238) (o := .cells #[.string a0_0, .int .i64 a0_1, .int .i64 a0_2, .int .i64 a0_3, .int .i64 a0_4, .int .i64 a0_5, .int .i64 a0_6, .int .i64 a0_7, .int .i64 a0_8, .slice A0_9 l0_9.length c0_9, .slice A0_10 l0_10.length c0_10] 60 (0, 0)) (bk BK238) hg (Kd.R_ne HO_280002.out BK238.out (by decide))); have n6_ := Aside0.mk (blk_grown (g := gb263) (o := .cells #[.string t254, .int .i64 t255, .slice Ao15 t256.length co15, .slice Ao16 t259.length co16] 24 (0, 0)) (bk BK263) hg (Kd.R_ne HO_280002.out BK263.out (by decide))); have n7_ := Aside0.mk (blk_grown (g := gb275) (o := .cells #[.string t266, .int .i64 t267, .slice Ao43 t268.length co43, .slice Ao44 t271.length co44] 24 (0, 0)) (bk BK275) hg (Kd.R_ne HO_280002.out BK275.out (by decide))); have n8_ := Aside0.mk (blk_grown (g := gb279) (o := .cells #[.string a0_0, .int .i64 a1, u280002, u280003] 24 (0, 0)) (bk BK279) hg (Kd.R_ne HO_280002.out BK279.out (by decide))); have n9_ := Aside0.mk (hb); have n10_ := Aside0.mk (ho); clear HO_264002; clear HO_264003; clear HO_276002; clear HO_276003; clear HO_280003; clear BK238; clear BK263; clear BK275; clear BK279; clear HB; clear HO_280002; have HO_264002 := n0_; have HO_264003 := n1_; have HO_276002 := n2_; have HO_276003 := n3_; have HO_280003 := n4_; have BK238 := n5_; have BK263 := n6_; have BK275 := n7_; have BK279 := n8_; have HB := n9_; have HO283 := n10_; clear n0_ n1_ n2_ n3_ n4_ n5_ n6_ n7_ n8_ n9_ n10_; clear ho hb hg hat; obtain ⟨Ao74, co74, eo74⟩ := Kd.R_slice HO283.out; subst eo74; obtain ⟨hcz75_0, hcz75_1, hcz75_2, hcz75_3, hfz75_0, hfz75_1, hfz75_2, hfz75_3⟩ := bc4 BK279))
                go_loopg [15] kj59 (fun kq v15 w' => ∃ (x15_7 : Int) (x280003_7 : List Int) (u280003 : Value), v15 = .int .i64 x15_7 ∧ Aside0 (ephemerislaw1_ObservedOfs.l1 kq a1 x2_30 t274 x11_34 x13_5 t280 x15_7 a0_0 a0_1 a0_2 a0_3 a0_4 a0_5 a0_6 a0_7 a0_8 l0_9 l0_10 t266 t267 t268 t271 a0_0 a1 y281 x280003_7 = some r) ∧ Aside0 (kq ≤ kj59) ∧ Aside0 (Kd.R (Kd.int .i64) 3 w' w.heap.size (fun k_ => some k_ ≠ ((.slice Ao16 t259.length co16) : Value).ownBlock ∧ some k_ ≠ ((.slice Ao43 t268.length co43) : Value).ownBlock ∧ some k_ ≠ ((.slice Ao44 t271.length co44) : Value).ownBlock ∧ some k_ ≠ ((.slice Ao74 y281.length co74) : Value).ownBlock ∧ some k_ ≠ (u280003 : Value).ownBlock) (.slice Ao15 t256.length co15) t256) ∧ Aside0 (Kd.R (Kd.int .i64) 3 w' w.heap.size (fun k_ => some k_ ≠ ((.slice Ao15 t256.length co15) : Value).ownBlock ∧ some k_ ≠ ((.slice Ao43 t268.length co43) : Value).ownBlock ∧ some k_ ≠ ((.slice Ao44 t271.length co44) : Value).ownBlock ∧ some k_ ≠ ((.slice Ao74 y281.length co74) : Value).ownBlock ∧ some k_ ≠ (u280003 : Value).ownBlock) (.slice Ao16 t259.length co16) t259) ∧ Aside0 (Kd.R (Kd.int .i64) 3 w' w.heap.size (fun k_ => some k_ ≠ ((.slice Ao15 t256.length co15) : Value).ownBlock ∧ some k_ ≠ ((.slice Ao16 t259.length co16) : Value).ownBlock ∧ some k_ ≠ ((.slice Ao44 t271.length co44) : Value).ownBlock ∧ some k_ ≠ ((.slice Ao74 y281.length co74) : Value).ownBlock ∧ some k_ ≠ (u280003 : Value).ownBlock) (.slice Ao43 t268.length co43) t268) ∧ Aside0 (Kd.R (Kd.int .i64) 3 w' w.heap.size (fun k_ => some k_ ≠ ((.slice Ao15 t256.length co15) : Value).ownBlock ∧ some k_ ≠ ((.slice Ao16 t259.length co16) : Value).ownBlock ∧ some k_ ≠ ((.slice Ao43 t268.length co43) : Value).ownBlock ∧ some k_ ≠ ((.slice Ao74 y281.length co74) : Value).ownBlock ∧ some k_ ≠ (u280003 : Value).ownBlock) (.slice Ao44 t271.length co44) t271) ∧ Aside0 (Kd.R (Kd.int .i64) 3 w' w.heap.size (fun k_ => some k_ ≠ ((.slice Ao15 t256.length co15) : Value).ownBlock ∧ some k_ ≠ ((.slice Ao16 t259.length co16) : Value).ownBlock ∧ some k_ ≠ ((.slice Ao43 t268.length co43) : Value).ownBlock ∧ some k_ ≠ ((.slice Ao44 t271.length co44) : Value).ownBlock ∧ some k_ ≠ (u280003 : Value).ownBlock) (.slice Ao74 y281.length co74) y281) ∧ Aside0 (Kd.R (Kd.int .i64) 3 w' w.heap.size (fun k_ => some k_ ≠ ((.slice Ao15 t256.length co15) : Value).ownBlock ∧ some k_ ≠ ((.slice Ao16 t259.length co16) : Value).ownBlock ∧ some k_ ≠ ((.slice Ao43 t268.length co43) : Value).ownBlock ∧ some k_ ≠ ((.slice Ao44 t271.length co44) : Value).ownBlock ∧ some k_ ≠ ((.slice Ao74 y281.length co74) : Value).ownBlock) u280003 x280003_7) ∧ Aside0 (w'.heap[gb238]? = some (.cells #[.string a0_0, .int .i64 a0_1, .int .i64 a0_2, .int .i64 a0_3, .int .i64 a0_4, .int .i64 a0_5, .int .i64 a0_6, .int .i64 a0_7, .int .i64 a0_8, (.slice A0_9 l0_9.length c0_9), (.slice A0_10 l0_10.length c0_10)] 60 (0, 0))) ∧ Aside0 (w'.heap[gb263]? = some (.cells #[.string t254, .int .i64 t255, (.slice Ao15 t256.length co15), (.slice Ao16 t259.length co16)] 24 (0, 0))) ∧ Aside0 (w'.heap[gb275]? = some (.cells #[.string t266, .int .i64 t267, (.slice Ao43 t268.length co43), (.slice Ao44 t271.length co44)] 24 (0, 0))) ∧ Aside0 (w'.heap[gb279]? = some (.cells #[.string a0_0, .int .i64 a1, (.slice Ao74 y281.length co74), u280003] 24 (0, 0))) ∧ Aside0 (Below w.heap.size w w'))
                case atStart => exact ⟨(1), (x280003_5), (u280003), rs, H', ⟨Nat.le_refl _⟩, ⟨by (with_reducible repeat (first | apply Kd.R_alloc | apply Kd.R_drewN | apply Kd.R_drew)); exact Kd.R_mono (Kd.R_far (p := ⟨gb279, 2, none⟩) (Kd.R_types HO_264002.out BK279.out (by decide)) (fun _ hk => hk.2) (.slice Ao74 y281.length co74)) (fun _ hk => ⟨hk.1.1.1, ⟨hk.1.1.2.1, ⟨hk.1.1.2.2.1, ⟨hk.1.2, hk.1.1.2.2.2⟩⟩⟩⟩)⟩, ⟨by (with_reducible repeat (first | apply Kd.R_alloc | apply Kd.R_drewN | apply Kd.R_drew)); exact Kd.R_mono (Kd.R_far (p := ⟨gb279, 2, none⟩) (Kd.R_types HO_264003.out BK279.out (by decide)) (fun _ hk => hk.2) (.slice Ao74 y281.length co74)) (fun _ hk => ⟨hk.1.1.1, ⟨hk.1.1.2.1, ⟨hk.1.1.2.2.1, ⟨hk.1.2, hk.1.1.2.2.2⟩⟩⟩⟩)⟩, ⟨by (with_reducible repeat (first | apply Kd.R_alloc | apply Kd.R_drewN | apply Kd.R_drew)); exact Kd.R_mono (Kd.R_far (p := ⟨gb279, 2, none⟩) (Kd.R_types HO_276002.out BK279.out (by decide)) (fun _ hk => hk.2) (.slice Ao74 y281.length co74)) (fun _ hk => ⟨hk.1.1.1, ⟨hk.1.1.2.1, ⟨hk.1.1.2.2.1, ⟨hk.1.2, hk.1.1.2.2.2⟩⟩⟩⟩)⟩, ⟨by (with_reducible repeat (first | apply Kd.R_alloc | apply Kd.R_drewN | apply Kd.R_drew)); exact Kd.R_mono (Kd.R_far (p := ⟨gb279, 2, none⟩) (Kd.R_types HO_276003.out BK279.out (by decide)) (fun _ hk => hk.2) (.slice Ao74 y281.length co74)) (fun _ hk => ⟨hk.1.1.1, ⟨hk.1.1.2.1, ⟨hk.1.1.2.2.1, ⟨hk.1.2, hk.1.1.2.2.2⟩⟩⟩⟩)⟩, ⟨by (with_reducible repeat (first | apply Kd.R_alloc | apply Kd.R_drewN | apply Kd.R_drew)); exact Kd.R_mono (Kd.R_far (p := ⟨gb279, 2, none⟩) (Kd.R_types HO283.out BK279.out (by decide)) (fun _ hk => hk.2) (.slice Ao74 y281.length co74)) (fun _ hk => ⟨hk.1.1, ⟨hk.1.2.1, ⟨hk.1.2.2.1, ⟨hk.1.2.2.2.1, hk.1.2.2.2.2⟩⟩⟩⟩)⟩, ⟨by (with_reducible repeat (first | apply Kd.R_alloc | apply Kd.R_drewN | apply Kd.R_drew)); exact Kd.R_mono (Kd.R_far (p := ⟨gb279, 2, none⟩) (Kd.R_types HO_280003.out BK279.out (by decide)) (fun _ hk => hk.2) (.slice Ao74 y281.length co74)) (fun _ hk => ⟨hk.1.1.1, ⟨hk.1.1.2.1, ⟨hk.1.1.2.2.1, ⟨hk.1.1.2.2.2, hk.1.2⟩⟩⟩⟩)⟩, ⟨bk BK238⟩, ⟨bk BK263⟩, ⟨bk BK275⟩, ⟨bk BK279⟩, ⟨be⟩⟩
                case round =>
                 clear H'
                 (try clear c1); (try clear c2); (try clear p2); (try clear q2); (try clear hx2); (try clear qi2); (try clear c3); (try clear c4); (try clear c5); (try clear c6); (try clear p6); (try clear c7); (try clear c13); (try clear c17); (try clear c17b0); (try clear c17b1); (try clear c18); (try clear c18b0); (try clear c18b1); (try clear c19); (try clear c19b0); (try clear c19b1); (try clear c20); (try clear c20b0); (try clear c20b1); (try clear c21); (try clear c21b0); (try clear c21b1); (try clear c22); (try clear c24); (try clear c25); (try clear c26); (try clear p26); (try clear q26); (try clear hx26); (try clear qi26); (try clear c27); (try clear c28); (try clear c30); (try clear c30b0); (try clear c32); (try clear c36); (try clear c40); (try clear c41); (try clear c47); (try clear c47b0); (try clear c47b1); (try clear c49); (try clear c51); (try clear c52); (try clear c53); (try clear c56); (try clear c57); (try clear c58); (try clear c61); (try clear c61b0); (try clear c61b1); (try clear c62); (try clear c64); (try clear p64); (try clear c65); (try clear c66); (try clear c67); (try clear c70); (try clear c71); (try clear hcz14_0); (try clear hcz14_1); (try clear hcz14_2); (try clear hcz14_3); (try clear hcz23_0); (try clear hcz23_1); (try clear hcz23_2); (try clear hcz23_3); (try clear hcz25_0); (try clear hcz25_1); (try clear hcz25_2); (try clear hcz25_3); (try clear hcz27_0); (try clear hcz27_1); (try clear hcz27_2); (try clear hcz27_3); (try clear hcz37_0); (try clear hcz37_1); (try clear hcz37_10); (try clear hcz37_2); (try clear hcz37_3); (try clear hcz37_4); (try clear hcz37_5); (try clear hcz37_6); (try clear hcz37_7); (try clear hcz37_8); (try clear hcz37_9); (try clear hcz42_0); (try clear hcz42_1); (try clear hcz42_2); (try clear hcz42_3); (try clear hcz45_0); (try clear hcz45_1); (try clear hcz45_10); (try clear hcz45_2); (try clear hcz45_3); (try clear hcz45_4); (try clear hcz45_5); (try clear hcz45_6); (try clear hcz45_7); (try clear hcz45_8); (try clear hcz45_9); (try clear hcz54_0); (try clear hcz54_1); (try clear hcz54_10); (try clear hcz54_2); (try clear hcz54_3); (try clear hcz54_4); (try clear hcz54_5); (try clear hcz54_6); (try clear hcz54_7); (try clear hcz54_8); (try clear hcz54_9); (try clear hcz59_0); (try clear hcz59_1); (try clear hcz59_2); (try clear hcz59_3); (try clear hcz68_0); (try clear hcz68_1); (try clear hcz68_10); (try clear hcz68_2); (try clear hcz68_3); (try clear hcz68_4); (try clear hcz68_5); (try clear hcz68_6); (try clear hcz68_7); (try clear hcz68_8); (try clear hcz68_9); (try clear hcz72_0); (try clear hcz72_1); (try clear hcz72_2); (try clear hcz72_3); (try clear hcz75_0); (try clear hcz75_1); (try clear hcz75_2); (try clear hcz75_3); (try clear hfz14_0); (try clear hfz14_1); (try clear hfz14_2); (try clear hfz14_3); (try clear hfz23_0); (try clear hfz23_1); (try clear hfz23_2); (try clear hfz23_3); (try clear hfz25_0); (try clear hfz25_1); (try clear hfz25_2); (try clear hfz25_3); (try clear hfz27_0); (try clear hfz27_1); (try clear hfz27_2); (try clear hfz27_3); (try clear hfz37_0); (try clear hfz37_1); (try clear hfz37_10); (try clear hfz37_2); (try clear hfz37_3); (try clear hfz37_4); (try clear hfz37_5); (try clear hfz37_6); (try clear hfz37_7); (try clear hfz37_8); (try clear hfz37_9); (try clear hfz42_0); (try clear hfz42_1); (try clear hfz42_2); (try clear hfz42_3); (try clear hfz45_0); (try clear hfz45_1); (try clear hfz45_10); (try clear hfz45_2); (try clear hfz45_3); (try clear hfz45_4); (try clear hfz45_5); (try clear hfz45_6); (try clear hfz45_7); (try clear hfz45_8); (try clear hfz45_9); (try clear hfz54_0); (try clear hfz54_1); (try clear hfz54_10); (try clear hfz54_2); (try clear hfz54_3); (try clear hfz54_4); (try clear hfz54_5); (try clear hfz54_6); (try clear hfz54_7); (try clear hfz54_8); (try clear hfz54_9); (try clear hfz59_0); (try clear hfz59_1); (try clear hfz59_2); (try clear hfz59_3); (try clear hfz68_0); (try clear hfz68_1); (try clear hfz68_10); (try clear hfz68_2); (try clear hfz68_3); (try clear hfz68_4); (try clear hfz68_5); (try clear hfz68_6); (try clear hfz68_7); (try clear hfz68_8); (try clear hfz68_9); (try clear hfz72_0); (try clear hfz72_1); (try clear hfz72_2); (try clear hfz72_3); (try clear hfz75_0); (try clear hfz75_1); (try clear hfz75_2); (try clear hfz75_3); (try clear hx264_0); (try clear hx265_0); (try clear p2); (try clear p26); (try clear p264); (try clear p265); (try clear p6); (try clear q2); (try clear q26); (try clear q264); (try clear q265)
                 obtain ⟨x15_7, x280003_7, u280003, rfl, HA, HK7, HO_264002, HO_264003, HO_276002, HO_276003, HO_280002, HO_280003, BK238, BK263, BK275, BK279, HB⟩ := hrel
                 cases gk with
                 | zero => exact absurd HA.out (by simp [ephemerislaw1_ObservedOfs.l1])
                 | succ k7 =>
                  have H := HA.out
                  clear HA
                  simp only [ephemerislaw1_ObservedOfs.l1] at H
                  by_cases c76 : x15_7 ≤ t280
                  ·rw [if_pos c76] at H
                   have c76b0 : decide (x15_7 ≤ t280) = true := decide_eq_true c76
                   clear c76
                   replace H := Option.bind_eq_some_iff.mp H
                   obtain ⟨t284, A770, H⟩ := H
                   replace H : (if x280003_7.length < 17592186044416 then (ephemerislaw1_ObservedOfs.l1 k7 a1 x2_30 t274 x11_34 x13_5 t280 (wrap64 (x15_7 + 1)) a0_0 a0_1 a0_2 a0_3 a0_4 a0_5 a0_6 a0_7 a0_8 l0_9 l0_10 t266 t267 t268 t271 a0_0 a1 y281 (x280003_7 ++ [t284])) else (none)) = some r := H
                   have A77 := Aside0.mk A770
                   clear A770
                   by_cases c78 : x280003_7.length < 17592186044416
                   ·rw [if_pos c78] at H
                    have LMc78 := Aside0.mk c78
                    clear c78
                    obtain ⟨y285, hy285⟩ : ∃ y_ : List Int, y_ = (x280003_7 ++ [t284]) := ⟨_, rfl⟩
                    replace H : (ephemerislaw1_ObservedOfs.l1 k7 a1 x2_30 t274 x11_34 x13_5 t280 (wrap64 (x15_7 + 1)) a0_0 a0_1 a0_2 a0_3 a0_4 a0_5 a0_6 a0_7 a0_8 l0_9 l0_10 t266 t267 t268 t271 a0_0 a1 y281 y285) = some r := rp hy285 H
                    have Ny285 := Aside0.mk hy285
                    clear hy285
                    have H' := Aside0.mk H
                    clear H
                    try go_wp2
                    have n0_ := Aside0.mk (Kd.R_drew HO_264002.out)
                    have n1_ := Aside0.mk (Kd.R_drew HO_264003.out)
                    have n2_ := Aside0.mk (Kd.R_drew HO_276002.out)
                    have n3_ := Aside0.mk (Kd.R_drew HO_276003.out)
                    have n4_ := Aside0.mk (Kd.R_drew HO_280002.out)
                    have n5_ := Aside0.mk (Kd.R_drew HO_280003.out)
                    have n6_ := Aside0.mk (blk_drew BK238.out)
                    have n7_ := Aside0.mk (blk_drew BK263.out)
                    have n8_ := Aside0.mk (blk_drew BK275.out)
                    have n9_ := Aside0.mk (blk_drew BK279.out)
                    have n10_ := Aside0.mk (below_drew1 HB.out)
                    clear HO_264002
                    clear HO_264003
                    clear HO_276002
                    clear HO_276003
                    clear HO_280002
                    clear HO_280003
                    clear BK238
                    clear BK263
                    clear BK275
                    clear BK279
                    clear HB
                    have HO_264002 := n0_
                    have HO_264003 := n1_
                    have HO_276002 := n2_
                    have HO_276003 := n3_
                    have HO_280002 := n4_
                    have HO_280003 := n5_
                    have BK238 := n6_
                    have BK263 := n7_
                    have BK275 := n8_
                    have BK279 := n9_
                    have HB := n10_
                    clear n0_ n1_ n2_ n3_ n4_ n5_ n6_ n7_ n8_ n9_ n10_
                    refine start_ (n := 10) (S := fun w' => w'.cell? ⟨gb279, 0, none⟩ = some (.string a0_0) ∧ w'.cell? ⟨gb279, 1, none⟩ = some (.int .i64 a1) ∧ w'.cell? ⟨gb279, 2, none⟩ = some (.slice Ao74 y281.length co74) ∧ w'.cell? ⟨gb279, 3, none⟩ = some (u280003) ∧ w'.cell? ⟨gb238, 0, none⟩ = some (.string a0_0) ∧ w'.cell? ⟨gb238, 1, none⟩ = some (.int .i64 a0_1) ∧ w'.cell? ⟨gb238, 2, none⟩ = some (.int .i64 a0_2) ∧ w'.cell? ⟨gb238, 3, none⟩ = some (.int .i64 a0_3) ∧ w'.cell? ⟨gb238, 4, none⟩ = some (.int .i64 a0_4) ∧ w'.cell? ⟨gb238, 5, none⟩ = some (.int .i64 a0_5) ∧ w'.cell? ⟨gb238, 6, none⟩ = some (.int .i64 a0_6) ∧ w'.cell? ⟨gb238, 7, none⟩ = some (.int .i64 a0_7) ∧ w'.cell? ⟨gb238, 8, none⟩ = some (.int .i64 a0_8) ∧ w'.cell? ⟨gb238, 9, none⟩ = some (.slice A0_9 l0_9.length c0_9) ∧ w'.cell? ⟨gb238, 10, none⟩ = some (.slice A0_10 l0_10.length c0_10)) (ds := [9]) #[false, false, false, false, false, false, false, false, false, false] kx rfl rfl ⟨(blk_cell BK279.out 0).trans rfl, (blk_cell BK279.out 1).trans rfl, (blk_cell BK279.out 2).trans rfl, (blk_cell BK279.out 3).trans rfl, (blk_cell BK238.out 0).trans rfl, (blk_cell BK238.out 1).trans rfl, (blk_cell BK238.out 2).trans rfl, (blk_cell BK238.out 3).trans rfl, (blk_cell BK238.out 4).trans rfl, (blk_cell BK238.out 5).trans rfl, (blk_cell BK238.out 6).trans rfl, (blk_cell BK238.out 7).trans rfl, (blk_cell BK238.out 8).trans rfl, (blk_cell BK238.out 9).trans rfl, (blk_cell BK238.out 10).trans rfl⟩ (fun hHeld => ?_); refine with_tabW ephemerislaw1_ObservedOfs.tab22 ephemerislaw1_ObservedOfs.bits22 (fun HT_ HW_ => ?_)
                    generalize wr.drew = w79 at HO_264002 HO_264003 HO_276002 HO_276003 HO_280002 HO_280003 BK238 BK263 BK275 BK279 HB hHeld ⊢
                    refine pure_ (i := 0) (N := some 104) (v := ?_) (a' := ?_) #[true, false, false, false, false, false, false, false, false, false] rfl rfl (any_of HT_.out kx) (fun _ _ _ h => h) (Or.inl ⟨by rfl, ?_⟩) ?_ ?_
                    rotate_left
                    ·intro w'
                     go_simp
                     with_reducible rfl
                    rotate_left
                    ·simp only [Act.put, List.setIfInBounds_toArray, List.set_cons_zero, List.set_cons_succ, i64_w, i32_w]
                     rfl
                    refine pure_ (i := 3) (N := some 107) (v := ?_) (a' := ?_) #[true, false, false, true, false, false, false, false, false, false] rfl rfl (any_of HT_.out kx) (fun _ _ _ h => h) (Or.inl ⟨by rfl, ?_⟩) ?_ ?_
                    rotate_left
                    ·intro w'
                     go_simp
                     with_reducible rfl
                    rotate_left
                    ·simp only [Act.put, List.setIfInBounds_toArray, List.set_cons_zero, List.set_cons_succ, i64_w, i32_w]
                     rfl
                    refine pure_ (i := 4) (N := some 108) (v := ?_) (a' := ?_) #[true, false, false, true, true, false, false, false, false, false] rfl rfl (any_of HT_.out kx) (fun _ _ _ h => h) (Or.inl ⟨by rfl, ?_⟩) ?_ ?_
                    rotate_left
                    ·intro w'
                     go_simp
                     with_reducible rfl
                    rotate_left
                    ·simp only [Act.put, List.setIfInBounds_toArray, List.set_cons_zero, List.set_cons_succ, i64_w, i32_w]
                     rfl
                    refine take_ (i := 1) (N := some 105) (v := ?_) (a' := ?_) #[true, true, false, true, true, false, false, false, false, false] rfl rfl (take_ofW HT_.out HW_.out kx) (fun _ _ _ h => h) (Or.inl ⟨by rfl, ?_⟩) hHeld ?_ ?_
                    rotate_left
                    ·rintro w' ⟨s0, s1, s2, s3, s4, s5, s6, s7, s8, s9, s10, s11, s12, s13, s14⟩
                     go_simp
                     with_reducible rfl
                    rotate_left
                    ·simp only [Act.put, List.setIfInBounds_toArray, List.set_cons_zero, List.set_cons_succ, i64_w, i32_w]
                     rfl
                    refine take_ (i := 2) (N := some 106) (v := ?_) (a' := ?_) #[true, true, true, true, true, false, false, false, false, false] rfl rfl (take_ofW HT_.out HW_.out kx) (fun _ _ _ h => h) (Or.inl ⟨by rfl, ?_⟩) hHeld ?_ ?_
                    rotate_left
                    ·rintro w' ⟨s0, s1, s2, s3, s4, s5, s6, s7, s8, s9, s10, s11, s12, s13, s14⟩
                     go_simp
                     with_reducible rfl
                    rotate_left
                    ·simp only [Act.put, List.setIfInBounds_toArray, List.set_cons_zero, List.set_cons_succ, i64_w, i32_w]
                     rfl
                    refine one_ (i := 5) (N := some 109) #[true, true, true, true, true, true, false, false, false, false] rfl rfl (one_of HT_.out kx) (by decide) (fun K hK => ?_)
                    refine goes_ Try.func29 kx rfl #[.agg #[.string a0_0, .int .i64 a0_1, .int .i64 a0_2, .int .i64 a0_3, .int .i64 a0_4, .int .i64 a0_5, .int .i64 a0_6, .int .i64 a0_7, .int .i64 a0_8, .slice A0_9 l0_9.length c0_9, .slice A0_10 l0_10.length c0_10], .int .i64 x13_5, .int .i64 x15_7] (by rfl) rfl rfl aa ?_
                    with_reducible refine (ephemerisref1_MoonBegin.calls k7 a0_0 a0_1 a0_2 a0_3 a0_4 a0_5 a0_6 a0_7 a0_8 _ _ l0_9 _ _ l0_10 x13_5 x15_7 t284 _ ?side1 ?side2 ?side3 ?side4 A77.out).mono ?_
                    (case side1 => exact kc (Kd.C_below HR0_9.out HB.out))
                    (case side2 => exact HC0_9.out)
                    (case side3 => exact kc (Kd.C_below HR0_10.out HB.out))
                    (case side4 => exact HC0_10.out)
                    rintro e w80 ⟨rfl, hb⟩
                    refine ⟨_, rfl, ?_⟩
                    have n0_ := Aside0.mk (Kd.R_below (by (with_reducible repeat (first | apply Kd.R_alloc | apply Kd.R_drewN | apply Kd.R_drew)); exact HO_264002.out) hb)
                    have n1_ := Aside0.mk (Kd.R_below (by (with_reducible repeat (first | apply Kd.R_alloc | apply Kd.R_drewN | apply Kd.R_drew)); exact HO_264003.out) hb)
                    have n2_ := Aside0.mk (Kd.R_below (by (with_reducible repeat (first | apply Kd.R_alloc | apply Kd.R_drewN | apply Kd.R_drew)); exact HO_276002.out) hb)
                    have n3_ := Aside0.mk (Kd.R_below (by (with_reducible repeat (first | apply Kd.R_alloc | apply Kd.R_drewN | apply Kd.R_drew)); exact HO_276003.out) hb)
                    have n4_ := Aside0.mk (Kd.R_below (by (with_reducible repeat (first | apply Kd.R_alloc | apply Kd.R_drewN | apply Kd.R_drew)); exact HO_280002.out) hb)
                    have n5_ := Aside0.mk (Kd.R_below (by (with_reducible repeat (first | apply Kd.R_alloc | apply Kd.R_drewN | apply Kd.R_drew)); exact HO_280003.out) hb)
                    have n6_ := bb BK238 hb
                    have n7_ := bb BK263 hb
                    have n8_ := bb BK275 hb
                    have n9_ := bb BK279 hb
                    have n10_ := Aside0.mk (below_step be hb)
                    clear HO_264002
                    clear HO_264003
                    clear HO_276002
                    clear HO_276003
                    clear HO_280002
                    clear HO_280003
                    clear BK238
                    clear BK263
                    clear BK275
                    clear BK279
                    clear HB
                    have HO_264002 := n0_
                    have HO_264003 := n1_
                    have HO_276002 := n2_
                    have HO_276003 := n3_
                    have HO_280002 := n4_
                    have HO_280003 := n5_
                    have BK238 := n6_
                    have BK263 := n7_
                    have BK275 := n8_
                    have BK279 := n9_
                    have HB := n10_
                    clear n0_ n1_ n2_ n3_ n4_ n5_ n6_ n7_ n8_ n9_ n10_
                    (try clear hb)
                    (try clear hb2)
                    (try clear hk)
                    (try clear hi)
                    refine hK.out _ _ ⟨(blk_cell BK279.out 0).trans rfl, (blk_cell BK279.out 1).trans rfl, (blk_cell BK279.out 2).trans rfl, (blk_cell BK279.out 3).trans rfl, (blk_cell BK238.out 0).trans rfl, (blk_cell BK238.out 1).trans rfl, (blk_cell BK238.out 2).trans rfl, (blk_cell BK238.out 3).trans rfl, (blk_cell BK238.out 4).trans rfl, (blk_cell BK238.out 5).trans rfl, (blk_cell BK238.out 6).trans rfl, (blk_cell BK238.out 7).trans rfl, (blk_cell BK238.out 8).trans rfl, (blk_cell BK238.out 9).trans rfl, (blk_cell BK238.out 10).trans rfl⟩ (fun hHeld => ?_)
                    clear hK K
                    refine norm_ (a' := ?_) ?_ ?_
                    rotate_left
                    ·show Act.put _ (some 109) _ = _
                     simp only [Act.put, List.setIfInBounds_toArray, List.set_cons_zero, List.set_cons_succ, i64_w, i32_w]
                     rfl
                    refine one_ (i := 6) (N := some 110) #[true, true, true, true, true, true, true, false, false, false] rfl rfl (one_of HT_.out kx) (by decide) (fun K hK => ?_)
                    refine value_ (w1 := ?_) (v := ?_) (by rfl) rfl ?_ ?_
                    rotate_left 2
                    ·go_simp
                     constructor
                     ·rfl
                     ·rfl
                    refine hK.out _ _ ⟨(blk_cell (blk_alloc BK279.out _) 0).trans rfl, (blk_cell (blk_alloc BK279.out _) 1).trans rfl, (blk_cell (blk_alloc BK279.out _) 2).trans rfl, (blk_cell (blk_alloc BK279.out _) 3).trans rfl, (blk_cell (blk_alloc BK238.out _) 0).trans rfl, (blk_cell (blk_alloc BK238.out _) 1).trans rfl, (blk_cell (blk_alloc BK238.out _) 2).trans rfl, (blk_cell (blk_alloc BK238.out _) 3).trans rfl, (blk_cell (blk_alloc BK238.out _) 4).trans rfl, (blk_cell (blk_alloc BK238.out _) 5).trans rfl, (blk_cell (blk_alloc BK238.out _) 6).trans rfl, (blk_cell (blk_alloc BK238.out _) 7).trans rfl, (blk_cell (blk_alloc BK238.out _) 8).trans rfl, (blk_cell (blk_alloc BK238.out _) 9).trans rfl, (blk_cell (blk_alloc BK238.out _) 10).trans rfl⟩ (fun hHeld => ?_)
                    clear hK K
                    refine norm_ (a' := ?_) ?_ ?_
                    rotate_left
                    ·show Act.put _ (some 110) _ = _
                     simp only [Act.put, List.setIfInBounds_toArray, List.set_cons_zero, List.set_cons_succ, i64_w, i32_w]
                     rfl
                    refine one_ (i := 7) (N := some 111) #[true, true, true, true, true, true, true, true, false, false] rfl rfl (one_of HT_.out kx) (by decide) (fun K hK => ?_)
                    refine Kd.R_append_step (Kd.int .i64) (w0 := w) w.heap.size (by rfl) (.tmp 105) (.tmp 110) 22 3 (.int .i64 0) 8 rfl Try.underlying22 info3 rfl (by decide) (by omega) u280003 x280003_7 t284 [.int .i64 t284] (fun k_ => some k_ ≠ (.slice Ao15 t256.length co15 : Value).ownBlock ∧ some k_ ≠ (.slice Ao16 t259.length co16 : Value).ownBlock ∧ some k_ ≠ (.slice Ao43 t268.length co43 : Value).ownBlock ∧ some k_ ≠ (.slice Ao44 t271.length co44 : Value).ownBlock ∧ some k_ ≠ (.slice Ao74 y281.length co74 : Value).ownBlock) (fun _ => False) rfl rfl ?aP (fun _ hk => hk.elim) ?aF ?aO ?aB ?aS ?aL ?_
                    (case aP => exact rfl)
                    (case aB => exact be)
                    (case aF => exact (fun k_ hk => ⟨Kd.fresh' (Kd.R_lt (by (with_reducible repeat (first | apply Kd.R_alloc | apply Kd.R_drewN | apply Kd.R_drew)); exact HO_264002.out)) k_ hk, Kd.fresh' (Kd.R_lt (by (with_reducible repeat (first | apply Kd.R_alloc | apply Kd.R_drewN | apply Kd.R_drew)); exact HO_264003.out)) k_ hk, Kd.fresh' (Kd.R_lt (by (with_reducible repeat (first | apply Kd.R_alloc | apply Kd.R_drewN | apply Kd.R_drew)); exact HO_276002.out)) k_ hk, Kd.fresh' (Kd.R_lt (by (with_reducible repeat (first | apply Kd.R_alloc | apply Kd.R_drewN | apply Kd.R_drew)); exact HO_276003.out)) k_ hk, Kd.fresh' (Kd.R_lt (by (with_reducible repeat (first | apply Kd.R_alloc | apply Kd.R_drewN | apply Kd.R_drew)); exact HO_280002.out)) k_ hk⟩))
                    (case aO => exact (by (with_reducible repeat (first | apply Kd.R_alloc | apply Kd.R_drewN | apply Kd.R_drew)); exact HO_280003.out))
                    (case aS => exact (below_size be))
                    (case aL => have := LMc78.out; omega)
                    intro v286 w81 ho hb hg hat
                    rw [← Ny285.out] at ho
                    have n0_ := Aside0.mk (Kd.R_after (ok := (fun k_ => some k_ ≠ (.slice Ao16 t259.length co16 : Value).ownBlock ∧ some k_ ≠ (.slice Ao43 t268.length co43 : Value).ownBlock ∧ some k_ ≠ (.slice Ao44 t271.length co44 : Value).ownBlock ∧ some k_ ≠ (.slice Ao74 y281.length co74 : Value).ownBlock)) (by (with_reducible repeat (first | apply Kd.R_alloc | apply Kd.R_drewN | apply Kd.R_drew)); exact Kd.R_mono HO_264002.out (fun _ hk => ⟨⟨hk.1, ⟨hk.2.1, ⟨hk.2.2.1, hk.2.2.2.1⟩⟩⟩, hk.2.2.2.2⟩)) hg hat)
                    have n1_ := Aside0.mk (Kd.R_after (ok := (fun k_ => some k_ ≠ (.slice Ao15 t256.length co15 : Value).ownBlock ∧ some k_ ≠ (.slice Ao43 t268.length co43 : Value).ownBlock ∧ some k_ ≠ (.slice Ao44 t271.length co44 : Value).ownBlock ∧ some k_ ≠ (.slice Ao74 y281.length co74 : Value).ownBlock)) (by (with_reducible repeat (first | apply Kd.R_alloc | apply Kd.R_drewN | apply Kd.R_drew)); exact Kd.R_mono HO_264003.out (fun _ hk => ⟨⟨hk.1, ⟨hk.2.1, ⟨hk.2.2.1, hk.2.2.2.1⟩⟩⟩, hk.2.2.2.2⟩)) hg hat)
                    have n2_ := Aside0.mk (Kd.R_after (ok := (fun k_ => some k_ ≠ (.slice Ao15 t256.length co15 : Value).ownBlock ∧ some k_ ≠ (.slice Ao16 t259.length co16 : Value).ownBlock ∧ some k_ ≠ (.slice Ao44 t271.length co44 : Value).ownBlock ∧ some k_ ≠ (.slice Ao74 y281.length co74 : Value).ownBlock)) (by (with_reducible repeat (first | apply Kd.R_alloc | apply Kd.R_drewN | apply Kd.R_drew)); exact Kd.R_mono HO_276002.out (fun _ hk => ⟨⟨hk.1, ⟨hk.2.1, ⟨hk.2.2.1, hk.2.2.2.1⟩⟩⟩, hk.2.2.2.2⟩)) hg hat)
                    have n3_ := Aside0.mk (Kd.R_after (ok := (fun k_ => some k_ ≠ (.slice Ao15 t256.length co15 : Value).ownBlock ∧ some k_ ≠ (.slice Ao16 t259.length co16 : Value).ownBlock ∧ some k_ ≠ (.slice Ao43 t268.length co43 : Value).ownBlock ∧ some k_ ≠ (.slice Ao74 y281.length co74 : Value).ownBlock)) (by (with_reducible repeat (first | apply Kd.R_alloc | apply Kd.R_drewN | apply Kd.R_drew)); exact Kd.R_mono HO_276003.out (fun _ hk => ⟨⟨hk.1, ⟨hk.2.1, ⟨hk.2.2.1, hk.2.2.2.1⟩⟩⟩, hk.2.2.2.2⟩)) hg hat)
                    have n4_ := Aside0.mk (Kd.R_after (ok := (fun k_ => some k_ ≠ (.slice Ao15 t256.length co15 : Value).ownBlock ∧ some k_ ≠ (.slice Ao16 t259.length co16 : Value).ownBlock ∧ some k_ ≠ (.slice Ao43 t268.length co43 : Value).ownBlock ∧ some k_ ≠ (.slice Ao44 t271.length co44 : Value).ownBlock)) (by (with_reducible repeat (first | apply Kd.R_alloc | apply Kd.R_drewN | apply Kd.R_drew)); exact Kd.R_mono HO_280002.out (fun _ hk => ⟨⟨hk.1, ⟨hk.2.1, ⟨hk.2.2.1, hk.2.2.2.1⟩⟩⟩, hk.2.2.2.2⟩)) hg hat)
                    have n5_ := Aside0.mk (blk_grown (g := gb238) (o := .cells #[.string a0_0, .int .i64 a0_1, .int .i64 a0_2, .int .i64 a0_3, .int .i64 a0_4, .int .i64 a0_5, .int .i64 a0_6, .int .i64 a0_7, .int .i64 a0_8, .slice A0_9 l0_9.length c0_9, .slice A0_10 l0_10.length c0_10] 60 (0, 0)) (bk BK238) hg (Kd.R_ne HO_280003.out BK238.out (by decide)))
                    have n6_ := Aside0.mk (blk_grown (g := gb263) (o := .cells #[.string t254, .int .i64 t255, .slice Ao15 t256.length co15, .slice Ao16 t259.length co16] 24 (0, 0)) (bk BK263) hg (Kd.R_ne HO_280003.out BK263.out (by decide)))
                    have n7_ := Aside0.mk (blk_grown (g := gb275) (o := .cells #[.string t266, .int .i64 t267, .slice Ao43 t268.length co43, .slice Ao44 t271.length co44] 24 (0, 0)) (bk BK275) hg (Kd.R_ne HO_280003.out BK275.out (by decide)))
                    have n8_ := Aside0.mk (blk_grown (g := gb279) (o := .cells #[.string a0_0, .int .i64 a1, .slice Ao74 y281.length co74, u280003] 24 (0, 0)) (bk BK279) hg (Kd.R_ne HO_280003.out BK279.out (by decide)))
                    have n9_ := Aside0.mk (hb)
                    have n10_ := Aside0.mk (ho)
                    clear HO_264002
                    clear HO_264003
                    clear HO_276002
                    clear HO_276003
                    clear HO_280002
                    clear BK238
                    clear BK263
                    clear BK275
                    clear BK279
                    clear HB
                    clear HO_280003
                    have HO_264002 := n0_
                    have HO_264003 := n1_
                    have HO_276002 := n2_
                    have HO_276003 := n3_
                    have HO_280002 := n4_
                    have BK238 := n5_
                    have BK263 := n6_
                    have BK275 := n7_
                    have BK279 := n8_
                    have HB := n9_
                    have HO287 := n10_
                    clear n0_ n1_ n2_ n3_ n4_ n5_ n6_ n7_ n8_ n9_ n10_
                    clear ho hb hg hat
                    obtain ⟨Ao82, co82, eo82⟩ := Kd.R_slice HO287.out
                    (first | subst eo82 | (injection eo82 with f1_ f2_ f3_; have f4_ := f1_.symm; have f5_ := f3_.symm; clear f1_ f2_ f3_; subst f4_; subst f5_))
                    refine hK.out _ _ ⟨(blk_cell BK279.out 0).trans rfl, (blk_cell BK279.out 1).trans rfl, (blk_cell BK279.out 2).trans rfl, (blk_cell BK279.out 3).trans rfl, (blk_cell BK238.out 0).trans rfl, (blk_cell BK238.out 1).trans rfl, (blk_cell BK238.out 2).trans rfl, (blk_cell BK238.out 3).trans rfl, (blk_cell BK238.out 4).trans rfl, (blk_cell BK238.out 5).trans rfl, (blk_cell BK238.out 6).trans rfl, (blk_cell BK238.out 7).trans rfl, (blk_cell BK238.out 8).trans rfl, (blk_cell BK238.out 9).trans rfl, (blk_cell BK238.out 10).trans rfl⟩ (fun hHeld => ?_)
                    clear hK K
                    refine norm_ (a' := ?_) ?_ ?_
                    rotate_left
                    ·show Act.put _ (some 111) _ = _
                     simp only [Act.put, List.setIfInBounds_toArray, List.set_cons_zero, List.set_cons_succ, i64_w, i32_w]
                     rfl
                    refine pure_ (i := 8) (N := some 112) (v := ?_) (a' := ?_) #[true, true, true, true, true, true, true, true, true, false] rfl rfl (any_of HT_.out kx) (fun _ _ _ h => h) (Or.inl ⟨by rfl, ?_⟩) ?_ ?_
                    rotate_left
                    ·intro w'
                     go_simp
                     with_reducible rfl
                    rotate_left
                    ·simp only [Act.put, List.setIfInBounds_toArray, List.set_cons_zero, List.set_cons_succ, i64_w, i32_w]
                     rfl
                    refine last_ (i := 9) (N := none) #[true, true, true, true, true, true, true, true, true, true] rfl rfl (one_of HT_.out kx) (by decide) (fun K hK => ?_)
                    have hs83 : w81.cell? ⟨gb279, 3, none⟩ = some (u280003) := (blk_cell BK279.out 3).trans rfl
                    have hfs83 := blk_frozen BK279.out 3
                    have hns83_0 := NB238_279.out
                    have hns83_1 := NB263_279.out
                    have hns83_2 := NB275_279.out
                    have hms83_0 := NB279_238.out
                    have hms83_1 := NB279_263.out
                    have hms83_2 := NB279_275.out
                    refine skip_ (w1 := ?_) (by rfl) rfl ?_ ?_
                    rotate_left
                    ·go_simp
                     rfl
                    refine hK.out _ _ ?_
                    clear hK K
                    refine done_ (done_of HT_.out kx) ?_
                    try go_wp2
                    go_roundg k7
                    case measure => have := HJ5.out; have := HJ28.out; have := HJ30.out; have := HJ34.out; have := HK5.out; have := HJ59.out; have := HK7.out; omega
                    case rel => exact ⟨(wrap64 (x15_7 + 1)), (y285), (.slice Ao82 y285.length co82), rs, H', ⟨by have := HJ5.out; have := HJ28.out; have := HJ30.out; have := HJ34.out; have := HK5.out; have := HJ59.out; have := HK7.out; omega⟩, ⟨by (with_reducible repeat (first | apply Kd.R_alloc | apply Kd.R_drewN | apply Kd.R_drew)); exact Kd.R_mono (Kd.R_far (p := ⟨gb279, 3, none⟩) (Kd.R_types HO_264002.out BK279.out (by decide)) (fun _ hk => hk.2) (.slice Ao82 y285.length co82)) (fun _ hk => ⟨hk.1.1.1, ⟨hk.1.1.2.1, ⟨hk.1.1.2.2.1, ⟨hk.1.1.2.2.2, hk.1.2⟩⟩⟩⟩)⟩, ⟨by (with_reducible repeat (first | apply Kd.R_alloc | apply Kd.R_drewN | apply Kd.R_drew)); exact Kd.R_mono (Kd.R_far (p := ⟨gb279, 3, none⟩) (Kd.R_types HO_264003.out BK279.out (by decide)) (fun _ hk => hk.2) (.slice Ao82 y285.length co82)) (fun _ hk => ⟨hk.1.1.1, ⟨hk.1.1.2.1, ⟨hk.1.1.2.2.1, ⟨hk.1.1.2.2.2, hk.1.2⟩⟩⟩⟩)⟩, ⟨by (with_reducible repeat (first | apply Kd.R_alloc | apply Kd.R_drewN | apply Kd.R_drew)); exact Kd.R_mono (Kd.R_far (p := ⟨gb279, 3, none⟩) (Kd.R_types HO_276002.out BK279.out (by decide)) (fun _ hk => hk.2) (.slice Ao82 y285.length co82)) (fun _ hk => ⟨hk.1.1.1, ⟨hk.1.1.2.1, ⟨hk.1.1.2.2.1, ⟨hk.1.1.2.2.2, hk.1.2⟩⟩⟩⟩)⟩, ⟨by (with_reducible repeat (first | apply Kd.R_alloc | apply Kd.R_drewN | apply Kd.R_drew)); exact Kd.R_mono (Kd.R_far (p := ⟨gb279, 3, none⟩) (Kd.R_types HO_276003.out BK279.out (by decide)) (fun _ hk => hk.2) (.slice Ao82 y285.length co82)) (fun _ hk => ⟨hk.1.1.1, ⟨hk.1.1.2.1, ⟨hk.1.1.2.2.1, ⟨hk.1.1.2.2.2, hk.1.2⟩⟩⟩⟩)⟩, ⟨by (with_reducible repeat (first | apply Kd.R_alloc | apply Kd.R_drewN | apply Kd.R_drew)); exact Kd.R_mono (Kd.R_far (p := ⟨gb279, 3, none⟩) (Kd.R_types HO_280002.out BK279.out (by decide)) (fun _ hk => hk.2) (.slice Ao82 y285.length co82)) (fun _ hk => ⟨hk.1.1.1, ⟨hk.1.1.2.1, ⟨hk.1.1.2.2.1, ⟨hk.1.1.2.2.2, hk.1.2⟩⟩⟩⟩)⟩, ⟨by (with_reducible repeat (first | apply Kd.R_alloc | apply Kd.R_drewN | apply Kd.R_drew)); exact Kd.R_mono (Kd.R_far (p := ⟨gb279, 3, none⟩) (Kd.R_types HO287.out BK279.out (by decide)) (fun _ hk => hk.2) (.slice Ao82 y285.length co82)) (fun _ hk => ⟨hk.1.1, ⟨hk.1.2.1, ⟨hk.1.2.2.1, ⟨hk.1.2.2.2.1, hk.1.2.2.2.2⟩⟩⟩⟩)⟩, ⟨bk BK238⟩, ⟨bk BK263⟩, ⟨bk BK275⟩, ⟨bk BK279⟩, ⟨be⟩⟩
                   ·rw [if_neg c78] at H
                    exact absurd H (by simp)
                  ·rw [if_neg c76] at H
                   have c76b0 : decide (x15_7 ≤ t280) = false := decide_eq_false c76
                   clear c76
                   have H' := Aside0.mk H
                   clear H
                   go_wp2
                   go_roundg k7
                   case measure => have := HJ5.out; have := HJ28.out; have := HJ30.out; have := HJ34.out; have := HK5.out; have := HJ59.out; have := HK7.out; omega
                   case rel => exact ⟨(wrap64 (x13_5 + 1)), (y281), (x280003_7), (.slice Ao74 y281.length co74), (u280003), rs, H', ⟨by have := HJ5.out; have := HJ28.out; have := HJ30.out; have := HJ34.out; have := HK5.out; have := HJ59.out; have := HK7.out; omega⟩, ⟨by (with_reducible repeat (first | apply Kd.R_alloc | apply Kd.R_drewN | apply Kd.R_drew)); exact HO_264002.out⟩, ⟨by (with_reducible repeat (first | apply Kd.R_alloc | apply Kd.R_drewN | apply Kd.R_drew)); exact HO_264003.out⟩, ⟨by (with_reducible repeat (first | apply Kd.R_alloc | apply Kd.R_drewN | apply Kd.R_drew)); exact HO_276002.out⟩, ⟨by (with_reducible repeat (first | apply Kd.R_alloc | apply Kd.R_drewN | apply Kd.R_drew)); exact HO_276003.out⟩, ⟨by (with_reducible repeat (first | apply Kd.R_alloc | apply Kd.R_drewN | apply Kd.R_drew)); exact HO_280002.out⟩, ⟨by (with_reducible repeat (first | apply Kd.R_alloc | apply Kd.R_drewN | apply Kd.R_drew)); exact HO_280003.out⟩, ⟨bk BK238⟩, ⟨bk BK263⟩, ⟨bk BK275⟩, ⟨bk BK279⟩, ⟨be⟩⟩
               ·rw [if_neg c64] at H
                exact absurd H (by simp)
              ·replace c62 := Bool.eq_false_iff.mpr c62
               subst c62
               have H1 : (if x11_34 = 0 then ((ephemerisref1_MoonBegin.f kj59 a0_0 a0_1 a0_2 a0_3 a0_4 a0_5 a0_6 a0_7 a0_8 l0_9 l0_10 (wrap64 (a1 + x2_30)) 1).bind fun t288 => (if x280003_5.length < 17592186044416 then ((some (x280003_5 ++ [t288] : List Int)).bind fun y289 => (ephemerislaw1_ObservedOfs.l2 kj59 t274 x11_34 y289 (y289.length : Int) 0 t266 t267 t268 t271 a0_0 a1 x280002_5 y289)) else (none))) else (ephemerislaw1_ObservedOfs.j8 kj59 t274 x11_34 t266 t267 t268 t271 a0_0 a1 x280002_5 x280003_5)) = some r := by rw [if_neg (show ¬ (false = true) by decide)] at H; exact H
               clear H
               have H := H1
               clear H1
               have HC84 := Aside0.mk H
               clear H
               go_upto_if 114 with (fail)
               go_cut [11] (fun v11 wc => ∃ (kq : Nat) (x11_83 : Int) (x280003_83 : List Int) (u280003 : Value), v11 = .int .i64 x11_83 ∧ Aside0 (ephemerislaw1_ObservedOfs.j8 kq t274 x11_83 t266 t267 t268 t271 a0_0 a1 x280002_5 x280003_83 = some r) ∧ Aside0 (kq ≤ kj59) ∧ Aside0 (Kd.R (Kd.int .i64) 3 wc w.heap.size (fun k_ => some k_ ≠ ((.slice Ao16 t259.length co16) : Value).ownBlock ∧ some k_ ≠ ((.slice Ao43 t268.length co43) : Value).ownBlock ∧ some k_ ≠ ((.slice Ao44 t271.length co44) : Value).ownBlock ∧ some k_ ≠ (u280002 : Value).ownBlock ∧ some k_ ≠ (u280003 : Value).ownBlock) (.slice Ao15 t256.length co15) t256) ∧ Aside0 (Kd.R (Kd.int .i64) 3 wc w.heap.size (fun k_ => some k_ ≠ ((.slice Ao15 t256.length co15) : Value).ownBlock ∧ some k_ ≠ ((.slice Ao43 t268.length co43) : Value).ownBlock ∧ some k_ ≠ ((.slice Ao44 t271.length co44) : Value).ownBlock ∧ some k_ ≠ (u280002 : Value).ownBlock ∧ some k_ ≠ (u280003 : Value).ownBlock) (.slice Ao16 t259.length co16) t259) ∧ Aside0 (Kd.R (Kd.int .i64) 3 wc w.heap.size (fun k_ => some k_ ≠ ((.slice Ao15 t256.length co15) : Value).ownBlock ∧ some k_ ≠ ((.slice Ao16 t259.length co16) : Value).ownBlock ∧ some k_ ≠ ((.slice Ao44 t271.length co44) : Value).ownBlock ∧ some k_ ≠ (u280002 : Value).ownBlock ∧ some k_ ≠ (u280003 : Value).ownBlock) (.slice Ao43 t268.length co43) t268) ∧ Aside0 (Kd.R (Kd.int .i64) 3 wc w.heap.size (fun k_ => some k_ ≠ ((.slice Ao15 t256.length co15) : Value).ownBlock ∧ some k_ ≠ ((.slice Ao16 t259.length co16) : Value).ownBlock ∧ some k_ ≠ ((.slice Ao43 t268.length co43) : Value).ownBlock ∧ some k_ ≠ (u280002 : Value).ownBlock ∧ some k_ ≠ (u280003 : Value).ownBlock) (.slice Ao44 t271.length co44) t271) ∧ Aside0 (Kd.R (Kd.int .i64) 3 wc w.heap.size (fun k_ => some k_ ≠ ((.slice Ao15 t256.length co15) : Value).ownBlock ∧ some k_ ≠ ((.slice Ao16 t259.length co16) : Value).ownBlock ∧ some k_ ≠ ((.slice Ao43 t268.length co43) : Value).ownBlock ∧ some k_ ≠ ((.slice Ao44 t271.length co44) : Value).ownBlock ∧ some k_ ≠ (u280003 : Value).ownBlock) u280002 x280002_5) ∧ Aside0 (Kd.R (Kd.int .i64) 3 wc w.heap.size (fun k_ => some k_ ≠ ((.slice Ao15 t256.length co15) : Value).ownBlock ∧ some k_ ≠ ((.slice Ao16 t259.length co16) : Value).ownBlock ∧ some k_ ≠ ((.slice Ao43 t268.length co43) : Value).ownBlock ∧ some k_ ≠ ((.slice Ao44 t271.length co44) : Value).ownBlock ∧ some k_ ≠ (u280002 : Value).ownBlock) u280003 x280003_83) ∧ Aside0 (wc.heap[gb238]? = some (.cells #[.string a0_0, .int .i64 a0_1, .int .i64 a0_2, .int .i64 a0_3, .int .i64 a0_4, .int .i64 a0_5, .int .i64 a0_6, .int .i64 a0_7, .int .i64 a0_8, (.slice A0_9 l0_9.length c0_9), (.slice A0_10 l0_10.length c0_10)] 60 (0, 0))) ∧ Aside0 (wc.heap[gb263]? = some (.cells #[.string t254, .int .i64 t255, (.slice Ao15 t256.length co15), (.slice Ao16 t259.length co16)] 24 (0, 0))) ∧ Aside0 (wc.heap[gb275]? = some (.cells #[.string t266, .int .i64 t267, (.slice Ao43 t268.length co43), (.slice Ao44 t271.length co44)] 24 (0, 0))) ∧ Aside0 (wc.heap[gb279]? = some (.cells #[.string a0_0, .int .i64 a1, u280002, u280003] 24 (0, 0))) ∧ Aside0 (Below w.heap.size w wc))
               case first =>
                have H := HC84.out
                clear HC84
                by_cases c85 : x11_34 = 0
                ·rw [if_pos c85] at H
                 have c85b0 : (x11_34 == 0) = true := beq_iff_eq.mpr c85
                 have c85b1 : (x11_34 != 0) = false := bne_eq_false_iff_eq.mpr c85
                 clear c85
                 (first | rw [c85b0] | (simp only [i64_w, i32_w]; rw [c85b0]) | skip)
                 replace H := Option.bind_eq_some_iff.mp H
                 obtain ⟨t288, A860, H⟩ := H
                 replace H : (if x280003_5.length < 17592186044416 then ((some (x280003_5 ++ [t288] : List Int)).bind fun y289 => (ephemerislaw1_ObservedOfs.l2 kj59 t274 x11_34 y289 (y289.length : Int) 0 t266 t267 t268 t271 a0_0 a1 x280002_5 y289)) else (none)) = some r := H
                 have A86 := Aside0.mk A860
                 clear A860
                 by_cases c87 : x280003_5.length < 17592186044416
                 ·rw [if_pos c87] at H
                  have LMc87 := Aside0.mk c87
                  clear c87
                  obtain ⟨y289, hy289⟩ : ∃ y_ : List Int, y_ = (x280003_5 ++ [t288]) := ⟨_, rfl⟩
                  replace H : (ephemerislaw1_ObservedOfs.l2 kj59 t274 x11_34 y289 (y289.length : Int) 0 t266 t267 t268 t271 a0_0 a1 x280002_5 y289) = some r := rp hy289 H
                  have Ny289 := Aside0.mk hy289
                  clear hy289
                  have H' := Aside0.mk H
                  clear H
                  try go_wp2
                  have n0_ := Aside0.mk (Kd.R_drew HO_264002.out)
                  have n1_ := Aside0.mk (Kd.R_drew HO_264003.out)
                  have n2_ := Aside0.mk (Kd.R_drew HO_276002.out)
                  have n3_ := Aside0.mk (Kd.R_drew HO_276003.out)
                  have n4_ := Aside0.mk (Kd.R_drew HO_280002.out)
                  have n5_ := Aside0.mk (Kd.R_drew HO_280003.out)
                  have n6_ := Aside0.mk (blk_drew BK238.out)
                  have n7_ := Aside0.mk (blk_drew BK263.out)
                  have n8_ := Aside0.mk (blk_drew BK275.out)
                  have n9_ := Aside0.mk (blk_drew BK279.out)
                  have n10_ := Aside0.mk (below_drew1 HB.out)
                  clear HO_264002
                  clear HO_264003
                  clear HO_276002
                  clear HO_276003
                  clear HO_280002
                  clear HO_280003
                  clear BK238
                  clear BK263
                  clear BK275
                  clear BK279
                  clear HB
                  have HO_264002 := n0_
                  have HO_264003 := n1_
                  have HO_276002 := n2_
                  have HO_276003 := n3_
                  have HO_280002 := n4_
                  have HO_280003 := n5_
                  have BK238 := n6_
                  have BK263 := n7_
                  have BK275 := n8_
                  have BK279 := n9_
                  have HB := n10_
                  clear n0_ n1_ n2_ n3_ n4_ n5_ n6_ n7_ n8_ n9_ n10_
                  refine start_ (n := 11) (S := fun w' => w'.cell? ⟨gb279, 0, none⟩ = some (.string a0_0) ∧ w'.cell? ⟨gb279, 1, none⟩ = some (.int .i64 a1) ∧ w'.cell? ⟨gb279, 2, none⟩ = some (u280002) ∧ w'.cell? ⟨gb279, 3, none⟩ = some (u280003) ∧ w'.cell? ⟨gb238, 0, none⟩ = some (.string a0_0) ∧ w'.cell? ⟨gb238, 1, none⟩ = some (.int .i64 a0_1) ∧ w'.cell? ⟨gb238, 2, none⟩ = some (.int .i64 a0_2) ∧ w'.cell? ⟨gb238, 3, none⟩ = some (.int .i64 a0_3) ∧ w'.cell? ⟨gb238, 4, none⟩ = some (.int .i64 a0_4) ∧ w'.cell? ⟨gb238, 5, none⟩ = some (.int .i64 a0_5) ∧ w'.cell? ⟨gb238, 6, none⟩ = some (.int .i64 a0_6) ∧ w'.cell? ⟨gb238, 7, none⟩ = some (.int .i64 a0_7) ∧ w'.cell? ⟨gb238, 8, none⟩ = some (.int .i64 a0_8) ∧ w'.cell? ⟨gb238, 9, none⟩ = some (.slice A0_9 l0_9.length c0_9) ∧ w'.cell? ⟨gb238, 10, none⟩ = some (.slice A0_10 l0_10.length c0_10)) (ds := [10]) #[false, false, false, false, false, false, false, false, false, false, false] kx rfl rfl ⟨(blk_cell BK279.out 0).trans rfl, (blk_cell BK279.out 1).trans rfl, (blk_cell BK279.out 2).trans rfl, (blk_cell BK279.out 3).trans rfl, (blk_cell BK238.out 0).trans rfl, (blk_cell BK238.out 1).trans rfl, (blk_cell BK238.out 2).trans rfl, (blk_cell BK238.out 3).trans rfl, (blk_cell BK238.out 4).trans rfl, (blk_cell BK238.out 5).trans rfl, (blk_cell BK238.out 6).trans rfl, (blk_cell BK238.out 7).trans rfl, (blk_cell BK238.out 8).trans rfl, (blk_cell BK238.out 9).trans rfl, (blk_cell BK238.out 10).trans rfl⟩ (fun hHeld => ?_); refine with_tabW ephemerislaw1_ObservedOfs.tab24 ephemerislaw1_ObservedOfs.bits24 (fun HT_ HW_ => ?_)
                  generalize wc.drew = w88 at HO_264002 HO_264003 HO_276002 HO_276003 HO_280002 HO_280003 BK238 BK263 BK275 BK279 HB hHeld ⊢
                  refine pure_ (i := 0) (N := some 115) (v := ?_) (a' := ?_) #[true, false, false, false, false, false, false, false, false, false, false] rfl rfl (any_of HT_.out kx) (fun _ _ _ h => h) (Or.inl ⟨by rfl, ?_⟩) ?_ ?_
                  rotate_left
                  ·intro w'
                   go_simp
                   with_reducible rfl
                  rotate_left
                  ·simp only [Act.put, List.setIfInBounds_toArray, List.set_cons_zero, List.set_cons_succ, i64_w, i32_w]
                   rfl
                  refine pure_ (i := 3) (N := some 118) (v := ?_) (a' := ?_) #[true, false, false, true, false, false, false, false, false, false, false] rfl rfl (any_of HT_.out kx) (fun _ _ _ h => h) (Or.inl ⟨by rfl, ?_⟩) ?_ ?_
                  rotate_left
                  ·intro w'
                   go_simp
                   with_reducible rfl
                  rotate_left
                  ·simp only [Act.put, List.setIfInBounds_toArray, List.set_cons_zero, List.set_cons_succ, i64_w, i32_w]
                   rfl
                  refine pure_ (i := 4) (N := some 119) (v := ?_) (a' := ?_) #[true, false, false, true, true, false, false, false, false, false, false] rfl rfl (any_of HT_.out kx) (fun _ _ _ h => h) (Or.inl ⟨by rfl, ?_⟩) ?_ ?_
                  rotate_left
                  ·intro w'
                   go_simp
                   with_reducible rfl
                  rotate_left
                  ·simp only [Act.put, List.setIfInBounds_toArray, List.set_cons_zero, List.set_cons_succ, i64_w, i32_w]
                   rfl
                  refine pure_ (i := 5) (N := some 120) (v := ?_) (a' := ?_) #[true, false, false, true, true, true, false, false, false, false, false] rfl rfl (any_of HT_.out kx) (fun _ _ _ h => h) (Or.inl ⟨by rfl, ?_⟩) ?_ ?_
                  rotate_left
                  ·intro w'
                   go_simp
                   with_reducible rfl
                  rotate_left
                  ·simp only [Act.put, List.setIfInBounds_toArray, List.set_cons_zero, List.set_cons_succ, i64_w, i32_w]
                   rfl
                  refine take_ (i := 1) (N := some 116) (v := ?_) (a' := ?_) #[true, true, false, true, true, true, false, false, false, false, false] rfl rfl (take_ofW HT_.out HW_.out kx) (fun _ _ _ h => h) (Or.inl ⟨by rfl, ?_⟩) hHeld ?_ ?_
                  rotate_left
                  ·rintro w' ⟨s0, s1, s2, s3, s4, s5, s6, s7, s8, s9, s10, s11, s12, s13, s14⟩
                   go_simp
                   with_reducible rfl
                  rotate_left
                  ·simp only [Act.put, List.setIfInBounds_toArray, List.set_cons_zero, List.set_cons_succ, i64_w, i32_w]
                   rfl
                  refine take_ (i := 2) (N := some 117) (v := ?_) (a' := ?_) #[true, true, true, true, true, true, false, false, false, false, false] rfl rfl (take_ofW HT_.out HW_.out kx) (fun _ _ _ h => h) (Or.inl ⟨by rfl, ?_⟩) hHeld ?_ ?_
                  rotate_left
                  ·rintro w' ⟨s0, s1, s2, s3, s4, s5, s6, s7, s8, s9, s10, s11, s12, s13, s14⟩
                   go_simp
                   with_reducible rfl
                  rotate_left
                  ·simp only [Act.put, List.setIfInBounds_toArray, List.set_cons_zero, List.set_cons_succ, i64_w, i32_w]
                   rfl
                  refine one_ (i := 6) (N := some 121) #[true, true, true, true, true, true, true, false, false, false, false] rfl rfl (one_of HT_.out kx) (by decide) (fun K hK => ?_)
                  refine goes_ Try.func29 kx rfl #[.agg #[.string a0_0, .int .i64 a0_1, .int .i64 a0_2, .int .i64 a0_3, .int .i64 a0_4, .int .i64 a0_5, .int .i64 a0_6, .int .i64 a0_7, .int .i64 a0_8, .slice A0_9 l0_9.length c0_9, .slice A0_10 l0_10.length c0_10], .int .i64 (wrap64 (a1 + x2_30)), .int .i64 1] (by rfl) rfl rfl aa ?_
                  with_reducible refine (ephemerisref1_MoonBegin.calls kj59 a0_0 a0_1 a0_2 a0_3 a0_4 a0_5 a0_6 a0_7 a0_8 _ _ l0_9 _ _ l0_10 (wrap64 (a1 + x2_30)) 1 t288 _ ?side1 ?side2 ?side3 ?side4 A86.out).mono ?_
                  (case side1 => exact kc (Kd.C_below HR0_9.out HB.out))
                  (case side2 => exact HC0_9.out)
                  (case side3 => exact kc (Kd.C_below HR0_10.out HB.out))
                  (case side4 => exact HC0_10.out)
                  rintro e w89 ⟨rfl, hb⟩
                  refine ⟨_, rfl, ?_⟩
                  have n0_ := Aside0.mk (Kd.R_below (by (with_reducible repeat (first | apply Kd.R_alloc | apply Kd.R_drewN | apply Kd.R_drew)); exact HO_264002.out) hb)
                  have n1_ := Aside0.mk (Kd.R_below (by (with_reducible repeat (first | apply Kd.R_alloc | apply Kd.R_drewN | apply Kd.R_drew)); exact HO_264003.out) hb)
                  have n2_ := Aside0.mk (Kd.R_below (by (with_reducible repeat (first | apply Kd.R_alloc | apply Kd.R_drewN | apply Kd.R_drew)); exact HO_276002.out) hb)
                  have n3_ := Aside0.mk (Kd.R_below (by (with_reducible repeat (first | apply Kd.R_alloc | apply Kd.R_drewN | apply Kd.R_drew)); exact HO_276003.out) hb)
                  have n4_ := Aside0.mk (Kd.R_below (by (with_reducible repeat (first | apply Kd.R_alloc | apply Kd.R_drewN | apply Kd.R_drew)); exact HO_280002.out) hb)
                  have n5_ := Aside0.mk (Kd.R_below (by (with_reducible repeat (first | apply Kd.R_alloc | apply Kd.R_drewN | apply Kd.R_drew)); exact HO_280003.out) hb)
                  have n6_ := bb BK238 hb
                  have n7_ := bb BK263 hb
                  have n8_ := bb BK275 hb
                  have n9_ := bb BK279 hb
                  have n10_ := Aside0.mk (below_step be hb)
                  clear HO_264002
                  clear HO_264003
                  clear HO_276002
                  clear HO_276003
                  clear HO_280002
                  clear HO_280003
                  clear BK238
                  clear BK263
                  clear BK275
                  clear BK279
                  clear HB
                  have HO_264002 := n0_
                  have HO_264003 := n1_
                  have HO_276002 := n2_
                  have HO_276003 := n3_
                  have HO_280002 := n4_
                  have HO_280003 := n5_
                  have BK238 := n6_
                  have BK263 := n7_
                  have BK275 := n8_
                  have BK279 := n9_
                  have HB := n10_
                  clear n0_ n1_ n2_ n3_ n4_ n5_ n6_ n7_ n8_ n9_ n10_
                  (try clear hb)
                  (try clear hb2)
                  (try clear hk)
                  (try clear hi)
                  refine hK.out _ _ ⟨(blk_cell BK279.out 0).trans rfl, (blk_cell BK279.out 1).trans rfl, (blk_cell BK279.out 2).trans rfl, (blk_cell BK279.out 3).trans rfl, (blk_cell BK238.out 0).trans rfl, (blk_cell BK238.out 1).trans rfl, (blk_cell BK238.out 2).trans rfl, (blk_cell BK238.out 3).trans rfl, (blk_cell BK238.out 4).trans rfl, (blk_cell BK238.out 5).trans rfl, (blk_cell BK238.out 6).trans rfl, (blk_cell BK238.out 7).trans rfl, (blk_cell BK238.out 8).trans rfl, (blk_cell BK238.out 9).trans rfl, (blk_cell BK238.out 10).trans rfl⟩ (fun hHeld => ?_)
                  clear hK K
                  refine norm_ (a' := ?_) ?_ ?_
                  rotate_left
                  ·show Act.put _ (some 121) _ = _
                   simp only [Act.put, List.setIfInBounds_toArray, List.set_cons_zero, List.set_cons_succ, i64_w, i32_w]
                   rfl
                  refine one_ (i := 7) (N := some 122) #[true, true, true, true, true, true, true, true, false, false, false] rfl rfl (one_of HT_.out kx) (by decide) (fun K hK => ?_)
                  refine value_ (w1 := ?_) (v := ?_) (by rfl) rfl ?_ ?_
                  rotate_left 2
                  ·go_simp
                   constructor
                   ·rfl
                   ·rfl
                  refine hK.out _ _ ⟨(blk_cell (blk_alloc BK279.out _) 0).trans rfl, (blk_cell (blk_alloc BK279.out _) 1).trans rfl, (blk_cell (blk_alloc BK279.out _) 2).trans rfl, (blk_cell (blk_alloc BK279.out _) 3).trans rfl, (blk_cell (blk_alloc BK238.out _) 0).trans rfl, (blk_cell (blk_alloc BK238.out _) 1).trans rfl, (blk_cell (blk_alloc BK238.out _) 2).trans rfl, (blk_cell (blk_alloc BK238.out _) 3).trans rfl, (blk_cell (blk_alloc BK238.out _) 4).trans rfl, (blk_cell (blk_alloc BK238.out _) 5).trans rfl, (blk_cell (blk_alloc BK238.out _) 6).trans rfl, (blk_cell (blk_alloc BK238.out _) 7).trans rfl, (blk_cell (blk_alloc BK238.out _) 8).trans rfl, (blk_cell (blk_alloc BK238.out _) 9).trans rfl, (blk_cell (blk_alloc BK238.out _) 10).trans rfl⟩ (fun hHeld => ?_)
                  clear hK K
                  refine norm_ (a' := ?_) ?_ ?_
                  rotate_left
                  ·show Act.put _ (some 122) _ = _
                   simp only [Act.put, List.setIfInBounds_toArray, List.set_cons_zero, List.set_cons_succ, i64_w, i32_w]
                   rfl
                  refine one_ (i := 8) (N := some 123) #[true, true, true, true, true, true, true, true, true, false, false] rfl rfl (one_of HT_.out kx) (by decide) (fun K hK => ?_)
                  refine Kd.R_append_step (Kd.int .i64) (w0 := w) w.heap.size (by rfl) (.tmp 116) (.tmp 122) 22 3 (.int .i64 0) 8 rfl Try.underlying22 info3 rfl (by decide) (by omega) u280003 x280003_5 t288 [.int .i64 t288] (fun k_ => some k_ ≠ (.slice Ao15 t256.length co15 : Value).ownBlock ∧ some k_ ≠ (.slice Ao16 t259.length co16 : Value).ownBlock ∧ some k_ ≠ (.slice Ao43 t268.length co43 : Value).ownBlock ∧ some k_ ≠ (.slice Ao44 t271.length co44 : Value).ownBlock ∧ some k_ ≠ (u280002 : Value).ownBlock) (fun _ => False) rfl rfl ?aP (fun _ hk => hk.elim) ?aF ?aO ?aB ?aS ?aL ?_
                  (case aP => exact rfl)
                  (case aB => exact be)
                  (case aF => exact (fun k_ hk => ⟨Kd.fresh' (Kd.R_lt (by (with_reducible repeat (first | apply Kd.R_alloc | apply Kd.R_drewN | apply Kd.R_drew)); exact HO_264002.out)) k_ hk, Kd.fresh' (Kd.R_lt (by (with_reducible repeat (first | apply Kd.R_alloc | apply Kd.R_drewN | apply Kd.R_drew)); exact HO_264003.out)) k_ hk, Kd.fresh' (Kd.R_lt (by (with_reducible repeat (first | apply Kd.R_alloc | apply Kd.R_drewN | apply Kd.R_drew)); exact HO_276002.out)) k_ hk, Kd.fresh' (Kd.R_lt (by (with_reducible repeat (first | apply Kd.R_alloc | apply Kd.R_drewN | apply Kd.R_drew)); exact HO_276003.out)) k_ hk, Kd.fresh' (Kd.R_lt (by (with_reducible repeat (first | apply Kd.R_alloc | apply Kd.R_drewN | apply Kd.R_drew)); exact HO_280002.out)) k_ hk⟩))
                  (case aO => exact (by (with_reducible repeat (first | apply Kd.R_alloc | apply Kd.R_drewN | apply Kd.R_drew)); exact HO_280003.out))
                  (case aS => exact (below_size be))
                  (case aL => have := LMc87.out; omega)
                  intro v290 w90 ho hb hg hat
                  rw [← Ny289.out] at ho
                  have n0_ := Aside0.mk (Kd.R_after (ok := (fun k_ => some k_ ≠ (.slice Ao16 t259.length co16 : Value).ownBlock ∧ some k_ ≠ (.slice Ao43 t268.length co43 : Value).ownBlock ∧ some k_ ≠ (.slice Ao44 t271.length co44 : Value).ownBlock ∧ some k_ ≠ (u280002 : Value).ownBlock)) (by (with_reducible repeat (first | apply Kd.R_alloc | apply Kd.R_drewN | apply Kd.R_drew)); exact Kd.R_mono HO_264002.out (fun _ hk => ⟨⟨hk.1, ⟨hk.2.1, ⟨hk.2.2.1, hk.2.2.2.1⟩⟩⟩, hk.2.2.2.2⟩)) hg hat)
                  have n1_ := Aside0.mk (Kd.R_after (ok := (fun k_ => some k_ ≠ (.slice Ao15 t256.length co15 : Value).ownBlock ∧ some k_ ≠ (.slice Ao43 t268.length co43 : Value).ownBlock ∧ some k_ ≠ (.slice Ao44 t271.length co44 : Value).ownBlock ∧ some k_ ≠ (u280002 : Value).ownBlock)) (by (with_reducible repeat (first | apply Kd.R_alloc | apply Kd.R_drewN | apply Kd.R_drew)); exact Kd.R_mono HO_264003.out (fun _ hk => ⟨⟨hk.1, ⟨hk.2.1, ⟨hk.2.2.1, hk.2.2.2.1⟩⟩⟩, hk.2.2.2.2⟩)) hg hat)
                  have n2_ := Aside0.mk (Kd.R_after (ok := (fun k_ => some k_ ≠ (.slice Ao15 t256.length co15 : Value).ownBlock ∧ some k_ ≠ (.slice Ao16 t259.length co16 : Value).ownBlock ∧ some k_ ≠ (.slice Ao44 t271.length co44 : Value).ownBlock ∧ some k_ ≠ (u280002 : Value).ownBlock)) (by (with_reducible repeat (first | apply Kd.R_alloc | apply Kd.R_drewN | apply Kd.R_drew)); exact Kd.R_mono HO_276002.out (fun _ hk => ⟨⟨hk.1, ⟨hk.2.1, ⟨hk.2.2.1, hk.2.2.2.1⟩⟩⟩, hk.2.2.2.2⟩)) hg hat)
                  have n3_ := Aside0.mk (Kd.R_after (ok := (fun k_ => some k_ ≠ (.slice Ao15 t256.length co15 : Value).ownBlock ∧ some k_ ≠ (.slice Ao16 t259.length co16 : Value).ownBlock ∧ some k_ ≠ (.slice Ao43 t268.length co43 : Value).ownBlock ∧ some k_ ≠ (u280002 : Value).ownBlock)) (by (with_reducible repeat (first | apply Kd.R_alloc | apply Kd.R_drewN | apply Kd.R_drew)); exact Kd.R_mono HO_276003.out (fun _ hk => ⟨⟨hk.1, ⟨hk.2.1, ⟨hk.2.2.1, hk.2.2.2.1⟩⟩⟩, hk.2.2.2.2⟩)) hg hat)
                  have n4_ := Aside0.mk (Kd.R_after (ok := (fun k_ => some k_ ≠ (.slice Ao15 t256.length co15 : Value).ownBlock ∧ some k_ ≠ (.slice Ao16 t259.length co16 : Value).ownBlock ∧ some k_ ≠ (.slice Ao43 t268.length co43 : Value).ownBlock ∧ some k_ ≠ (.slice Ao44 t271.length co44 : Value).ownBlock)) (by (with_reducible repeat (first | apply Kd.R_alloc | apply Kd.R_drewN | apply Kd.R_drew)); exact Kd.R_mono HO_280002.out (fun _ hk => ⟨⟨hk.1, ⟨hk.2.1, ⟨hk.2.2.1, hk.2.2.2.1⟩⟩⟩, hk.2.2.2.2⟩)) hg hat)
                  have n5_ := Aside0.mk (blk_grown (g := gb238) (o := .cells #[.string a0_0, .int .i64 a0_1, .int .i64 a0_2, .int .i64 a0_3, .int .i64 a0_4, .int .i64 a0_5, .int .i64 a0_6, .int .i64 a0_7, .int .i64 a0_8, .slice A0_9 l0_9.length c0_9, .slice A0_10 l0_10.length c0_10] 60 (0, 0)) (bk BK238) hg (Kd.R_ne HO_280003.out BK238.out (by decide)))
                  have n6_ := Aside0.mk (blk_grown (g := gb263) (o := .cells #[.string t254, .int .i64 t255, .slice Ao15 t256.length co15, .slice Ao16 t259.length co16] 24 (0, 0)) (bk BK263) hg (Kd.R_ne HO_280003.out BK263.out (by decide)))
                  have n7_ := Aside0.mk (blk_grown (g := gb275) (o := .cells #[.string t266, .int .i64 t267, .slice Ao43 t268.length co43, .slice Ao44 t271.length co44] 24 (0, 0)) (bk BK275) hg (Kd.R_ne HO_280003.out BK275.out (by decide)))
                  have n8_ := Aside0.mk (blk_grown (g := gb279) (o := .cells #[.string a0_0, .int .i64 a1, u280002, u280003] 24 (0, 0)) (bk BK279) hg (Kd.R_ne HO_280003.out BK279.out (by decide)))
                  have n9_ := Aside0.mk (hb)
                  have n10_ := Aside0.mk (ho)
                  clear HO_264002
                  clear HO_264003
                  clear HO_276002
                  clear HO_276003
                  clear HO_280002
                  clear BK238
                  clear BK263
                  clear BK275
                  clear BK279
                  clear HB
                  clear HO_280003
                  have HO_264002 := n0_
                  have HO_264003 := n1_
                  have HO_276002 := n2_
                  have HO_276003 := n3_
                  have HO_280002 := n4_
                  have BK238 := n5_
                  have BK263 := n6_
                  have BK275 := n7_
                  have BK279 := n8_
                  have HB := n9_
                  have HO291 := n10_
                  clear n0_ n1_ n2_ n3_ n4_ n5_ n6_ n7_ n8_ n9_ n10_
                  clear ho hb hg hat
                  obtain ⟨Ao91, co91, eo91⟩ := Kd.R_slice HO291.out
                  (first | subst eo91 | (injection eo91 with f1_ f2_ f3_; have f4_ := f1_.symm; have f5_ := f3_.symm; clear f1_ f2_ f3_; subst f4_; subst f5_))
                  refine hK.out _ _ ⟨(blk_cell BK279.out 0).trans rfl, (blk_cell BK279.out 1).trans rfl, (blk_cell BK279.out 2).trans rfl, (blk_cell BK279.out 3).trans rfl, (blk_cell BK238.out 0).trans rfl, (blk_cell BK238.out 1).trans rfl, (blk_cell BK238.out 2).trans rfl, (blk_cell BK238.out 3).trans rfl, (blk_cell BK238.out 4).trans rfl, (blk_cell BK238.out 5).trans rfl, (blk_cell BK238.out 6).trans rfl, (blk_cell BK238.out 7).trans rfl, (blk_cell BK238.out 8).trans rfl, (blk_cell BK238.out 9).trans rfl, (blk_cell BK238.out 10).trans rfl⟩ (fun hHeld => ?_)
                  clear hK K
                  refine norm_ (a' := ?_) ?_ ?_
                  rotate_left
                  ·show Act.put _ (some 123) _ = _
                   simp only [Act.put, List.setIfInBounds_toArray, List.set_cons_zero, List.set_cons_succ, i64_w, i32_w]
                   rfl
                  refine pure_ (i := 9) (N := some 124) (v := ?_) (a' := ?_) #[true, true, true, true, true, true, true, true, true, true, false] rfl rfl (any_of HT_.out kx) (fun _ _ _ h => h) (Or.inl ⟨by rfl, ?_⟩) ?_ ?_
                  rotate_left
                  ·intro w'
                   go_simp
                   with_reducible rfl
                  rotate_left
                  ·simp only [Act.put, List.setIfInBounds_toArray, List.set_cons_zero, List.set_cons_succ, i64_w, i32_w]
                   rfl
                  refine last_ (i := 10) (N := none) #[true, true, true, true, true, true, true, true, true, true, true] rfl rfl (one_of HT_.out kx) (by decide) (fun K hK => ?_)
                  have hs92 : w90.cell? ⟨gb279, 3, none⟩ = some (u280003) := (blk_cell BK279.out 3).trans rfl
                  have hfs92 := blk_frozen BK279.out 3
                  have hns92_0 := NB238_279.out
                  have hns92_1 := NB263_279.out
                  have hns92_2 := NB275_279.out
                  have hms92_0 := NB279_238.out
                  have hms92_1 := NB279_263.out
                  have hms92_2 := NB279_275.out
                  refine skip_ (w1 := ?_) (by rfl) rfl ?_ ?_
                  rotate_left
                  ·go_simp
                   rfl
                  refine hK.out _ _ ?_
                  clear hK K
                  refine done_ (done_of HT_.out kx) ?_
                  have hnb93 := NB279_238.out
                  have hnc93 := NB238_279.out
                  have hnb94 := NB279_263.out
                  have hnc94 := NB263_279.out
                  have hnb95 := NB279_275.out
                  have hnc95 := NB275_279.out
                  obtain ⟨hcz96_0, hcz96_1, hcz96_2, hcz96_3, hfz96_0, hfz96_1, hfz96_2, hfz96_3⟩ := bc4 BK279
                  try go_wp2
                  go_loopg [11, 128] kj59 (fun kq v11 v128 w' => ∃ (x11_7 : Int) (x128_7 : Int), v11 = .int .i64 x11_7 ∧ v128 = .int .i64 x128_7 ∧ Aside0 (ephemerislaw1_ObservedOfs.l2 kq t274 x11_7 y289 (y289.length : Int) x128_7 t266 t267 t268 t271 a0_0 a1 x280002_5 y289 = some r) ∧ Aside0 (kq ≤ kj59) ∧ Aside0 (Kd.R (Kd.int .i64) 3 w' w.heap.size (fun k_ => some k_ ≠ ((.slice Ao15 t256.length co15) : Value).ownBlock ∧ some k_ ≠ ((.slice Ao16 t259.length co16) : Value).ownBlock ∧ some k_ ≠ ((.slice Ao43 t268.length co43) : Value).ownBlock ∧ some k_ ≠ ((.slice Ao44 t271.length co44) : Value).ownBlock ∧ some k_ ≠ (u280002 : Value).ownBlock) (.slice Ao91 y289.length co91) y289) ∧ Aside0 (Kd.R (Kd.int .i64) 3 w' w.heap.size (fun k_ => some k_ ≠ ((.slice Ao91 y289.length co91) : Value).ownBlock ∧ some k_ ≠ ((.slice Ao16 t259.length co16) : Value).ownBlock ∧ some k_ ≠ ((.slice Ao43 t268.length co43) : Value).ownBlock ∧ some k_ ≠ ((.slice Ao44 t271.length co44) : Value).ownBlock ∧ some k_ ≠ (u280002 : Value).ownBlock ∧ some k_ ≠ ((.slice Ao91 y289.length co91) : Value).ownBlock) (.slice Ao15 t256.length co15) t256) ∧ Aside0 (Kd.R (Kd.int .i64) 3 w' w.heap.size (fun k_ => some k_ ≠ ((.slice Ao91 y289.length co91) : Value).ownBlock ∧ some k_ ≠ ((.slice Ao15 t256.length co15) : Value).ownBlock ∧ some k_ ≠ ((.slice Ao43 t268.length co43) : Value).ownBlock ∧ some k_ ≠ ((.slice Ao44 t271.length co44) : Value).ownBlock ∧ some k_ ≠ (u280002 : Value).ownBlock ∧ some k_ ≠ ((.slice Ao91 y289.length co91) : Value).ownBlock) (.slice Ao16 t259.length co16) t259) ∧ Aside0 (Kd.R (Kd.int .i64) 3 w' w.heap.size (fun k_ => some k_ ≠ ((.slice Ao91 y289.length co91) : Value).ownBlock ∧ some k_ ≠ ((.slice Ao15 t256.length co15) : Value).ownBlock ∧ some k_ ≠ ((.slice Ao16 t259.length co16) : Value).ownBlock ∧ some k_ ≠ ((.slice Ao44 t271.length co44) : Value).ownBlock ∧ some k_ ≠ (u280002 : Value).ownBlock ∧ some k_ ≠ ((.slice Ao91 y289.length co91) : Value).ownBlock) (.slice Ao43 t268.length co43) t268) ∧ Aside0 (Kd.R (Kd.int .i64) 3 w' w.heap.size (fun k_ => some k_ ≠ ((.slice Ao91 y289.length co91) : Value).ownBlock ∧ some k_ ≠ ((.slice Ao15 t256.length co15) : Value).ownBlock ∧ some k_ ≠ ((.slice Ao16 t259.length co16) : Value).ownBlock ∧ some k_ ≠ ((.slice Ao43 t268.length co43) : Value).ownBlock ∧ some k_ ≠ (u280002 : Value).ownBlock ∧ some k_ ≠ ((.slice Ao91 y289.length co91) : Value).ownBlock) (.slice Ao44 t271.length co44) t271) ∧ Aside0 (Kd.R (Kd.int .i64) 3 w' w.heap.size (fun k_ => some k_ ≠ ((.slice Ao91 y289.length co91) : Value).ownBlock ∧ some k_ ≠ ((.slice Ao15 t256.length co15) : Value).ownBlock ∧ some k_ ≠ ((.slice Ao16 t259.length co16) : Value).ownBlock ∧ some k_ ≠ ((.slice Ao43 t268.length co43) : Value).ownBlock ∧ some k_ ≠ ((.slice Ao44 t271.length co44) : Value).ownBlock ∧ some k_ ≠ ((.slice Ao91 y289.length co91) : Value).ownBlock) u280002 x280002_5) ∧ Aside0 (Kd.R (Kd.int .i64) 3 w' w.heap.size (fun k_ => some k_ ≠ ((.slice Ao15 t256.length co15) : Value).ownBlock ∧ some k_ ≠ ((.slice Ao16 t259.length co16) : Value).ownBlock ∧ some k_ ≠ ((.slice Ao43 t268.length co43) : Value).ownBlock ∧ some k_ ≠ ((.slice Ao44 t271.length co44) : Value).ownBlock ∧ some k_ ≠ (u280002 : Value).ownBlock) (.slice Ao91 y289.length co91) y289) ∧ Aside0 (w'.heap[gb238]? = some (.cells #[.string a0_0, .int .i64 a0_1, .int .i64 a0_2, .int .i64 a0_3, .int .i64 a0_4, .int .i64 a0_5, .int .i64 a0_6, .int .i64 a0_7, .int .i64 a0_8, (.slice A0_9 l0_9.length c0_9), (.slice A0_10 l0_10.length c0_10)] 60 (0, 0))) ∧ Aside0 (w'.heap[gb263]? = some (.cells #[.string t254, .int .i64 t255, (.slice Ao15 t256.length co15), (.slice Ao16 t259.length co16)] 24 (0, 0))) ∧ Aside0 (w'.heap[gb275]? = some (.cells #[.string t266, .int .i64 t267, (.slice Ao43 t268.length co43), (.slice Ao44 t271.length co44)] 24 (0, 0))) ∧ Aside0 (w'.heap[gb279]? = some (.cells #[.string a0_0, .int .i64 a1, u280002, (.slice Ao91 y289.length co91)] 24 (0, 0))) ∧ Aside0 (Below w.heap.size w w'))
                  case atStart => exact ⟨(x11_34), (0), rs, rs, H', ⟨Nat.le_refl _⟩, ⟨by (with_reducible repeat (first | apply Kd.R_alloc | apply Kd.R_drewN | apply Kd.R_drew)); exact Kd.R_mono (Kd.R_far (p := ⟨gb279, 3, none⟩) (Kd.R_types HO291.out BK279.out (by decide)) (fun _ hk => hk.2) (.slice Ao91 y289.length co91)) (fun _ hk => ⟨hk.1.1, ⟨hk.1.2.1, ⟨hk.1.2.2.1, ⟨hk.1.2.2.2.1, hk.1.2.2.2.2⟩⟩⟩⟩)⟩, ⟨by (with_reducible repeat (first | apply Kd.R_alloc | apply Kd.R_drewN | apply Kd.R_drew)); exact Kd.R_mono (Kd.R_far (p := ⟨gb279, 3, none⟩) (Kd.R_types HO_264002.out BK279.out (by decide)) (fun _ hk => hk.2) (.slice Ao91 y289.length co91)) (fun _ hk => ⟨hk.1.2, ⟨hk.1.1.1, ⟨hk.1.1.2.1, ⟨hk.1.1.2.2.1, ⟨hk.1.1.2.2.2, hk.1.2⟩⟩⟩⟩⟩)⟩, ⟨by (with_reducible repeat (first | apply Kd.R_alloc | apply Kd.R_drewN | apply Kd.R_drew)); exact Kd.R_mono (Kd.R_far (p := ⟨gb279, 3, none⟩) (Kd.R_types HO_264003.out BK279.out (by decide)) (fun _ hk => hk.2) (.slice Ao91 y289.length co91)) (fun _ hk => ⟨hk.1.2, ⟨hk.1.1.1, ⟨hk.1.1.2.1, ⟨hk.1.1.2.2.1, ⟨hk.1.1.2.2.2, hk.1.2⟩⟩⟩⟩⟩)⟩, ⟨by (with_reducible repeat (first | apply Kd.R_alloc | apply Kd.R_drewN | apply Kd.R_drew)); exact Kd.R_mono (Kd.R_far (p := ⟨gb279, 3, none⟩) (Kd.R_types HO_276002.out BK279.out (by decide)) (fun _ hk => hk.2) (.slice Ao91 y289.length co91)) (fun _ hk => ⟨hk.1.2, ⟨hk.1.1.1, ⟨hk.1.1.2.1, ⟨hk.1.1.2.2.1, ⟨hk.1.1.2.2.2, hk.1.2⟩⟩⟩⟩⟩)⟩, ⟨by (with_reducible repeat (first | apply Kd.R_alloc | apply Kd.R_drewN | apply Kd.R_drew)); exact Kd.R_mono (Kd.R_far (p := ⟨gb279, 3, none⟩) (Kd.R_types HO_276003.out BK279.out (by decide)) (fun _ hk => hk.2) (.slice Ao91 y289.length co91)) (fun _ hk => ⟨hk.1.2, ⟨hk.1.1.1, ⟨hk.1.1.2.1, ⟨hk.1.1.2.2.1, ⟨hk.1.1.2.2.2, hk.1.2⟩⟩⟩⟩⟩)⟩, ⟨by (with_reducible repeat (first | apply Kd.R_alloc | apply Kd.R_drewN | apply Kd.R_drew)); exact Kd.R_mono (Kd.R_far (p := ⟨gb279, 3, none⟩) (Kd.R_types HO_280002.out BK279.out (by decide)) (fun _ hk => hk.2) (.slice Ao91 y289.length co91)) (fun _ hk => ⟨hk.1.2, ⟨hk.1.1.1, ⟨hk.1.1.2.1, ⟨hk.1.1.2.2.1, ⟨hk.1.1.2.2.2, hk.1.2⟩⟩⟩⟩⟩)⟩, ⟨by (with_reducible repeat (first | apply Kd.R_alloc | apply Kd.R_drewN | apply Kd.R_drew)); exact Kd.R_mono (Kd.R_far (p := ⟨gb279, 3, none⟩) (Kd.R_types HO291.out BK279.out (by decide)) (fun _ hk => hk.2) (.slice Ao91 y289.length co91)) (fun _ hk => ⟨hk.1.1, ⟨hk.1.2.1, ⟨hk.1.2.2.1, ⟨hk.1.2.2.2.1, hk.1.2.2.2.2⟩⟩⟩⟩)⟩, ⟨bk BK238⟩, ⟨bk BK263⟩, ⟨bk BK275⟩, ⟨bk BK279⟩, ⟨be⟩⟩
                  case round =>
                   clear H'
                   (try clear c2); (try clear p2); (try clear q2); (try clear hx2); (try clear c6); (try clear p6); (try clear c7); (try clear c8); (try clear c9); (try clear p26); (try clear q26); (try clear hx26); (try clear c29); (try clear c62); (try clear c64); (try clear p64); (try clear c76); (try clear c76b0); (try clear c78); (try clear c85); (try clear c85b0); (try clear c85b1); (try clear c87); (try clear c93); (try clear c94); (try clear c95); (try clear hcz96_0); (try clear hcz96_1); (try clear hcz96_2); (try clear hcz96_3); (try clear hfz45_5); (try clear hfz45_6); (try clear hfz45_7); (try clear hfz45_8); (try clear hfz45_9); (try clear hfz54_0); (try clear hfz54_1); (try clear hfz54_10); (try clear hfz54_2); (try clear hfz54_3); (try clear hfz54_4); (try clear hfz54_5); (try clear hfz54_6); (try clear hfz54_7); (try clear hfz54_8); (try clear hfz54_9); (try clear hfz59_0); (try clear hfz59_1); (try clear hfz59_2); (try clear hfz59_3); (try clear hfz68_0); (try clear hfz68_1); (try clear hfz68_10); (try clear hfz68_2); (try clear hfz68_3); (try clear hfz68_4); (try clear hfz68_5); (try clear hfz68_6); (try clear hfz68_7); (try clear hfz68_8); (try clear hfz68_9); (try clear hfz72_0); (try clear hfz72_1); (try clear hfz72_2); (try clear hfz72_3); (try clear hfz75_0); (try clear hfz75_1); (try clear hfz75_2); (try clear hfz75_3); (try clear hfz96_0); (try clear hfz96_1); (try clear hfz96_2); (try clear hfz96_3); (try clear hx264_0); (try clear hx265_0); (try clear p2); (try clear p26); (try clear p264); (try clear p265); (try clear p6); (try clear q2); (try clear q26); (try clear q264); (try clear q265)
                   obtain ⟨x11_7, x128_7, rfl, rfl, HA, HK7, HO_126, HO_264002, HO_264003, HO_276002, HO_276003, HO_280002, HO_280003, BK238, BK263, BK275, BK279, HB⟩ := hrel
                   cases gk with
                   | zero => exact absurd HA.out (by simp [ephemerislaw1_ObservedOfs.l2])
                   | succ k7 =>
                    have H := HA.out
                    clear HA
                    simp only [ephemerislaw1_ObservedOfs.l2] at H
                    by_cases c97 : x128_7 < (y289.length : Int)
                    ·rw [if_pos c97] at H
                     have c97b0 : decide (x128_7 < (y289.length : Int)) = true := decide_eq_true c97
                     clear c97
                     by_cases c98 : 0 ≤ x128_7
                     ·rw [if_pos c98] at H
                      have c98b0 : decide (0 ≤ x128_7) = true := decide_eq_true c98
                      clear c98
                      by_cases c99 : x128_7 < (y289.length : Int)
                      ·rw [if_pos c99] at H
                       have c99b0 : decide (x128_7 < (y289.length : Int)) = true := decide_eq_true c99
                       clear c99
                       replace H := Option.bind_eq_some_iff.mp H
                       obtain ⟨t293, A1000, H⟩ := H
                       replace H : (if t293 = true then (ephemerislaw1_ObservedOfs.l2 k7 t274 x11_7 y289 (y289.length : Int) (wrap64 (x128_7 + 1)) t266 t267 t268 t271 a0_0 a1 x280002_5 y289) else (ephemerislaw1_ObservedOfs.l2 k7 t274 3 y289 (y289.length : Int) (wrap64 (x128_7 + 1)) t266 t267 t268 t271 a0_0 a1 x280002_5 y289)) = some r := H
                       have A100 := Aside0.mk A1000
                       clear A1000
                       by_cases c101 : t293 = true
                       ·subst c101
                        have H1 : (ephemerislaw1_ObservedOfs.l2 k7 t274 x11_7 y289 (y289.length : Int) (wrap64 (x128_7 + 1)) t266 t267 t268 t271 a0_0 a1 x280002_5 y289) = some r := by rw [if_pos rfl] at H; exact H
                        clear H
                        have H := H1
                        clear H1
                        have H' := Aside0.mk H
                        clear H
                        have p292 : 0 ≤ (x128_7 : Int) := of_decide_eq_true ka
                        have q292 : x128_7 < (y289.length : Int) := of_decide_eq_true ka
                        obtain ⟨ad292, e292, hx292_0⟩ := Kd.at_int (Kd.R_reads' HO_126.out).2.2 x128_7 p292 q292
                        cases e292
                        replace p292 := eq_true p292
                        replace q292 := eq_true q292
                        go_wp2_with (first | ((with_reducible refine gate_callee (f := 30) rfl ?_); refine goesL_ (some 133) rfl rfl Try.func30 kx rfl #[.int .i64 (rd y289 x128_7)] rfl aa ?_; (with_reducible refine (ephemerisref1_Day.calls (rd y289 x128_7) true _ A100.out).mono ?_); rintro e w' ⟨rfl, ⟨nd, rfl⟩⟩; refine ⟨_, rfl, ?_⟩))
                        go_roundg k7
                        case measure => have := HJ5.out; have := HJ28.out; have := HJ30.out; have := HJ34.out; have := HK5.out; have := HJ59.out; have := HK7.out; omega
                        case rel => exact ⟨(x11_7), (wrap64 (x128_7 + 1)), rs, rs, H', ⟨by have := HJ5.out; have := HJ28.out; have := HJ30.out; have := HJ34.out; have := HK5.out; have := HJ59.out; have := HK7.out; omega⟩, ⟨by (with_reducible repeat (first | apply Kd.R_alloc | apply Kd.R_drewN | apply Kd.R_drew)); exact HO_126.out⟩, ⟨by (with_reducible repeat (first | apply Kd.R_alloc | apply Kd.R_drewN | apply Kd.R_drew)); exact HO_264002.out⟩, ⟨by (with_reducible repeat (first | apply Kd.R_alloc | apply Kd.R_drewN | apply Kd.R_drew)); exact HO_264003.out⟩, ⟨by (with_reducible repeat (first | apply Kd.R_alloc | apply Kd.R_drewN | apply Kd.R_drew)); exact HO_276002.out⟩, ⟨by (with_reducible repeat (first | apply Kd.R_alloc | apply Kd.R_drewN | apply Kd.R_drew)); exact HO_276003.out⟩, ⟨by (with_reducible repeat (first | apply Kd.R_alloc | apply Kd.R_drewN | apply Kd.R_drew)); exact HO_280002.out⟩, ⟨by (with_reducible repeat (first | apply Kd.R_alloc | apply Kd.R_drewN | apply Kd.R_drew)); exact HO_280003.out⟩, ⟨bk BK238⟩, ⟨bk BK263⟩, ⟨bk BK275⟩, ⟨bk BK279⟩, ⟨be⟩⟩
                       ·replace c101 := Bool.eq_false_iff.mpr c101
                        subst c101
                        have H1 : (ephemerislaw1_ObservedOfs.l2 k7 t274 3 y289 (y289.length : Int) (wrap64 (x128_7 + 1)) t266 t267 t268 t271 a0_0 a1 x280002_5 y289) = some r := by rw [if_neg (show ¬ (false = true) by decide)] at H; exact H
                        clear H
                        have H := H1
                        clear H1
                        have H' := Aside0.mk H
                        clear H
                        have p292 : 0 ≤ (x128_7 : Int) := of_decide_eq_true ka
                        have q292 : x128_7 < (y289.length : Int) := of_decide_eq_true ka
                        obtain ⟨ad292, e292, hx292_0⟩ := Kd.at_int (Kd.R_reads' HO_126.out).2.2 x128_7 p292 q292
                        cases e292
                        replace p292 := eq_true p292
                        replace q292 := eq_true q292
                        go_wp2_with (first | ((with_reducible refine gate_callee (f := 30) rfl ?_); refine goesL_ (some 133) rfl rfl Try.func30 kx rfl #[.int .i64 (rd y289 x128_7)] rfl aa ?_; (with_reducible refine (ephemerisref1_Day.calls (rd y289 x128_7) false _ A100.out).mono ?_); rintro e w' ⟨rfl, ⟨nd, rfl⟩⟩; refine ⟨_, rfl, ?_⟩))
                        go_roundg k7
                        case measure => have := HJ5.out; have := HJ28.out; have := HJ30.out; have := HJ34.out; have := HK5.out; have := HJ59.out; have := HK7.out; omega
                        case rel => exact ⟨(3), (wrap64 (x128_7 + 1)), rs, rs, H', ⟨by have := HJ5.out; have := HJ28.out; have := HJ30.out; have := HJ34.out; have := HK5.out; have := HJ59.out; have := HK7.out; omega⟩, ⟨by (with_reducible repeat (first | apply Kd.R_alloc | apply Kd.R_drewN | apply Kd.R_drew)); exact HO_126.out⟩, ⟨by (with_reducible repeat (first | apply Kd.R_alloc | apply Kd.R_drewN | apply Kd.R_drew)); exact HO_264002.out⟩, ⟨by (with_reducible repeat (first | apply Kd.R_alloc | apply Kd.R_drewN | apply Kd.R_drew)); exact HO_264003.out⟩, ⟨by (with_reducible repeat (first | apply Kd.R_alloc | apply Kd.R_drewN | apply Kd.R_drew)); exact HO_276002.out⟩, ⟨by (with_reducible repeat (first | apply Kd.R_alloc | apply Kd.R_drewN | apply Kd.R_drew)); exact HO_276003.out⟩, ⟨by (with_reducible repeat (first | apply Kd.R_alloc | apply Kd.R_drewN | apply Kd.R_drew)); exact HO_280002.out⟩, ⟨by (with_reducible repeat (first | apply Kd.R_alloc | apply Kd.R_drewN | apply Kd.R_drew)); exact HO_280003.out⟩, ⟨bk BK238⟩, ⟨bk BK263⟩, ⟨bk BK275⟩, ⟨bk BK279⟩, ⟨be⟩⟩
                      ·rw [if_neg c99] at H
                       exact absurd H (by simp)
                     ·rw [if_neg c98] at H
                      exact absurd H (by simp)
                    ·rw [if_neg c97] at H
                     have c97b0 : decide (x128_7 < (y289.length : Int)) = false := decide_eq_false c97
                     clear c97
                     have H' := Aside0.mk H
                     clear H
                     go_wp2
                     go_meet
                     case rel => exact ⟨_, (x11_7), (y289), (.slice Ao91 y289.length co91), rs, H', ⟨by have := HJ5.out; have := HJ28.out; have := HJ30.out; have := HJ34.out; have := HK5.out; have := HJ59.out; have := HK7.out; first | omega | exact Nat.le_refl _⟩, ⟨by (with_reducible repeat (first | apply Kd.R_alloc | apply Kd.R_drewN | apply Kd.R_drew)); exact Kd.R_mono HO_264002.out (fun _ hk => ⟨hk.2.1, ⟨hk.2.2.1, ⟨hk.2.2.2.1, ⟨hk.2.2.2.2.1, hk.2.2.2.2.2⟩⟩⟩⟩)⟩, ⟨by (with_reducible repeat (first | apply Kd.R_alloc | apply Kd.R_drewN | apply Kd.R_drew)); exact Kd.R_mono HO_264003.out (fun _ hk => ⟨hk.2.1, ⟨hk.2.2.1, ⟨hk.2.2.2.1, ⟨hk.2.2.2.2.1, hk.2.2.2.2.2⟩⟩⟩⟩)⟩, ⟨by (with_reducible repeat (first | apply Kd.R_alloc | apply Kd.R_drewN | apply Kd.R_drew)); exact Kd.R_mono HO_276002.out (fun _ hk => ⟨hk.2.1, ⟨hk.2.2.1, ⟨hk.2.2.2.1, ⟨hk.2.2.2.2.1, hk.2.2.2.2.2⟩⟩⟩⟩)⟩, ⟨by (with_reducible repeat (first | apply Kd.R_alloc | apply Kd.R_drewN | apply Kd.R_drew)); exact Kd.R_mono HO_276003.out (fun _ hk => ⟨hk.2.1, ⟨hk.2.2.1, ⟨hk.2.2.2.1, ⟨hk.2.2.2.2.1, hk.2.2.2.2.2⟩⟩⟩⟩)⟩, ⟨by (with_reducible repeat (first | apply Kd.R_alloc | apply Kd.R_drewN | apply Kd.R_drew)); exact Kd.R_mono HO_280002.out (fun _ hk => ⟨hk.2.1, ⟨hk.2.2.1, ⟨hk.2.2.2.1, ⟨hk.2.2.2.2.1, hk.2.2.2.2.2⟩⟩⟩⟩)⟩, ⟨by (with_reducible repeat (first | apply Kd.R_alloc | apply Kd.R_drewN | apply Kd.R_drew)); exact HO_280003.out⟩, ⟨bk BK238⟩, ⟨bk BK263⟩, ⟨bk BK275⟩, ⟨bk BK279⟩, ⟨be⟩⟩
                 ·rw [if_neg c87] at H
                  exact absurd H (by simp)
                ·rw [if_neg c85] at H
                 have c85b0 : (x11_34 == 0) = false := beq_eq_false_iff_ne.mpr c85
                 have c85b1 : (x11_34 != 0) = true := bne_iff_ne.mpr c85
                 (first | rw [c85b0] | (simp only [i64_w, i32_w]; rw [c85b0]) | skip)
                 have H' := Aside0.mk H
                 clear H
                 go_wp2
                 go_meet
                 case rel => exact ⟨_, (x11_34), (x280003_5), (u280003), rs, H', ⟨by have := HJ5.out; have := HJ28.out; have := HJ30.out; have := HJ34.out; have := HK5.out; have := HJ59.out; first | omega | exact Nat.le_refl _⟩, ⟨by (with_reducible repeat (first | apply Kd.R_alloc | apply Kd.R_drewN | apply Kd.R_drew)); exact HO_264002.out⟩, ⟨by (with_reducible repeat (first | apply Kd.R_alloc | apply Kd.R_drewN | apply Kd.R_drew)); exact HO_264003.out⟩, ⟨by (with_reducible repeat (first | apply Kd.R_alloc | apply Kd.R_drewN | apply Kd.R_drew)); exact HO_276002.out⟩, ⟨by (with_reducible repeat (first | apply Kd.R_alloc | apply Kd.R_drewN | apply Kd.R_drew)); exact HO_276003.out⟩, ⟨by (with_reducible repeat (first | apply Kd.R_alloc | apply Kd.R_drewN | apply Kd.R_drew)); exact HO_280002.out⟩, ⟨by (with_reducible repeat (first | apply Kd.R_alloc | apply Kd.R_drewN | apply Kd.R_drew)); exact HO_280003.out⟩, ⟨bk BK238⟩, ⟨bk BK263⟩, ⟨bk BK275⟩, ⟨bk BK279⟩, ⟨be⟩⟩
               case rest =>
                clear HC84
                (try clear c1); (try clear c2); (try clear p2); (try clear q2); (try clear hx2); (try clear c3); (try clear c6); (try clear p6); (try clear c7); (try clear c8); (try clear c9); (try clear c10); (try clear p26); (try clear q26); (try clear hx26); (try clear c29); (try clear p29); (try clear q29); (try clear hx29); (try clear c30); (try clear c62); (try clear c64); (try clear p64); (try clear c76); (try clear c76b0); (try clear c78); (try clear c85); (try clear c85b0); (try clear c85b1); (try clear c87); (try clear c93); (try clear c94); (try clear c95); (try clear c97); (try clear c97b0); (try clear c98); (try clear c98b0); (try clear c99); (try clear c99b0); (try clear c101); (try clear hcz96_0); (try clear hcz96_1); (try clear hcz96_2); (try clear hcz96_3); (try clear hfz45_5); (try clear hfz45_6); (try clear hfz45_7); (try clear hfz45_8); (try clear hfz45_9); (try clear hfz54_0); (try clear hfz54_1); (try clear hfz54_10); (try clear hfz54_2); (try clear hfz54_3); (try clear hfz54_4); (try clear hfz54_5); (try clear hfz54_6); (try clear hfz54_7); (try clear hfz54_8); (try clear hfz54_9); (try clear hfz59_0); (try clear hfz59_1); (try clear hfz59_2); (try clear hfz59_3); (try clear hfz68_0); (try clear hfz68_1); (try clear hfz68_10); (try clear hfz68_2); (try clear hfz68_3); (try clear hfz68_4); (try clear hfz68_5); (try clear hfz68_6); (try clear hfz68_7); (try clear hfz68_8); (try clear hfz68_9); (try clear hfz72_0); (try clear hfz72_1); (try clear hfz72_2); (try clear hfz72_3); (try clear hfz75_0); (try clear hfz75_1); (try clear hfz75_2); (try clear hfz75_3); (try clear hfz96_0); (try clear hfz96_1); (try clear hfz96_2); (try clear hfz96_3); (try clear hx264_0); (try clear hx265_0); (try clear hx292_0); (try clear p2); (try clear p26); (try clear p264); (try clear p265); (try clear p292); (try clear p6); (try clear p64); (try clear q2); (try clear q26); (try clear q264); (try clear q265); (try clear q292)
                obtain ⟨kq, x11_83, x280003_83, u280003, rfl, HA, HJ83, HO_264002, HO_264003, HO_276002, HO_276003, HO_280002, HO_280003, BK238, BK263, BK275, BK279, HB⟩ := hcut
                cases kq with
                | zero => exact absurd HA.out (by simp [ephemerislaw1_ObservedOfs.j8])
                | succ kj83 =>
                 have H := HA.out
                 clear HA
                 simp only [ephemerislaw1_ObservedOfs.j8] at H
                 by_cases c102 : x11_83 = 0
                 ·rw [if_pos c102] at H
                  have c102b0 : (x11_83 == 0) = true := beq_iff_eq.mpr c102
                  have c102b1 : (x11_83 != 0) = false := bne_eq_false_iff_eq.mpr c102
                  clear c102
                  by_cases c103 : t274 = 0
                  ·rw [if_pos c103] at H
                   have c103b0 : (t274 == 0) = true := beq_iff_eq.mpr c103
                   have c103b1 : (t274 != 0) = false := bne_eq_false_iff_eq.mpr c103
                   clear c103
                   replace H := Option.bind_eq_some_iff.mp H
                   obtain ⟨t294, A1040, H⟩ := H
                   replace H : (some t294) = some r := H
                   have A104 := Aside0.mk A1040
                   clear A1040
                   obtain rfl := Option.some.inj H
                   have hnb105 := NB275_238.out
                   have hnc105 := NB238_275.out
                   have hnb106 := NB275_263.out
                   have hnc106 := NB263_275.out
                   have hnb107 := NB275_279.out
                   have hnc107 := NB279_275.out
                   obtain ⟨hcz108_0, hcz108_1, hcz108_2, hcz108_3, hfz108_0, hfz108_1, hfz108_2, hfz108_3⟩ := bc4 BK275
                   have hnb109 := NB279_238.out
                   have hnc109 := NB238_279.out
                   have hnb110 := NB279_263.out
                   have hnc110 := NB263_279.out
                   obtain ⟨hcz111_0, hcz111_1, hcz111_2, hcz111_3, hfz111_0, hfz111_1, hfz111_2, hfz111_3⟩ := bc4 BK279
                   obtain ⟨Ao112, co112, eo112⟩ := Kd.R_slice HO_280002.out
                   subst eo112
                   obtain ⟨Ao113, co113, eo113⟩ := Kd.R_slice HO_280003.out
                   subst eo113
                   go_wp2_with (first | (go_at_call 13; (with_reducible refine (ephemerisref1_SameTable.calls kj83 t266 t267 _ _ t268 _ _ t271 a0_0 a1 _ _ x280002_5 _ _ x280003_83 t294 _ ?side1 ?side2 ?side3 ?side4 ?side5 ?side6 ?side7 ?side8 A104.out).mono ?_); (case side1 => repeat (first | exact (Kd.R_reads' HO_276002.out).2.2 | (with_reducible refine Kd.C_alloc ?_ _) | (with_reducible refine Kd.C_drewN ?_ _) | (with_reducible refine Kd.C_drew ?_))); (case side2 => exact (Kd.R_reads' HO_276002.out).2.1); (case side3 => repeat (first | exact (Kd.R_reads' HO_276003.out).2.2 | (with_reducible refine Kd.C_alloc ?_ _) | (with_reducible refine Kd.C_drewN ?_ _) | (with_reducible refine Kd.C_drew ?_))); (case side4 => exact (Kd.R_reads' HO_276003.out).2.1); (case side5 => repeat (first | exact (Kd.R_reads' HO_280002.out).2.2 | (with_reducible refine Kd.C_alloc ?_ _) | (with_reducible refine Kd.C_drewN ?_ _) | (with_reducible refine Kd.C_drew ?_))); (case side6 => exact (Kd.R_reads' HO_280002.out).2.1); (case side7 => repeat (first | exact (Kd.R_reads' HO_280003.out).2.2 | (with_reducible refine Kd.C_alloc ?_ _) | (with_reducible refine Kd.C_drewN ?_ _) | (with_reducible refine Kd.C_drew ?_))); (case side8 => exact (Kd.R_reads' HO_280003.out).2.1); rintro e w114 ⟨rfl, hb⟩; have n0_ := Aside0.mk (Kd.R_below (by (with_reducible repeat (first | apply Kd.R_alloc | apply Kd.R_drewN | apply Kd.R_drew)); exact HO_264002.out) hb); have n1_ := Aside0.mk (Kd.R_below (by (with_reducible repeat (first | apply Kd.R_alloc | apply Kd.R_drewN | apply Kd.R_drew)); exact HO_264003.out) hb); have n2_ := Aside0.mk (Kd.R_below (by (with_reducible repeat (first | apply Kd.R_alloc | apply Kd.R_drewN | apply Kd.R_drew)); exact HO_276002.out) hb); have n3_ := Aside0.mk (Kd.R_below (by (with_reducible repeat (first | apply Kd.R_alloc | apply Kd.R_drewN | apply Kd.R_drew)); exact HO_276003.out) hb); have n4_ := Aside0.mk (Kd.R_below (by (with_reducible repeat (first | apply Kd.R_alloc | apply Kd.R_drewN | apply Kd.R_drew)); exact HO_280002.out) hb); have n5_ := Aside0.mk (Kd.R_below (by (with_reducible repeat (first | apply Kd.R_alloc | apply Kd.R_drewN | apply Kd.R_drew)); exact HO_280003.out) hb); have n6_ := bb BK238 hb; have n7_ := bb BK263 hb; have n8_ := bb BK275 hb; have n9_ := bb BK279 hb; have n10_ := Aside0.mk (below_step be hb); clear HO_264002; clear HO_264003; clear HO_276002; clear HO_276003; clear HO_280002; clear HO_280003; clear BK238; clear BK263; clear BK275; clear BK279; clear HB; have HO_264002 := n0_; have HO_264003 := n1_; have HO_276002 := n2_; have HO_276003 := n3_; have HO_280002 := n4_; have HO_280003 := n5_; have BK238 := n6_; have BK263 := n7_; have BK275 := n8_; have BK279 := n9_; have HB := n10_; clear n0_ n1_ n2_ n3_ n4_ n5_ n6_ n7_ n8_ n9_ n10_; (try clear hb); (try clear hb2); (try clear hk); (try clear hi)))
                   go_ret
                   exact ⟨by first | rfl | (simp [errW_none, errW_some] <;> rfl) | (simp [*, errW_none, errW_some] <;> rfl), be⟩
                  ·rw [if_neg c103] at H
                   have c103b0 : (t274 == 0) = false := beq_eq_false_iff_ne.mpr c103
                   have c103b1 : (t274 != 0) = true := bne_iff_ne.mpr c103
                   obtain rfl := Option.some.inj H
                   go_wp2
                   go_ret
                   exact ⟨by first | rfl | (simp [errW_none, errW_some] <;> rfl) | (simp [*, errW_none, errW_some] <;> rfl), be⟩
                 ·rw [if_neg c102] at H
                  have c102b0 : (x11_83 == 0) = false := beq_eq_false_iff_ne.mpr c102
                  have c102b1 : (x11_83 != 0) = true := bne_iff_ne.mpr c102
                  replace H := Option.bind_eq_some_iff.mp H
                  obtain ⟨t295, A1150, H⟩ := H
                  replace H : (if t295 = true then (some (t274 == x11_83)) else (some false)) = some r := H
                  have A115 := Aside0.mk A1150
                  clear A1150
                  by_cases c116 : t295 = true
                  ·subst c116
                   have H1 : (some (t274 == x11_83)) = some r := by rw [if_pos rfl] at H; exact H
                   clear H
                   have H := H1
                   clear H1
                   obtain rfl := Option.some.inj H
                   have hnb117 := NB275_238.out
                   have hnc117 := NB238_275.out
                   have hnb118 := NB275_263.out
                   have hnc118 := NB263_275.out
                   have hnb119 := NB275_279.out
                   have hnc119 := NB279_275.out
                   obtain ⟨hcz120_0, hcz120_1, hcz120_2, hcz120_3, hfz120_0, hfz120_1, hfz120_2, hfz120_3⟩ := bc4 BK275
                   go_wp2_with (first | ((with_reducible refine gate_callee (f := 13) rfl ?_); refine goesL_ (some 140) rfl rfl Try.func13 kx rfl #[.agg #[.string t266, .int .i64 t267, .slice Ao43 t268.length co43, .slice Ao44 t271.length co44], .agg #[.string (⟨#[]⟩ : ByteArray), .int .i64 0, .slice none 0 0, .slice none 0 0]] rfl aa ?_; (refine (ephemerisref1_SameTable.calls kj83 t266 t267 _ _ t268 _ _ t271 (⟨#[]⟩ : ByteArray) 0 _ _ ([] : List Int) _ _ ([] : List Int) true _ ?side1 ?side2 ?side3 ?side4 ?side5 ?side6 ?side7 ?side8 A115.out).mono ?_); (case side1 => repeat (first | exact (Kd.R_reads' HO_276002.out).2.2 | (with_reducible refine Kd.C_alloc ?_ _) | (with_reducible refine Kd.C_drewN ?_ _) | (with_reducible refine Kd.C_drew ?_))); (case side2 => exact (Kd.R_reads' HO_276002.out).2.1); (case side3 => repeat (first | exact (Kd.R_reads' HO_276003.out).2.2 | (with_reducible refine Kd.C_alloc ?_ _) | (with_reducible refine Kd.C_drewN ?_ _) | (with_reducible refine Kd.C_drew ?_))); (case side4 => exact (Kd.R_reads' HO_276003.out).2.1); (case side5 => exact Kd.C_nil _ _); (case side6 => exact Nat.le_refl _); (case side7 => exact Kd.C_nil _ _); (case side8 => exact Nat.le_refl _); rintro e w121 ⟨rfl, hb⟩; refine ⟨_, rfl, ?_⟩; have n0_ := Aside0.mk (Kd.R_below (by (with_reducible repeat (first | apply Kd.R_alloc | apply Kd.R_drewN | apply Kd.R_drew)); exact HO_264002.out) hb); have n1_ := Aside0.mk (Kd.R_below (by (with_reducible repeat (first | apply Kd.R_alloc | apply Kd.R_drewN | apply Kd.R_drew)); exact HO_264003.out) hb); have n2_ := Aside0.mk (Kd.R_below (by (with_reducible repeat (first | apply Kd.R_alloc | apply Kd.R_drewN | apply Kd.R_drew)); exact HO_276002.out) hb); have n3_ := Aside0.mk (Kd.R_below (by (with_reducible repeat (first | apply Kd.R_alloc | apply Kd.R_drewN | apply Kd.R_drew)); exact HO_276003.out) hb); have n4_ := Aside0.mk (Kd.R_below (by (with_reducible repeat (first | apply Kd.R_alloc | apply Kd.R_drewN | apply Kd.R_drew)); exact HO_280002.out) hb); have n5_ := Aside0.mk (Kd.R_below (by (with_reducible repeat (first | apply Kd.R_alloc | apply Kd.R_drewN | apply Kd.R_drew)); exact HO_280003.out) hb); have n6_ := bb BK238 hb; have n7_ := bb BK263 hb; have n8_ := bb BK275 hb; have n9_ := bb BK279 hb; have n10_ := Aside0.mk (below_step be hb); clear HO_264002; clear HO_264003; clear HO_276002; clear HO_276003; clear HO_280002; clear HO_280003; clear BK238; clear BK263; clear BK275; clear BK279; clear HB; have HO_264002 := n0_; have HO_264003 := n1_; have HO_276002 := n2_; have HO_276003 := n3_; have HO_280002 := n4_; have HO_280003 := n5_; have BK238 := n6_; have BK263 := n7_; have BK275 := n8_; have BK279 := n9_; have HB := n10_; clear n0_ n1_ n2_ n3_ n4_ n5_ n6_ n7_ n8_ n9_ n10_; (try clear hb); (try clear hb2); (try clear hk); (try clear hi)))
                   go_ret
                   exact ⟨by first | rfl | (simp [errW_none, errW_some] <;> rfl) | (simp [*, errW_none, errW_some] <;> rfl), be⟩
                  ·replace c116 := Bool.eq_false_iff.mpr c116
                   subst c116
                   have H1 : (some false) = some r := by rw [if_neg (show ¬ (false = true) by decide)] at H; exact H
                   clear H
                   have H := H1
                   clear H1
                   obtain rfl := Option.some.inj H
                   have hnb122 := NB275_238.out
                   have hnc122 := NB238_275.out
                   have hnb123 := NB275_263.out
                   have hnc123 := NB263_275.out
                   have hnb124 := NB275_279.out
                   have hnc124 := NB279_275.out
                   obtain ⟨hcz125_0, hcz125_1, hcz125_2, hcz125_3, hfz125_0, hfz125_1, hfz125_2, hfz125_3⟩ := bc4 BK275
                   go_wp2_with (first | ((with_reducible refine gate_callee (f := 13) rfl ?_); refine goesL_ (some 140) rfl rfl Try.func13 kx rfl #[.agg #[.string t266, .int .i64 t267, .slice Ao43 t268.length co43, .slice Ao44 t271.length co44], .agg #[.string (⟨#[]⟩ : ByteArray), .int .i64 0, .slice none 0 0, .slice none 0 0]] rfl aa ?_; (refine (ephemerisref1_SameTable.calls kj83 t266 t267 _ _ t268 _ _ t271 (⟨#[]⟩ : ByteArray) 0 _ _ ([] : List Int) _ _ ([] : List Int) false _ ?side1 ?side2 ?side3 ?side4 ?side5 ?side6 ?side7 ?side8 A115.out).mono ?_); (case side1 => repeat (first | exact (Kd.R_reads' HO_276002.out).2.2 | (with_reducible refine Kd.C_alloc ?_ _) | (with_reducible refine Kd.C_drewN ?_ _) | (with_reducible refine Kd.C_drew ?_))); (case side2 => exact (Kd.R_reads' HO_276002.out).2.1); (case side3 => repeat (first | exact (Kd.R_reads' HO_276003.out).2.2 | (with_reducible refine Kd.C_alloc ?_ _) | (with_reducible refine Kd.C_drewN ?_ _) | (with_reducible refine Kd.C_drew ?_))); (case side4 => exact (Kd.R_reads' HO_276003.out).2.1); (case side5 => exact Kd.C_nil _ _); (case side6 => exact Nat.le_refl _); (case side7 => exact Kd.C_nil _ _); (case side8 => exact Nat.le_refl _); rintro e w126 ⟨rfl, hb⟩; refine ⟨_, rfl, ?_⟩; have n0_ := Aside0.mk (Kd.R_below (by (with_reducible repeat (first | apply Kd.R_alloc | apply Kd.R_drewN | apply Kd.R_drew)); exact HO_264002.out) hb); have n1_ := Aside0.mk (Kd.R_below (by (with_reducible repeat (first | apply Kd.R_alloc | apply Kd.R_drewN | apply Kd.R_drew)); exact HO_264003.out) hb); have n2_ := Aside0.mk (Kd.R_below (by (with_reducible repeat (first | apply Kd.R_alloc | apply Kd.R_drewN | apply Kd.R_drew)); exact HO_276002.out) hb); have n3_ := Aside0.mk (Kd.R_below (by (with_reducible repeat (first | apply Kd.R_alloc | apply Kd.R_drewN | apply Kd.R_drew)); exact HO_276003.out) hb); have n4_ := Aside0.mk (Kd.R_below (by (with_reducible repeat (first | apply Kd.R_alloc | apply Kd.R_drewN | apply Kd.R_drew)); exact HO_280002.out) hb); have n5_ := Aside0.mk (Kd.R_below (by (with_reducible repeat (first | apply Kd.R_alloc | apply Kd.R_drewN | apply Kd.R_drew)); exact HO_280003.out) hb); have n6_ := bb BK238 hb; have n7_ := bb BK263 hb; have n8_ := bb BK275 hb; have n9_ := bb BK279 hb; have n10_ := Aside0.mk (below_step be hb); clear HO_264002; clear HO_264003; clear HO_276002; clear HO_276003; clear HO_280002; clear HO_280003; clear BK238; clear BK263; clear BK275; clear BK279; clear HB; have HO_264002 := n0_; have HO_264003 := n1_; have HO_276002 := n2_; have HO_276003 := n3_; have HO_280002 := n4_; have HO_280003 := n5_; have BK238 := n6_; have BK263 := n7_; have BK275 := n8_; have BK279 := n9_; have HB := n10_; clear n0_ n1_ n2_ n3_ n4_ n5_ n6_ n7_ n8_ n9_ n10_; (try clear hb); (try clear hb2); (try clear hk); (try clear hi)))
                   go_ret
                   exact ⟨by first | rfl | (simp [errW_none, errW_some] <;> rfl) | (simp [*, errW_none, errW_some] <;> rfl), be⟩

end Go.Proofs.Ytlfammlboncmeaa.PObservedOfs
