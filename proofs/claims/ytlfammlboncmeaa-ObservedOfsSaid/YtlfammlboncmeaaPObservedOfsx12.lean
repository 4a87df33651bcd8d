/- The walks of the functions of this part, laid closer by a program of mine. -/
-- The walks of the law's functions, told by a program.
import Derived.Test.YtlfammlboncmeaaY
import Derived.Test.YtlfammlboncmeaaPObservedOfsx0
import Derived.Test.YtlfammlboncmeaaPObservedOfsx9
import Derived.Test.YtlfammlboncmeaaPObservedOfsx11
namespace Go.Proofs.Ytlfammlboncmeaa.PObservedOfs
open Go.RowKit Go.Proofs.YtlfammlboncmeaaW.PrintWords Go.Proofs.YtlfammlboncmeaaW.PrintLast Go.Proofs.YtlfammlboncmeaaW.PrintMore Go.Proofs.Ytlfammlboncmeaa.Y
attribute [local go_sem] max2_int min2_int max_two min_two max_three min_three max_four min_four   -- for this text's walks alone
set_option linter.unusedVariables false
set_option linter.unusedSimpArgs false

/-! ### ephemerisref1_MoonBegin: function 29 -/
mutual
def ephemerisref1_MoonBegin.l0 : Nat → Int → Int → Int → Int → ByteArray → Int → Int → Int → Int → Int → Int → Int → Int → List Int → List Int → Option (Int)
 | 0, _, _, _, _, _, _, _, _, _, _, _, _, _, _, _ => none
 | k + 1, x1, x2, x7, x8, x232000, x232001, x232002, x232003, x232004, x232005, x232006, x232007, x232008, x232009, x232010 => if x8 < x1 then ((ephemerisref1_MoonMonths.f k x232000 x232001 x232002 x232003 x232004 x232005 x232006 x232007 x232008 x232009 x232010 x8).bind fun t232 => (ephemerisref1_MoonBegin.l0 k x1 x2 (wrap64 (x7 + t232)) (wrap64 (x8 + 1)) x232000 x232001 x232002 x232003 x232004 x232005 x232006 x232007 x232008 x232009 x232010)) else (ephemerisref1_MoonBegin.l1 k x1 x2 x7 0 x232000 x232001 x232002 x232003 x232004 x232005 x232006 x232007 x232008 x232009 x232010)
def ephemerisref1_MoonBegin.l1 : Nat → Int → Int → Int → Int → ByteArray → Int → Int → Int → Int → Int → Int → Int → Int → List Int → List Int → Option (Int)
 | 0, _, _, _, _, _, _, _, _, _, _, _, _, _, _, _ => none
 | k + 1, x1, x2, x7, x9, x232000, x232001, x232002, x232003, x232004, x232005, x232006, x232007, x232008, x232009, x232010 => if x9 ≥ x1 then ((ephemerisref1_MoonMonths.f k x232000 x232001 x232002 x232003 x232004 x232005 x232006 x232007 x232008 x232009 x232010 x9).bind fun t233 => (ephemerisref1_MoonBegin.l1 k x1 x2 (wrap64 (x7 - t233)) (wrap64 (x9 - 1)) x232000 x232001 x232002 x232003 x232004 x232005 x232006 x232007 x232008 x232009 x232010)) else ((ephemerisref1_Parts.f k x232000 x232001 x232002 x232003 x232004 x232005 x232006 x232007 x232008 x232009 x232010).bind fun t234 => (if x232003 = 0 then (none) else (if x232005 = 0 then (none) else ((ephemerisref1_Floor.f k (wrap64 ((wrap64 ((wrap64 (Int.tdiv t234 x232003)) * x232002)) + (wrap64 (x7 * (wrap64 ((wrap64 (Int.tdiv t234 x232005)) * x232004)))))) t234).bind fun t235 => (if x232007 = 0 then (none) else (if (wrap64 ((wrap64 ((wrap64 ((wrap64 (Int.tdiv t234 x232003)) * x232002)) + (wrap64 (x7 * (wrap64 ((wrap64 (Int.tdiv t234 x232005)) * x232004)))))) - (wrap64 (t235 * t234)))) ≥ (wrap64 ((wrap64 (Int.tdiv t234 x232007)) * x232006)) then (ephemerisref1_MoonBegin.j2 k x2 (wrap64 (t235 + 1)) x232000 x232001 x232002 x232003 x232004 x232005 x232006 x232007 x232008 x232009 x232010) else (ephemerisref1_MoonBegin.j2 k x2 t235 x232000 x232001 x232002 x232003 x232004 x232005 x232006 x232007 x232008 x232009 x232010)))))))
def ephemerisref1_MoonBegin.j2 : Nat → Int → Int → ByteArray → Int → Int → Int → Int → Int → Int → Int → Int → List Int → List Int → Option (Int)
 | 0, _, _, _, _, _, _, _, _, _, _, _, _, _ => none
 | k + 1, x2, x12, x232000, x232001, x232002, x232003, x232004, x232005, x232006, x232007, x232008, x232009, x232010 => if x2 > 1 then (some (wrap64 (x12 + x232001))) else (ephemerisref1_MoonBegin.l2 k (wrap64 (x12 + x232001)) 0 x232000 x232001 x232002 x232003 x232004 x232005 x232006 x232007 x232008 x232009 x232010)
def ephemerisref1_MoonBegin.l2 : Nat → Int → Int → ByteArray → Int → Int → Int → Int → Int → Int → Int → Int → List Int → List Int → Option (Int)
 | 0, _, _, _, _, _, _, _, _, _, _, _, _, _ => none
 | k + 1, x12, x13, x232000, x232001, x232002, x232003, x232004, x232005, x232006, x232007, x232008, x232009, x232010 => if x13 < 7 then (ephemerisref1_MoonBegin.l3 k x12 x13 false x232010 (x232010.length : Int) 0 x232000 x232001 x232002 x232003 x232004 x232005 x232006 x232007 x232008 x232009 x232010) else (some x12)
def ephemerisref1_MoonBegin.l3 : Nat → Int → Int → Bool → List Int → Int → Int → ByteArray → Int → Int → Int → Int → Int → Int → Int → Int → List Int → List Int → Option (Int)
 | 0, _, _, _, _, _, _, _, _, _, _, _, _, _, _, _, _, _ => none
 | k + 1, x12, x13, x14, x94, x95, x96, x232000, x232001, x232002, x232003, x232004, x232005, x232006, x232007, x232008, x232009, x232010 => if x96 < x95 then (if 0 ≤ x96 then (if x96 < (x94.length : Int) then (if x14 = true then (ephemerisref1_MoonBegin.l3 k x12 x13 true x94 x95 (wrap64 (x96 + 1)) x232000 x232001 x232002 x232003 x232004 x232005 x232006 x232007 x232008 x232009 x232010) else ((ephemerisref1_Week.f k x12).bind fun t237 => (ephemerisref1_MoonBegin.l3 k x12 x13 ((rd x94 x96) == t237) x94 x95 (wrap64 (x96 + 1)) x232000 x232001 x232002 x232003 x232004 x232005 x232006 x232007 x232008 x232009 x232010))) else (none)) else (none)) else (if x14 = true then (ephemerisref1_MoonBegin.l2 k (wrap64 (x12 + 1)) (wrap64 (x13 + 1)) x232000 x232001 x232002 x232003 x232004 x232005 x232006 x232007 x232008 x232009 x232010) else (some x12))
end
def ephemerisref1_MoonBegin.f (k : Nat) (a0_0 : ByteArray) (a0_1 : Int) (a0_2 : Int) (a0_3 : Int) (a0_4 : Int) (a0_5 : Int) (a0_6 : Int) (a0_7 : Int) (a0_8 : Int) (l0_9 : List Int) (l0_10 : List Int) (a1 : Int) (a2 : Int) : Option (Int) := ephemerisref1_MoonBegin.l0 k a1 a2 (wrap64 (a2 - 1)) 1 a0_0 a0_1 a0_2 a0_3 a0_4 a0_5 a0_6 a0_7 a0_8 l0_9 l0_10
theorem ephemerisref1_MoonBegin.mono_l : ∀ k, (∀ y0 y1 y2 y3 y4 y5 y6 y7 y8 y9 y10 y11 y12 y13 y14, LeO (ephemerisref1_MoonBegin.l0 k y0 y1 y2 y3 y4 y5 y6 y7 y8 y9 y10 y11 y12 y13 y14) (ephemerisref1_MoonBegin.l0 (k + 1) y0 y1 y2 y3 y4 y5 y6 y7 y8 y9 y10 y11 y12 y13 y14)) ∧ (∀ y0 y1 y2 y3 y4 y5 y6 y7 y8 y9 y10 y11 y12 y13 y14, LeO (ephemerisref1_MoonBegin.l1 k y0 y1 y2 y3 y4 y5 y6 y7 y8 y9 y10 y11 y12 y13 y14) (ephemerisref1_MoonBegin.l1 (k + 1) y0 y1 y2 y3 y4 y5 y6 y7 y8 y9 y10 y11 y12 y13 y14)) ∧ (∀ y0 y1 y2 y3 y4 y5 y6 y7 y8 y9 y10 y11 y12, LeO (ephemerisref1_MoonBegin.j2 k y0 y1 y2 y3 y4 y5 y6 y7 y8 y9 y10 y11 y12) (ephemerisref1_MoonBegin.j2 (k + 1) y0 y1 y2 y3 y4 y5 y6 y7 y8 y9 y10 y11 y12)) ∧ (∀ y0 y1 y2 y3 y4 y5 y6 y7 y8 y9 y10 y11 y12, LeO (ephemerisref1_MoonBegin.l2 k y0 y1 y2 y3 y4 y5 y6 y7 y8 y9 y10 y11 y12) (ephemerisref1_MoonBegin.l2 (k + 1) y0 y1 y2 y3 y4 y5 y6 y7 y8 y9 y10 y11 y12)) ∧ (∀ y0 y1 y2 y3 y4 y5 y6 y7 y8 y9 y10 y11 y12 y13 y14 y15 y16, LeO (ephemerisref1_MoonBegin.l3 k y0 y1 y2 y3 y4 y5 y6 y7 y8 y9 y10 y11 y12 y13 y14 y15 y16) (ephemerisref1_MoonBegin.l3 (k + 1) y0 y1 y2 y3 y4 y5 y6 y7 y8 y9 y10 y11 y12 y13 y14 y15 y16))
 | 0 => ⟨fun _ _ _ _ _ _ _ _ _ _ _ _ _ _ _ r h => by simp [ephemerisref1_MoonBegin.l0] at h, fun _ _ _ _ _ _ _ _ _ _ _ _ _ _ _ r h => by simp [ephemerisref1_MoonBegin.l1] at h, fun _ _ _ _ _ _ _ _ _ _ _ _ _ r h => by simp [ephemerisref1_MoonBegin.j2] at h, fun _ _ _ _ _ _ _ _ _ _ _ _ _ r h => by simp [ephemerisref1_MoonBegin.l2] at h, fun _ _ _ _ _ _ _ _ _ _ _ _ _ _ _ _ _ r h => by simp [ephemerisref1_MoonBegin.l3] at h⟩
 | k + 1 => by
  obtain ⟨ih0, ih1, ih2, ih3, ih4⟩ := ephemerisref1_MoonBegin.mono_l k
  refine ⟨?_, ?_, ?_, ?_, ?_⟩
  ·intro y0 y1 y2 y3 y4 y5 y6 y7 y8 y9 y10 y11 y12 y13 y14
   unfold ephemerisref1_MoonBegin.l0
   repeat' first
   | (with_reducible exact ih0 _ _ _ _ _ _ _ _ _ _ _ _ _ _ _)
   | (with_reducible exact ih1 _ _ _ _ _ _ _ _ _ _ _ _ _ _ _)
   | (with_reducible exact ih2 _ _ _ _ _ _ _ _ _ _ _ _ _)
   | (with_reducible exact ih3 _ _ _ _ _ _ _ _ _ _ _ _ _)
   | (with_reducible exact ih4 _ _ _ _ _ _ _ _ _ _ _ _ _ _ _ _ _)
   | (with_reducible exact ephemerisref1_Floor.mono _ _ _)
   | (with_reducible exact ephemerisref1_MoonMonths.mono _ _ _ _ _ _ _ _ _ _ _ _ _)
   | (with_reducible exact ephemerisref1_Parts.mono _ _ _ _ _ _ _ _ _ _ _ _)
   | (with_reducible exact ephemerisref1_Week.mono _ _)
   | (with_reducible exact LeO.refl _)
   | (with_reducible exact LeO.none _)
   | (with_reducible refine LeO.ite ?_ ?_)
   | (with_reducible refine LeO.bind ?_ (fun _ => ?_))
   | exact ih0 _ _ _ _ _ _ _ _ _ _ _ _ _ _ _
   | exact ih1 _ _ _ _ _ _ _ _ _ _ _ _ _ _ _
   | exact ih2 _ _ _ _ _ _ _ _ _ _ _ _ _
   | exact ih3 _ _ _ _ _ _ _ _ _ _ _ _ _
   | exact ih4 _ _ _ _ _ _ _ _ _ _ _ _ _ _ _ _ _
   | exact ephemerisref1_Floor.mono _ _ _
   | exact ephemerisref1_MoonMonths.mono _ _ _ _ _ _ _ _ _ _ _ _ _
   | exact ephemerisref1_Parts.mono _ _ _ _ _ _ _ _ _ _ _ _
   | exact ephemerisref1_Week.mono _ _
   | exact LeO.none _
   | refine LeO.ite ?_ ?_
   | refine LeO.bind ?_ (fun _ => ?_)
  ·intro y0 y1 y2 y3 y4 y5 y6 y7 y8 y9 y10 y11 y12 y13 y14
   unfold ephemerisref1_MoonBegin.l1
   repeat' first
   | (with_reducible exact ih0 _ _ _ _ _ _ _ _ _ _ _ _ _ _ _)
   | (with_reducible exact ih1 _ _ _ _ _ _ _ _ _ _ _ _ _ _ _)
   | (with_reducible exact ih2 _ _ _ _ _ _ _ _ _ _ _ _ _)
   | (with_reducible exact ih3 _ _ _ _ _ _ _ _ _ _ _ _ _)
   | (with_reducible exact ih4 _ _ _ _ _ _ _ _ _ _ _ _ _ _ _ _ _)
   | (with_reducible exact ephemerisref1_Floor.mono _ _ _)
   | (with_reducible exact ephemerisref1_MoonMonths.mono _ _ _ _ _ _ _ _ _ _ _ _ _)
   | (with_reducible exact ephemerisref1_Parts.mono _ _ _ _ _ _ _ _ _ _ _ _)
   | (with_reducible exact ephemerisref1_Week.mono _ _)
   | (with_reducible exact LeO.refl _)
   | (with_reducible exact LeO.none _)
   | (with_reducible refine LeO.ite ?_ ?_)
   | (with_reducible refine LeO.bind ?_ (fun _ => ?_))
   | exact ih0 _ _ _ _ _ _ _ _ _ _ _ _ _ _ _
   | exact ih1 _ _ _ _ _ _ _ _ _ _ _ _ _ _ _
   | exact ih2 _ _ _ _ _ _ _ _ _ _ _ _ _
   | exact ih3 _ _ _ _ _ _ _ _ _ _ _ _ _
   | exact ih4 _ _ _ _ _ _ _ _ _ _ _ _ _ _ _ _ _
   | exact ephemerisref1_Floor.mono _ _ _
   | exact ephemerisref1_MoonMonths.mono _ _ _ _ _ _ _ _ _ _ _ _ _
   | exact ephemerisref1_Parts.mono _ _ _ _ _ _ _ _ _ _ _ _
   | exact ephemerisref1_Week.mono _ _
   | exact LeO.none _
   | refine LeO.ite ?_ ?_
   | refine LeO.bind ?_ (fun _ => ?_)
  ·intro y0 y1 y2 y3 y4 y5 y6 y7 y8 y9 y10 y11 y12
   unfold ephemerisref1_MoonBegin.j2
   repeat' first
   | (with_reducible exact ih0 _ _ _ _ _ _ _ _ _ _ _ _ _ _ _)
   | (with_reducible exact ih1 _ _ _ _ _ _ _ _ _ _ _ _ _ _ _)
   | (with_reducible exact ih2 _ _ _ _ _ _ _ _ _ _ _ _ _)
   | (with_reducible exact ih3 _ _ _ _ _ _ _ _ _ _ _ _ _)
   | (with_reducible exact ih4 _ _ _ _ _ _ _ _ _ _ _ _ _ _ _ _ _)
   | (with_reducible exact ephemerisref1_Floor.mono _ _ _)
   | (with_reducible exact ephemerisref1_MoonMonths.mono _ _ _ _ _ _ _ _ _ _ _ _ _)
   | (with_reducible exact ephemerisref1_Parts.mono _ _ _ _ _ _ _ _ _ _ _ _)
   | (with_reducible exact ephemerisref1_Week.mono _ _)
   | (with_reducible exact LeO.refl _)
   | (with_reducible exact LeO.none _)
   | (with_reducible refine LeO.ite ?_ ?_)
   | (with_reducible refine LeO.bind ?_ (fun _ => ?_))
   | exact ih0 _ _ _ _ _ _ _ _ _ _ _ _ _ _ _
   | exact ih1 _ _ _ _ _ _ _ _ _ _ _ _ _ _ _
   | exact ih2 _ _ _ _ _ _ _ _ _ _ _ _ _
   | exact ih3 _ _ _ _ _ _ _ _ _ _ _ _ _
   | exact ih4 _ _ _ _ _ _ _ _ _ _ _ _ _ _ _ _ _
   | exact ephemerisref1_Floor.mono _ _ _
   | exact ephemerisref1_MoonMonths.mono _ _ _ _ _ _ _ _ _ _ _ _ _
   | exact ephemerisref1_Parts.mono _ _ _ _ _ _ _ _ _ _ _ _
   | exact ephemerisref1_Week.mono _ _
   | exact LeO.none _
   | refine LeO.ite ?_ ?_
   | refine LeO.bind ?_ (fun _ => ?_)
  ·intro y0 y1 y2 y3 y4 y5 y6 y7 y8 y9 y10 y11 y12
   unfold ephemerisref1_MoonBegin.l2
   repeat' first
   | (with_reducible exact ih0 _ _ _ _ _ _ _ _ _ _ _ _ _ _ _)
   | (with_reducible exact ih1 _ _ _ _ _ _ _ _ _ _ _ _ _ _ _)
   | (with_reducible exact ih2 _ _ _ _ _ _ _ _ _ _ _ _ _)
   | (with_reducible exact ih3 _ _ _ _ _ _ _ _ _ _ _ _ _)
   | (with_reducible exact ih4 _ _ _ _ _ _ _ _ _ _ _ _ _ _ _ _ _)
   | (with_reducible exact ephemerisref1_Floor.mono _ _ _)
   | (with_reducible exact ephemerisref1_MoonMonths.mono _ _ _ _ _ _ _ _ _ _ _ _ _)
   | (with_reducible exact ephemerisref1_Parts.mono _ _ _ _ _ _ _ _ _ _ _ _)
   | (with_reducible exact ephemerisref1_Week.mono _ _)
   | (with_reducible exact LeO.refl _)
   | (with_reducible exact LeO.none _)
   | (with_reducible refine LeO.ite ?_ ?_)
   | (with_reducible refine LeO.bind ?_ (fun _ => ?_))
   | exact ih0 _ _ _ _ _ _ _ _ _ _ _ _ _ _ _
   | exact ih1 _ _ _ _ _ _ _ _ _ _ _ _ _ _ _
   | exact ih2 _ _ _ _ _ _ _ _ _ _ _ _ _
   | exact ih3 _ _ _ _ _ _ _ _ _ _ _ _ _
   | exact ih4 _ _ _ _ _ _ _ _ _ _ _ _ _ _ _ _ _
   | exact ephemerisref1_Floor.mono _ _ _
   | exact ephemerisref1_MoonMonths.mono _ _ _ _ _ _ _ _ _ _ _ _ _
   | exact ephemerisref1_Parts.mono _ _ _ _ _ _ _ _ _ _ _ _
   | exact ephemerisref1_Week.mono _ _
   | exact LeO.none _
   | refine LeO.ite ?_ ?_
   | refine LeO.bind ?_ (fun _ => ?_)
  ·intro y0 y1 y2 y3 y4 y5 y6 y7 y8 y9 y10 y11 y12 y13 y14 y15 y16
   unfold ephemerisref1_MoonBegin.l3
   repeat' first
   | (with_reducible exact ih0 _ _ _ _ _ _ _ _ _ _ _ _ _ _ _)
   | (with_reducible exact ih1 _ _ _ _ _ _ _ _ _ _ _ _ _ _ _)
   | (with_reducible exact ih2 _ _ _ _ _ _ _ _ _ _ _ _ _)
   | (with_reducible exact ih3 _ _ _ _ _ _ _ _ _ _ _ _ _)
   | (with_reducible exact ih4 _ _ _ _ _ _ _ _ _ _ _ _ _ _ _ _ _)
   | (with_reducible exact ephemerisref1_Floor.mono _ _ _)
   | (with_reducible exact ephemerisref1_MoonMonths.mono _ _ _ _ _ _ _ _ _ _ _ _ _)
   | (with_reducible exact ephemerisref1_Parts.mono _ _ _ _ _ _ _ _ _ _ _ _)
   | (with_reducible exact ephemerisref1_Week.mono _ _)
   | (with_reducible exact LeO.refl _)
   | (with_reducible exact LeO.none _)
   | (with_reducible refine LeO.ite ?_ ?_)
   | (with_reducible refine LeO.bind ?_ (fun _ => ?_))
   | exact ih0 _ _ _ _ _ _ _ _ _ _ _ _ _ _ _
   | exact ih1 _ _ _ _ _ _ _ _ _ _ _ _ _ _ _
   | exact ih2 _ _ _ _ _ _ _ _ _ _ _ _ _
   | exact ih3 _ _ _ _ _ _ _ _ _ _ _ _ _
   | exact ih4 _ _ _ _ _ _ _ _ _ _ _ _ _ _ _ _ _
   | exact ephemerisref1_Floor.mono _ _ _
   | exact ephemerisref1_MoonMonths.mono _ _ _ _ _ _ _ _ _ _ _ _ _
   | exact ephemerisref1_Parts.mono _ _ _ _ _ _ _ _ _ _ _ _
   | exact ephemerisref1_Week.mono _ _
   | exact LeO.none _
   | refine LeO.ite ?_ ?_
   | refine LeO.bind ?_ (fun _ => ?_)
theorem ephemerisref1_MoonBegin.mono : ∀ a0 a1 a2 a3 a4 a5 a6 a7 a8 a9 a10 a11 a12 k, LeO (ephemerisref1_MoonBegin.f k a0 a1 a2 a3 a4 a5 a6 a7 a8 a9 a10 a11 a12) (ephemerisref1_MoonBegin.f (k + 1) a0 a1 a2 a3 a4 a5 a6 a7 a8 a9 a10 a11 a12) := by
 intro a0 a1 a2 a3 a4 a5 a6 a7 a8 a9 a10 a11 a12 k
 obtain ⟨ih0, ih1, ih2, ih3, ih4⟩ := ephemerisref1_MoonBegin.mono_l k
 unfold ephemerisref1_MoonBegin.f
 repeat' first
   | (with_reducible exact ih0 _ _ _ _ _ _ _ _ _ _ _ _ _ _ _)
   | (with_reducible exact ih1 _ _ _ _ _ _ _ _ _ _ _ _ _ _ _)
   | (with_reducible exact ih2 _ _ _ _ _ _ _ _ _ _ _ _ _)
   | (with_reducible exact ih3 _ _ _ _ _ _ _ _ _ _ _ _ _)
   | (with_reducible exact ih4 _ _ _ _ _ _ _ _ _ _ _ _ _ _ _ _ _)
   | (with_reducible exact ephemerisref1_Floor.mono _ _ _)
   | (with_reducible exact ephemerisref1_MoonMonths.mono _ _ _ _ _ _ _ _ _ _ _ _ _)
   | (with_reducible exact ephemerisref1_Parts.mono _ _ _ _ _ _ _ _ _ _ _ _)
   | (with_reducible exact ephemerisref1_Week.mono _ _)
   | (with_reducible exact LeO.refl _)
   | (with_reducible exact LeO.none _)
   | (with_reducible refine LeO.ite ?_ ?_)
   | (with_reducible refine LeO.bind ?_ (fun _ => ?_))
   | exact ih0 _ _ _ _ _ _ _ _ _ _ _ _ _ _ _
   | exact ih1 _ _ _ _ _ _ _ _ _ _ _ _ _ _ _
   | exact ih2 _ _ _ _ _ _ _ _ _ _ _ _ _
   | exact ih3 _ _ _ _ _ _ _ _ _ _ _ _ _
   | exact ih4 _ _ _ _ _ _ _ _ _ _ _ _ _ _ _ _ _
   | exact ephemerisref1_Floor.mono _ _ _
   | exact ephemerisref1_MoonMonths.mono _ _ _ _ _ _ _ _ _ _ _ _ _
   | exact ephemerisref1_Parts.mono _ _ _ _ _ _ _ _ _ _ _ _
   | exact ephemerisref1_Week.mono _ _
   | exact LeO.none _
   | refine LeO.ite ?_ ?_
   | refine LeO.bind ?_ (fun _ => ?_)
set_option maxHeartbeats 8000000 in
set_option maxRecDepth 100000 in
theorem ephemerisref1_MoonBegin.calls (k : Nat) (a0_0 : ByteArray) (a0_1 : Int) (a0_2 : Int) (a0_3 : Int) (a0_4 : Int) (a0_5 : Int) (a0_6 : Int) (a0_7 : Int) (a0_8 : Int) (A0_9 : Option Addr) (c0_9 : Nat) (l0_9 : List Int) (A0_10 : Option Addr) (c0_10 : Nat) (l0_10 : List Int) (a1 : Int) (a2 : Int) (r : Int) (w : World) (hr0_9 : Kd.C (Kd.int .i64) w A0_9 l0_9.length l0_9) (hc0_9 : l0_9.length ≤ c0_9) (hr0_10 : Kd.C (Kd.int .i64) w A0_10 l0_10.length l0_10) (hc0_10 : l0_10.length ≤ c0_10) (h : ephemerisref1_MoonBegin.f k a0_0 a0_1 a0_2 a0_3 a0_4 a0_5 a0_6 a0_7 a0_8 l0_9 l0_10 a1 a2 = some r) :
  Calls Try.prog 29 #[.agg #[.string a0_0, .int .i64 a0_1, .int .i64 a0_2, .int .i64 a0_3, .int .i64 a0_4, .int .i64 a0_5, .int .i64 a0_6, .int .i64 a0_7, .int .i64 a0_8, .slice A0_9 l0_9.length c0_9, .slice A0_10 l0_10.length c0_10], .int .i64 a1, .int .i64 a2] w fun e w' => e = .returned (.int .i64 r) ∧ Below w.heap.size w w' := by
 have hu60 := Try.underlying60
 have HR0_9 := Aside0.mk hr0_9
 have HC0_9 := Aside0.mk hc0_9
 clear hr0_9 hc0_9
 have HR0_10 := Aside0.mk hr0_10
 have HC0_10 := Aside0.mk hc0_10
 clear hr0_10 hc0_10
 have HB := Aside0.mk (Below.refl w.heap.size w)
 have H : (ephemerisref1_MoonBegin.l0 k a1 a2 (wrap64 (a2 - 1)) 1 a0_0 a0_1 a0_2 a0_3 a0_4 a0_5 a0_6 a0_7 a0_8 l0_9 l0_10) = some r := h
 clear h
 have H' := Aside0.mk H
 clear H
 go_enter Try.func29, Try.ntmps29
 go_wp2_with (first | ((with_reducible refine gate_dst (N := 3) rfl ?_); refine box_event ?hg (N := 3) ?hd (cs := #[.string a0_0, .int .i64 a0_1, .int .i64 a0_2, .int .i64 a0_3, .int .i64 a0_4, .int .i64 a0_5, .int .i64 a0_6, .int .i64 a0_7, .int .i64 a0_8, .slice A0_9 l0_9.length c0_9, .slice A0_10 l0_10.length c0_10]) (t := 60) ?hr ?_; (case hd => rfl); (case hg => rfl); (case hr => first | (go_simp; done) | (go_simp; rfl)); intro gb231 hg w4 hbox hb; have n0_ := Aside0.mk (below_step be hb); have n1_ := Aside0.mk (hbox); have n2_ := gs hg HB; have n3_ := n2_; clear HB; have HB := n0_; have BK231 := n1_; have GW231 := n2_; have GE231 := n3_; clear n0_ n1_ n2_ n3_; clear hb hbox hg))
 repeat (go_quiet (first | ((with_reducible refine gate_dst (N := 3) rfl ?_); refine box_event ?hg (N := 3) ?hd (cs := #[.string a0_0, .int .i64 a0_1, .int .i64 a0_2, .int .i64 a0_3, .int .i64 a0_4, .int .i64 a0_5, .int .i64 a0_6, .int .i64 a0_7, .int .i64 a0_8, .slice A0_9 l0_9.length c0_9, .slice A0_10 l0_10.length c0_10]) (t := 60) ?hr ?_; (case hd => rfl); (case hg => rfl); (case hr => first | (go_simp; done) | (go_simp; rfl)); intro gb231 hg w4 hbox hb; have n0_ := Aside0.mk (below_step be hb); have n1_ := Aside0.mk (hbox); have n2_ := gs hg HB; have n3_ := n2_; clear HB; have HB := n0_; have BK231 := n1_; have GW231 := n2_; have GE231 := n3_; clear n0_ n1_ n2_ n3_; clear hb hbox hg)); try go_wp2_with (first | ((with_reducible refine gate_dst (N := 3) rfl ?_); refine box_event ?hg (N := 3) ?hd (cs := #[.string a0_0, .int .i64 a0_1, .int .i64 a0_2, .int .i64 a0_3, .int .i64 a0_4, .int .i64 a0_5, .int .i64 a0_6, .int .i64 a0_7, .int .i64 a0_8, .slice A0_9 l0_9.length c0_9, .slice A0_10 l0_10.length c0_10]) (t := 60) ?hr ?_; (case hd => rfl); (case hg => rfl); (case hr => first | (go_simp; done) | (go_simp; rfl)); intro gb231 hg w4 hbox hb; have n0_ := Aside0.mk (below_step be hb); have n1_ := Aside0.mk (hbox); have n2_ := gs hg HB; have n3_ := n2_; clear HB; have HB := n0_; have BK231 := n1_; have GW231 := n2_; have GE231 := n3_; clear n0_ n1_ n2_ n3_; clear hb hbox hg)))
 go_loopg [7, 8] k (fun kq v7 v8 w' => ∃ (x7_1 : Int) (x8_1 : Int), v7 = .int .i64 x7_1 ∧ v8 = .int .i64 x8_1 ∧ Aside0 (ephemerisref1_MoonBegin.l0 kq a1 a2 x7_1 x8_1 a0_0 a0_1 a0_2 a0_3 a0_4 a0_5 a0_6 a0_7 a0_8 l0_9 l0_10 = some r) ∧ Aside0 (kq ≤ k) ∧ Aside0 (w'.heap[gb231]? = some (.cells #[.string a0_0, .int .i64 a0_1, .int .i64 a0_2, .int .i64 a0_3, .int .i64 a0_4, .int .i64 a0_5, .int .i64 a0_6, .int .i64 a0_7, .int .i64 a0_8, (.slice A0_9 l0_9.length c0_9), (.slice A0_10 l0_10.length c0_10)] 60 (0, 0))) ∧ Aside0 (Below w.heap.size w w'))
 case atStart => exact ⟨(wrap64 (a2 - 1)), (1), rs, rs, H', ⟨Nat.le_refl _⟩, ⟨bk BK231⟩, ⟨be⟩⟩
 case round =>
  clear H'
  (try clear c2); (try clear p2)
  obtain ⟨x7_1, x8_1, rfl, rfl, HA, HK1, BK231, HB⟩ := hrel
  cases gk with
  | zero => exact absurd HA.out (by simp [ephemerisref1_MoonBegin.l0])
  | succ k1 =>
   have H := HA.out
   clear HA
   simp only [ephemerisref1_MoonBegin.l0] at H
   by_cases c5 : x8_1 < a1
   ·rw [if_pos c5] at H
    have c5b0 : decide (x8_1 < a1) = true := decide_eq_true c5
    clear c5
    replace H := Option.bind_eq_some_iff.mp H
    obtain ⟨t232, A60, H⟩ := H
    replace H : (ephemerisref1_MoonBegin.l0 k1 a1 a2 (wrap64 (x7_1 + t232)) (wrap64 (x8_1 + 1)) a0_0 a0_1 a0_2 a0_3 a0_4 a0_5 a0_6 a0_7 a0_8 l0_9 l0_10) = some r := H
    have A6 := Aside0.mk A60
    clear A60
    have H' := Aside0.mk H
    clear H
    obtain ⟨hcz7_0, hcz7_1, hcz7_2, hcz7_3, hcz7_4, hcz7_5, hcz7_6, hcz7_7, hcz7_8, hcz7_9, hcz7_10, hfz7_0, hfz7_1, hfz7_2, hfz7_3, hfz7_4, hfz7_5, hfz7_6, hfz7_7, hfz7_8, hfz7_9, hfz7_10⟩ := bc11 BK231
    go_wp2_with (first | (go_at_call 28; (with_reducible refine (ephemerisref1_MoonMonths.calls k1 a0_0 a0_1 a0_2 a0_3 a0_4 a0_5 a0_6 a0_7 a0_8 _ _ l0_9 _ _ l0_10 x8_1 t232 _ ?side1 ?side2 ?side3 ?side4 A6.out).mono ?_); (case side1 => exact kc (Kd.C_below HR0_9.out HB.out)); (case side2 => exact HC0_9.out); (case side3 => exact kc (Kd.C_below HR0_10.out HB.out)); (case side4 => exact HC0_10.out); rintro e w8 ⟨rfl, hb⟩; have n0_ := bb BK231 hb; have n1_ := Aside0.mk (below_step be hb); clear BK231; clear HB; have BK231 := n0_; have HB := n1_; clear n0_ n1_; (try clear hb); (try clear hb2); (try clear hk); (try clear hi)))
    repeat (go_quiet (first | (go_at_call 28; (with_reducible refine (ephemerisref1_MoonMonths.calls k1 a0_0 a0_1 a0_2 a0_3 a0_4 a0_5 a0_6 a0_7 a0_8 _ _ l0_9 _ _ l0_10 x8_1 t232 _ ?side1 ?side2 ?side3 ?side4 A6.out).mono ?_); (case side1 => exact kc (Kd.C_below HR0_9.out HB.out)); (case side2 => exact HC0_9.out); (case side3 => exact kc (Kd.C_below HR0_10.out HB.out)); (case side4 => exact HC0_10.out); rintro e w8 ⟨rfl, hb⟩; have n0_ := bb BK231 hb; have n1_ := Aside0.mk (below_step be hb); clear BK231; clear HB; have BK231 := n0_; have HB := n1_; clear n0_ n1_; (try clear hb); (try clear hb2); (try clear hk); (try clear hi))); try go_wp2_with (first | (go_at_call 28; (with_reducible refine (ephemerisref1_MoonMonths.calls k1 a0_0 a0_1 a0_2 a0_3 a0_4 a0_5 a0_6 a0_7 a0_8 _ _ l0_9 _ _ l0_10 x8_1 t232 _ ?side1 ?side2 ?side3 ?side4 A6.out).mono ?_); (case side1 => exact kc (Kd.C_below HR0_9.out HB.out)); (case side2 => exact HC0_9.out); (case side3 => exact kc (Kd.C_below HR0_10.out HB.out)); (case side4 => exact HC0_10.out); rintro e w8 ⟨rfl, hb⟩; have n0_ := bb BK231 hb; have n1_ := Aside0.mk (below_step be hb); clear BK231; clear HB; have BK231 := n0_; have HB := n1_; clear n0_ n1_; (try clear hb); (try clear hb2); (try clear hk); (try clear hi))))
    go_roundg k1
    case measure => have := HK1.out; omega
    case rel => exact ⟨(wrap64 (x7_1 + t232)), (wrap64 (x8_1 + 1)), rs, rs, H', ⟨by have := HK1.out; omega⟩, ⟨bk BK231⟩, ⟨be⟩⟩
   ·rw [if_neg c5] at H
    have c5b0 : decide (x8_1 < a1) = false := decide_eq_false c5
    clear c5
    have H' := Aside0.mk H
    clear H
    go_wp2
    repeat (go_quiet (fail); try go_wp2)
    go_loopg [7, 9] k1 (fun kq v7 v9 w' => ∃ (x7_2 : Int) (x9_2 : Int), v7 = .int .i64 x7_2 ∧ v9 = .int .i64 x9_2 ∧ Aside0 (ephemerisref1_MoonBegin.l1 kq a1 a2 x7_2 x9_2 a0_0 a0_1 a0_2 a0_3 a0_4 a0_5 a0_6 a0_7 a0_8 l0_9 l0_10 = some r) ∧ Aside0 (kq ≤ k1) ∧ Aside0 (w'.heap[gb231]? = some (.cells #[.string a0_0, .int .i64 a0_1, .int .i64 a0_2, .int .i64 a0_3, .int .i64 a0_4, .int .i64 a0_5, .int .i64 a0_6, .int .i64 a0_7, .int .i64 a0_8, (.slice A0_9 l0_9.length c0_9), (.slice A0_10 l0_10.length c0_10)] 60 (0, 0))) ∧ Aside0 (Below w.heap.size w w'))
    case atStart => exact ⟨(x7_1), (0), rs, rs, H', ⟨Nat.le_refl _⟩, ⟨bk BK231⟩, ⟨be⟩⟩
    case round =>
     clear H'
     (try clear c2); (try clear p2); (try clear c5); (try clear c5b0); (try clear p6); (try clear hcz7_0); (try clear hcz7_1); (try clear hcz7_10); (try clear hcz7_2); (try clear hcz7_3); (try clear hcz7_4); (try clear hcz7_5); (try clear hcz7_6); (try clear hcz7_7); (try clear hcz7_8); (try clear hcz7_9); (try clear hfz7_0); (try clear hfz7_1); (try clear hfz7_10); (try clear hfz7_2); (try clear hfz7_3); (try clear hfz7_4); (try clear hfz7_5); (try clear hfz7_6); (try clear hfz7_7); (try clear hfz7_8); (try clear hfz7_9); (try clear p2)
     obtain ⟨x7_2, x9_2, rfl, rfl, HA, HK2, BK231, HB⟩ := hrel
     cases gk with
     | zero => exact absurd HA.out (by simp [ephemerisref1_MoonBegin.l1])
     | succ k2 =>
      have H := HA.out
      clear HA
      simp only [ephemerisref1_MoonBegin.l1] at H
      by_cases c9 : x9_2 ≥ a1
      ·rw [if_pos c9] at H
       have c9b0 : decide (a1 ≤ x9_2) = true := decide_eq_true c9
       clear c9
       replace H := Option.bind_eq_some_iff.mp H
       obtain ⟨t233, A100, H⟩ := H
       replace H : (ephemerisref1_MoonBegin.l1 k2 a1 a2 (wrap64 (x7_2 - t233)) (wrap64 (x9_2 - 1)) a0_0 a0_1 a0_2 a0_3 a0_4 a0_5 a0_6 a0_7 a0_8 l0_9 l0_10) = some r := H
       have A10 := Aside0.mk A100
       clear A100
       have H' := Aside0.mk H
       clear H
       obtain ⟨hcz11_0, hcz11_1, hcz11_2, hcz11_3, hcz11_4, hcz11_5, hcz11_6, hcz11_7, hcz11_8, hcz11_9, hcz11_10, hfz11_0, hfz11_1, hfz11_2, hfz11_3, hfz11_4, hfz11_5, hfz11_6, hfz11_7, hfz11_8, hfz11_9, hfz11_10⟩ := bc11 BK231
       go_wp2_with (first | (go_at_call 28; (with_reducible refine (ephemerisref1_MoonMonths.calls k2 a0_0 a0_1 a0_2 a0_3 a0_4 a0_5 a0_6 a0_7 a0_8 _ _ l0_9 _ _ l0_10 x9_2 t233 _ ?side1 ?side2 ?side3 ?side4 A10.out).mono ?_); (case side1 => exact kc (Kd.C_below HR0_9.out HB.out)); (case side2 => exact HC0_9.out); (case side3 => exact kc (Kd.C_below HR0_10.out HB.out)); (case side4 => exact HC0_10.out); rintro e w12 ⟨rfl, hb⟩; have n0_ := bb BK231 hb; have n1_ := Aside0.mk (below_step be hb); clear BK231; clear HB; have BK231 := n0_; have HB := n1_; clear n0_ n1_; (try clear hb); (try clear hb2); (try clear hk); (try clear hi)))
       repeat (go_quiet (first | (go_at_call 28; (with_reducible refine (ephemerisref1_MoonMonths.calls k2 a0_0 a0_1 a0_2 a0_3 a0_4 a0_5 a0_6 a0_7 a0_8 _ _ l0_9 _ _ l0_10 x9_2 t233 _ ?side1 ?side2 ?side3 ?side4 A10.out).mono ?_); (case side1 => exact kc (Kd.C_below HR0_9.out HB.out)); (case side2 => exact HC0_9.out); (case side3 => exact kc (Kd.C_below HR0_10.out HB.out)); (case side4 => exact HC0_10.out); rintro e w12 ⟨rfl, hb⟩; have n0_ := bb BK231 hb; have n1_ := Aside0.mk (below_step be hb); clear BK231; clear HB; have BK231 := n0_; have HB := n1_; clear n0_ n1_; (try clear hb); (try clear hb2); (try clear hk); (try clear hi))); try go_wp2_with (first | (go_at_call 28; (with_reducible refine (ephemerisref1_MoonMonths.calls k2 a0_0 a0_1 a0_2 a0_3 a0_4 a0_5 a0_6 a0_7 a0_8 _ _ l0_9 _ _ l0_10 x9_2 t233 _ ?side1 ?side2 ?side3 ?side4 A10.out).mono ?_); (case side1 => exact kc (Kd.C_below HR0_9.out HB.out)); (case side2 => exact HC0_9.out); (case side3 => exact kc (Kd.C_below HR0_10.out HB.out)); (case side4 => exact HC0_10.out); rintro e w12 ⟨rfl, hb⟩; have n0_ := bb BK231 hb; have n1_ := Aside0.mk (below_step be hb); clear BK231; clear HB; have BK231 := n0_; have HB := n1_; clear n0_ n1_; (try clear hb); (try clear hb2); (try clear hk); (try clear hi))))
       go_roundg k2
       case measure => have := HK1.out; have := HK2.out; omega
       case rel => exact ⟨(wrap64 (x7_2 - t233)), (wrap64 (x9_2 - 1)), rs, rs, H', ⟨by have := HK1.out; have := HK2.out; omega⟩, ⟨bk BK231⟩, ⟨be⟩⟩
      ·rw [if_neg c9] at H
       have c9b0 : decide (a1 ≤ x9_2) = false := decide_eq_false c9
       clear c9
       replace H := Option.bind_eq_some_iff.mp H
       obtain ⟨t234, A130, H⟩ := H
       replace H : (if a0_3 = 0 then (none) else (if a0_5 = 0 then (none) else ((ephemerisref1_Floor.f k2 (wrap64 ((wrap64 ((wrap64 (Int.tdiv t234 a0_3)) * a0_2)) + (wrap64 (x7_2 * (wrap64 ((wrap64 (Int.tdiv t234 a0_5)) * a0_4)))))) t234).bind fun t235 => (if a0_7 = 0 then (none) else (if (wrap64 ((wrap64 ((wrap64 ((wrap64 (Int.tdiv t234 a0_3)) * a0_2)) + (wrap64 (x7_2 * (wrap64 ((wrap64 (Int.tdiv t234 a0_5)) * a0_4)))))) - (wrap64 (t235 * t234)))) ≥ (wrap64 ((wrap64 (Int.tdiv t234 a0_7)) * a0_6)) then (ephemerisref1_MoonBegin.j2 k2 a2 (wrap64 (t235 + 1)) a0_0 a0_1 a0_2 a0_3 a0_4 a0_5 a0_6 a0_7 a0_8 l0_9 l0_10) else (ephemerisref1_MoonBegin.j2 k2 a2 t235 a0_0 a0_1 a0_2 a0_3 a0_4 a0_5 a0_6 a0_7 a0_8 l0_9 l0_10)))))) = some r := H
       have A13 := Aside0.mk A130
       clear A130
       by_cases c14 : a0_3 = 0
       ·rw [if_pos c14] at H
        exact absurd H (by simp)
       ·rw [if_neg c14] at H
        have c14b0 : (a0_3 == 0) = false := beq_eq_false_iff_ne.mpr c14
        have c14b1 : (a0_3 != 0) = true := bne_iff_ne.mpr c14
        by_cases c15 : a0_5 = 0
        ·rw [if_pos c15] at H
         exact absurd H (by simp)
        ·rw [if_neg c15] at H
         have c15b0 : (a0_5 == 0) = false := beq_eq_false_iff_ne.mpr c15
         have c15b1 : (a0_5 != 0) = true := bne_iff_ne.mpr c15
         replace H := Option.bind_eq_some_iff.mp H
         obtain ⟨t235, A160, H⟩ := H
         replace H : (if a0_7 = 0 then (none) else (if (wrap64 ((wrap64 ((wrap64 ((wrap64 (Int.tdiv t234 a0_3)) * a0_2)) + (wrap64 (x7_2 * (wrap64 ((wrap64 (Int.tdiv t234 a0_5)) * a0_4)))))) - (wrap64 (t235 * t234)))) ≥ (wrap64 ((wrap64 (Int.tdiv t234 a0_7)) * a0_6)) then (ephemerisref1_MoonBegin.j2 k2 a2 (wrap64 (t235 + 1)) a0_0 a0_1 a0_2 a0_3 a0_4 a0_5 a0_6 a0_7 a0_8 l0_9 l0_10) else (ephemerisref1_MoonBegin.j2 k2 a2 t235 a0_0 a0_1 a0_2 a0_3 a0_4 a0_5 a0_6 a0_7 a0_8 l0_9 l0_10))) = some r := H
         have A16 := Aside0.mk A160
         clear A160
         by_cases c17 : a0_7 = 0
         ·rw [if_pos c17] at H
          exact absurd H (by simp)
         ·rw [if_neg c17] at H
          have c17b0 : (a0_7 == 0) = false := beq_eq_false_iff_ne.mpr c17
          have c17b1 : (a0_7 != 0) = true := bne_iff_ne.mpr c17
          have HC18 := Aside0.mk H
          clear H
          obtain ⟨hcz19_0, hcz19_1, hcz19_2, hcz19_3, hcz19_4, hcz19_5, hcz19_6, hcz19_7, hcz19_8, hcz19_9, hcz19_10, hfz19_0, hfz19_1, hfz19_2, hfz19_3, hfz19_4, hfz19_5, hfz19_6, hfz19_7, hfz19_8, hfz19_9, hfz19_10⟩ := bc11 BK231
          go_upto_if 79 with (first | (go_at_call 78; (with_reducible refine (ephemerisref1_Parts.calls k2 a0_0 a0_1 a0_2 a0_3 a0_4 a0_5 a0_6 a0_7 a0_8 _ _ l0_9 _ _ l0_10 t234 _ ?side1 ?side2 ?side3 ?side4 A13.out).mono ?_); (case side1 => exact kc (Kd.C_below HR0_9.out HB.out)); (case side2 => exact HC0_9.out); (case side3 => exact kc (Kd.C_below HR0_10.out HB.out)); (case side4 => exact HC0_10.out); rintro e w20 ⟨rfl, hb⟩; have n0_ := bb BK231 hb; have n1_ := Aside0.mk (below_step be hb); clear BK231; clear HB; have BK231 := n0_; have HB := n1_; clear n0_ n1_; (try clear hb); (try clear hb2); (try clear hk); (try clear hi); obtain ⟨hcz21_0, hcz21_1, hcz21_2, hcz21_3, hcz21_4, hcz21_5, hcz21_6, hcz21_7, hcz21_8, hcz21_9, hcz21_10, hfz21_0, hfz21_1, hfz21_2, hfz21_3, hfz21_4, hfz21_5, hfz21_6, hfz21_7, hfz21_8, hfz21_9, hfz21_10⟩ := bc11 BK231) | (go_at_call 77; (with_reducible refine (ephemerisref1_Floor.calls k2 (wrap64 ((wrap64 ((wrap64 (Int.tdiv t234 a0_3)) * a0_2)) + (wrap64 (x7_2 * (wrap64 ((wrap64 (Int.tdiv t234 a0_5)) * a0_4)))))) t234 t235 _ A16.out).mono ?_); rintro e w' ⟨rfl, ⟨nd, rfl⟩⟩; (try first | exact ⟨rfl, _, World.drewN_drewN _ _ _⟩ | exact ⟨rfl, _, Eq.trans (World.drewN_drewN _ _ _) (congrArg (World.drewN _) (Nat.add_assoc _ _ _))⟩)))
          repeat (go_quiet (first | (go_at_call 78; (with_reducible refine (ephemerisref1_Parts.calls k2 a0_0 a0_1 a0_2 a0_3 a0_4 a0_5 a0_6 a0_7 a0_8 _ _ l0_9 _ _ l0_10 t234 _ ?side1 ?side2 ?side3 ?side4 A13.out).mono ?_); (case side1 => exact kc (Kd.C_below HR0_9.out HB.out)); (case side2 => exact HC0_9.out); (case side3 => exact kc (Kd.C_below HR0_10.out HB.out)); (case side4 => exact HC0_10.out); rintro e w20 ⟨rfl, hb⟩; have n0_ := bb BK231 hb; have n1_ := Aside0.mk (below_step be hb); clear BK231; clear HB; have BK231 := n0_; have HB := n1_; clear n0_ n1_; (try clear hb); (try clear hb2); (try clear hk); (try clear hi); obtain ⟨hcz21_0, hcz21_1, hcz21_2, hcz21_3, hcz21_4, hcz21_5, hcz21_6, hcz21_7, hcz21_8, hcz21_9, hcz21_10, hfz21_0, hfz21_1, hfz21_2, hfz21_3, hfz21_4, hfz21_5, hfz21_6, hfz21_7, hfz21_8, hfz21_9, hfz21_10⟩ := bc11 BK231) | (go_at_call 77; (with_reducible refine (ephemerisref1_Floor.calls k2 (wrap64 ((wrap64 ((wrap64 (Int.tdiv t234 a0_3)) * a0_2)) + (wrap64 (x7_2 * (wrap64 ((wrap64 (Int.tdiv t234 a0_5)) * a0_4)))))) t234 t235 _ A16.out).mono ?_); rintro e w' ⟨rfl, ⟨nd, rfl⟩⟩; (try first | exact ⟨rfl, _, World.drewN_drewN _ _ _⟩ | exact ⟨rfl, _, Eq.trans (World.drewN_drewN _ _ _) (congrArg (World.drewN _) (Nat.add_assoc _ _ _))⟩))); go_upto_if 79 with (first | (go_at_call 78; (with_reducible refine (ephemerisref1_Parts.calls k2 a0_0 a0_1 a0_2 a0_3 a0_4 a0_5 a0_6 a0_7 a0_8 _ _ l0_9 _ _ l0_10 t234 _ ?side1 ?side2 ?side3 ?side4 A13.out).mono ?_); (case side1 => exact kc (Kd.C_below HR0_9.out HB.out)); (case side2 => exact HC0_9.out); (case side3 => exact kc (Kd.C_below HR0_10.out HB.out)); (case side4 => exact HC0_10.out); rintro e w20 ⟨rfl, hb⟩; have n0_ := bb BK231 hb; have n1_ := Aside0.mk (below_step be hb); clear BK231; clear HB; have BK231 := n0_; have HB := n1_; clear n0_ n1_; (try clear hb); (try clear hb2); (try clear hk); (try clear hi); obtain ⟨hcz21_0, hcz21_1, hcz21_2, hcz21_3, hcz21_4, hcz21_5, hcz21_6, hcz21_7, hcz21_8, hcz21_9, hcz21_10, hfz21_0, hfz21_1, hfz21_2, hfz21_3, hfz21_4, hfz21_5, hfz21_6, hfz21_7, hfz21_8, hfz21_9, hfz21_10⟩ := bc11 BK231) | (go_at_call 77; (with_reducible refine (ephemerisref1_Floor.calls k2 (wrap64 ((wrap64 ((wrap64 (Int.tdiv t234 a0_3)) * a0_2)) + (wrap64 (x7_2 * (wrap64 ((wrap64 (Int.tdiv t234 a0_5)) * a0_4)))))) t234 t235 _ A16.out).mono ?_); rintro e w' ⟨rfl, ⟨nd, rfl⟩⟩; (try first | exact ⟨rfl, _, World.drewN_drewN _ _ _⟩ | exact ⟨rfl, _, Eq.trans (World.drewN_drewN _ _ _) (congrArg (World.drewN _) (Nat.add_assoc _ _ _))⟩))))
          (try simp only [Act.put, List.setIfInBounds_toArray, List.set_cons_zero, List.set_cons_succ])
          go_cut [12] (fun v12 wc => ∃ (kq : Nat) (x12_17 : Int), v12 = .int .i64 x12_17 ∧ Aside0 (ephemerisref1_MoonBegin.j2 kq a2 x12_17 a0_0 a0_1 a0_2 a0_3 a0_4 a0_5 a0_6 a0_7 a0_8 l0_9 l0_10 = some r) ∧ Aside0 (kq ≤ k2) ∧ Aside0 (wc.heap[gb231]? = some (.cells #[.string a0_0, .int .i64 a0_1, .int .i64 a0_2, .int .i64 a0_3, .int .i64 a0_4, .int .i64 a0_5, .int .i64 a0_6, .int .i64 a0_7, .int .i64 a0_8, (.slice A0_9 l0_9.length c0_9), (.slice A0_10 l0_10.length c0_10)] 60 (0, 0))) ∧ Aside0 (Below w.heap.size w wc))
          case first =>
           have H := HC18.out
           clear HC18
           by_cases c22 : (wrap64 ((wrap64 ((wrap64 ((wrap64 (Int.tdiv t234 a0_3)) * a0_2)) + (wrap64 (x7_2 * (wrap64 ((wrap64 (Int.tdiv t234 a0_5)) * a0_4)))))) - (wrap64 (t235 * t234)))) ≥ (wrap64 ((wrap64 (Int.tdiv t234 a0_7)) * a0_6))
           ·rw [if_pos c22] at H
            have c22b0 : decide ((wrap64 ((wrap64 (Int.tdiv t234 a0_7)) * a0_6)) ≤ (wrap64 ((wrap64 ((wrap64 ((wrap64 (Int.tdiv t234 a0_3)) * a0_2)) + (wrap64 (x7_2 * (wrap64 ((wrap64 (Int.tdiv t234 a0_5)) * a0_4)))))) - (wrap64 (t235 * t234))))) = true := decide_eq_true c22
            clear c22
            (first | rw [c22b0] | (simp only [i64_w, i32_w]; rw [c22b0]) | skip)
            have H' := Aside0.mk H
            clear H
            go_wp2
            repeat (go_quiet (fail); try go_wp2)
            go_meet
            case rel => exact ⟨_, (wrap64 (t235 + 1)), rs, H', ⟨by have := HK1.out; have := HK2.out; first | omega | exact Nat.le_refl _⟩, ⟨bk BK231⟩, ⟨be⟩⟩
           ·rw [if_neg c22] at H
            have c22b0 : decide ((wrap64 ((wrap64 (Int.tdiv t234 a0_7)) * a0_6)) ≤ (wrap64 ((wrap64 ((wrap64 ((wrap64 (Int.tdiv t234 a0_3)) * a0_2)) + (wrap64 (x7_2 * (wrap64 ((wrap64 (Int.tdiv t234 a0_5)) * a0_4)))))) - (wrap64 (t235 * t234))))) = false := decide_eq_false c22
            clear c22
            (first | rw [c22b0] | (simp only [i64_w, i32_w]; rw [c22b0]) | skip)
            have H' := Aside0.mk H
            clear H
            go_wp2
            repeat (go_quiet (fail); try go_wp2)
            go_meet
            case rel => exact ⟨_, (t235), rs, H', ⟨by have := HK1.out; have := HK2.out; first | omega | exact Nat.le_refl _⟩, ⟨bk BK231⟩, ⟨be⟩⟩
          case rest =>
           clear HC18
           (try clear c1); (try clear c2); (try clear p2); (try clear c5); (try clear c5b0); (try clear p6); (try clear c9); (try clear c9b0); (try clear c14); (try clear c14b0); (try clear c14b1); (try clear c15); (try clear c15b0); (try clear c15b1); (try clear c17); (try clear c17b0); (try clear c17b1); (try clear c22); (try clear c22b0); (try clear hcz11_0); (try clear hcz11_1); (try clear hcz11_10); (try clear hcz11_2); (try clear hcz11_3); (try clear hcz11_4); (try clear hcz11_5); (try clear hcz11_6); (try clear hcz11_7); (try clear hcz11_8); (try clear hcz11_9); (try clear hcz19_0); (try clear hcz19_1); (try clear hcz19_10); (try clear hcz19_2); (try clear hcz19_3); (try clear hcz19_4); (try clear hcz19_5); (try clear hcz19_6); (try clear hcz19_7); (try clear hcz19_8); (try clear hcz19_9); (try clear hcz21_0); (try clear hcz21_1); (try clear hcz21_10); (try clear hcz21_2); (try clear hcz21_3); (try clear hcz21_4); (try clear hcz21_5); (try clear hcz21_6); (try clear hcz21_7); (try clear hcz21_8); (try clear hcz21_9); (try clear hcz7_0); (try clear hcz7_1); (try clear hcz7_10); (try clear hcz7_2); (try clear hcz7_3); (try clear hcz7_4); (try clear hcz7_5); (try clear hcz7_6); (try clear hcz7_7); (try clear hcz7_8); (try clear hcz7_9); (try clear hfz11_0); (try clear hfz11_1); (try clear hfz11_10); (try clear hfz11_2); (try clear hfz11_3); (try clear hfz11_4); (try clear hfz11_5); (try clear hfz11_6); (try clear hfz11_7); (try clear hfz11_8); (try clear hfz11_9); (try clear hfz19_0); (try clear hfz19_1); (try clear hfz19_10); (try clear hfz19_2); (try clear hfz19_3); (try clear hfz19_4); (try clear hfz19_5); (try clear hfz19_6); (try clear hfz19_7); (try clear hfz19_8); (try clear hfz19_9); (try clear hfz21_0); (try clear hfz21_1); (try clear hfz21_10); (try clear hfz21_2); (try clear hfz21_3); (try clear hfz21_4); (try clear hfz21_5); (try clear hfz21_6); (try clear hfz21_7); (try clear hfz21_8); (try clear hfz21_9); (try clear hfz7_0); (try clear hfz7_1); (try clear hfz7_10); (try clear hfz7_2); (try clear hfz7_3); (try clear hfz7_4); (try clear hfz7_5); (try clear hfz7_6); (try clear hfz7_7); (try clear hfz7_8); (try clear hfz7_9); (try clear p2); (try clear p6)
           obtain ⟨kq, x12_17, rfl, HA, HJ17, BK231, HB⟩ := hcut
           cases kq with
           | zero => exact absurd HA.out (by simp [ephemerisref1_MoonBegin.j2])
           | succ kj17 =>
            have H := HA.out
            clear HA
            simp only [ephemerisref1_MoonBegin.j2] at H
            by_cases c23 : a2 > 1
            ·rw [if_pos c23] at H
             have c23b0 : decide (1 < a2) = true := decide_eq_true c23
             clear c23
             obtain rfl := Option.some.inj H
             obtain ⟨hcz24_0, hcz24_1, hcz24_2, hcz24_3, hcz24_4, hcz24_5, hcz24_6, hcz24_7, hcz24_8, hcz24_9, hcz24_10, hfz24_0, hfz24_1, hfz24_2, hfz24_3, hfz24_4, hfz24_5, hfz24_6, hfz24_7, hfz24_8, hfz24_9, hfz24_10⟩ := bc11 BK231
             go_wp2
             repeat (go_quiet (fail); try go_wp2)
             go_ret
             exact ⟨by first | rfl | (simp [errW_none, errW_some] <;> rfl) | (simp [*, errW_none, errW_some] <;> rfl), be⟩
            ·rw [if_neg c23] at H
             have c23b0 : decide (1 < a2) = false := decide_eq_false c23
             clear c23
             have H' := Aside0.mk H
             clear H
             obtain ⟨hcz25_0, hcz25_1, hcz25_2, hcz25_3, hcz25_4, hcz25_5, hcz25_6, hcz25_7, hcz25_8, hcz25_9, hcz25_10, hfz25_0, hfz25_1, hfz25_2, hfz25_3, hfz25_4, hfz25_5, hfz25_6, hfz25_7, hfz25_8, hfz25_9, hfz25_10⟩ := bc11 BK231
             go_wp2
             repeat (go_quiet (fail); try go_wp2)
             go_loopg [12, 13] kj17 (fun kq v12 v13 w' => ∃ (x12_4 : Int) (x13_4 : Int), v12 = .int .i64 x12_4 ∧ v13 = .int .i64 x13_4 ∧ Aside0 (ephemerisref1_MoonBegin.l2 kq x12_4 x13_4 a0_0 a0_1 a0_2 a0_3 a0_4 a0_5 a0_6 a0_7 a0_8 l0_9 l0_10 = some r) ∧ Aside0 (kq ≤ kj17) ∧ Aside0 (w'.heap[gb231]? = some (.cells #[.string a0_0, .int .i64 a0_1, .int .i64 a0_2, .int .i64 a0_3, .int .i64 a0_4, .int .i64 a0_5, .int .i64 a0_6, .int .i64 a0_7, .int .i64 a0_8, (.slice A0_9 l0_9.length c0_9), (.slice A0_10 l0_10.length c0_10)] 60 (0, 0))) ∧ Aside0 (Below w.heap.size w w'))
             case atStart => exact ⟨(wrap64 (x12_17 + a0_1)), (0), rs, rs, H', ⟨Nat.le_refl _⟩, ⟨bk BK231⟩, ⟨be⟩⟩
             case round =>
              clear H'
              (try clear c1); (try clear c2); (try clear p2); (try clear c5); (try clear c5b0); (try clear p6); (try clear c9); (try clear c9b0); (try clear c14); (try clear c14b0); (try clear c14b1); (try clear c15); (try clear c15b0); (try clear c15b1); (try clear c17); (try clear c17b0); (try clear c17b1); (try clear c22); (try clear c22b0); (try clear c23); (try clear c23b0); (try clear hcz11_0); (try clear hcz11_1); (try clear hcz11_10); (try clear hcz11_2); (try clear hcz11_3); (try clear hcz11_4); (try clear hcz11_5); (try clear hcz11_6); (try clear hcz11_7); (try clear hcz11_8); (try clear hcz11_9); (try clear hcz19_0); (try clear hcz19_1); (try clear hcz19_10); (try clear hcz19_2); (try clear hcz19_3); (try clear hcz19_4); (try clear hcz19_5); (try clear hcz19_6); (try clear hcz19_7); (try clear hcz19_8); (try clear hcz19_9); (try clear hcz21_0); (try clear hcz21_1); (try clear hcz21_10); (try clear hcz21_2); (try clear hcz21_3); (try clear hcz21_4); (try clear hcz21_5); (try clear hcz21_6); (try clear hcz21_7); (try clear hcz21_8); (try clear hcz21_9); (try clear hcz24_0); (try clear hcz24_1); (try clear hcz24_10); (try clear hcz24_2); (try clear hcz24_3); (try clear hcz24_4); (try clear hcz24_5); (try clear hcz24_6); (try clear hcz24_7); (try clear hcz24_8); (try clear hcz24_9); (try clear hcz25_0); (try clear hcz25_1); (try clear hcz25_10); (try clear hcz25_2); (try clear hcz25_3); (try clear hcz25_4); (try clear hcz25_5); (try clear hcz25_6); (try clear hcz25_7); (try clear hcz25_8); (try clear hcz25_9); (try clear hcz7_0); (try clear hcz7_1); (try clear hcz7_10); (try clear hcz7_2); (try clear hcz7_3); (try clear hcz7_4); (try clear hcz7_5); (try clear hcz7_6); (try clear hcz7_7); (try clear hcz7_8); (try clear hcz7_9); (try clear hfz11_0); (try clear hfz11_1); (try clear hfz11_10); (try clear hfz11_2); (try clear hfz11_3); (try clear hfz11_4); (try clear hfz11_5); (try clear hfz11_6); (try clear hfz11_7); (try clear hfz11_8); (try clear hfz11_9); (try clear hfz19_0); (try clear hfz19_1); (try clear hfz19_10); (try clear hfz19_2); (try clear hfz19_3); (try clear hfz19_4); (try clear hfz19_5); (try clear hfz19_6); (try clear hfz19_7); (try clear hfz19_8); (try clear hfz19_9); (try clear hfz21_0); (try clear hfz21_1); (try clear hfz21_10); (try clear hfz21_2); (try clear hfz21_3); (try clear hfz21_4); (try clear hfz21_5); (try clear hfz21_6); (try clear hfz21_7); (try clear hfz21_8); (try clear hfz21_9); (try clear hfz24_0); (try clear hfz24_1); (try clear hfz24_10); (try clear hfz24_2); (try clear hfz24_3); (try clear hfz24_4); (try clear hfz24_5); (try clear hfz24_6); (try clear hfz24_7); (try clear hfz24_8); (try clear hfz24_9); (try clear hfz25_0); (try clear hfz25_1); (try clear hfz25_10); (try clear hfz25_2); (try clear hfz25_3); (try clear hfz25_4); (try clear hfz25_5); (try clear hfz25_6); (try clear hfz25_7); (try clear hfz25_8); (try clear hfz25_9); (try clear hfz7_0); (try clear hfz7_1); (try clear hfz7_10); (try clear hfz7_2); (try clear hfz7_3); (try clear hfz7_4); (try clear hfz7_5); (try clear hfz7_6); (try clear hfz7_7); (try clear hfz7_8); (try clear hfz7_9); (try clear p2); (try clear p6)
              obtain ⟨x12_4, x13_4, rfl, rfl, HA, HK4, BK231, HB⟩ := hrel
              cases gk with
              | zero => exact absurd HA.out (by simp [ephemerisref1_MoonBegin.l2])
              | succ k4 =>
               have H := HA.out
               clear HA
               simp only [ephemerisref1_MoonBegin.l2] at H
               by_cases c26 : x13_4 < 7
               ·rw [if_pos c26] at H
                have c26b0 : decide (x13_4 < 7) = true := decide_eq_true c26
                clear c26
                have H' := Aside0.mk H
                clear H
                obtain ⟨hcz27_0, hcz27_1, hcz27_2, hcz27_3, hcz27_4, hcz27_5, hcz27_6, hcz27_7, hcz27_8, hcz27_9, hcz27_10, hfz27_0, hfz27_1, hfz27_2, hfz27_3, hfz27_4, hfz27_5, hfz27_6, hfz27_7, hfz27_8, hfz27_9, hfz27_10⟩ := bc11 BK231
                go_wp2
                repeat (go_quiet (fail); try go_wp2)
                go_loopg [14, 96] k4 (fun kq v14 v96 w' => ∃ (x14_5 : Bool) (x96_5 : Int), v14 = .bool x14_5 ∧ v96 = .int .i64 x96_5 ∧ Aside0 (ephemerisref1_MoonBegin.l3 kq x12_4 x13_4 x14_5 l0_10 (l0_10.length : Int) x96_5 a0_0 a0_1 a0_2 a0_3 a0_4 a0_5 a0_6 a0_7 a0_8 l0_9 l0_10 = some r) ∧ Aside0 (kq ≤ k4) ∧ Aside0 (w'.heap[gb231]? = some (.cells #[.string a0_0, .int .i64 a0_1, .int .i64 a0_2, .int .i64 a0_3, .int .i64 a0_4, .int .i64 a0_5, .int .i64 a0_6, .int .i64 a0_7, .int .i64 a0_8, (.slice A0_9 l0_9.length c0_9), (.slice A0_10 l0_10.length c0_10)] 60 (0, 0))) ∧ Aside0 (Below w.heap.size w w'))
                case atStart => exact ⟨(false), (0), rs, rs, H', ⟨Nat.le_refl _⟩, ⟨bk BK231⟩, ⟨be⟩⟩
                case round =>
                 clear H'
                 (try clear c1); (try clear c2); (try clear p2); (try clear c5); (try clear c5b0); (try clear p6); (try clear c9); (try clear c9b0); (try clear c14); (try clear c14b0); (try clear c14b1); (try clear c15); (try clear c15b0); (try clear c15b1); (try clear c17); (try clear c17b0); (try clear c17b1); (try clear c22); (try clear c22b0); (try clear c23); (try clear c23b0); (try clear c26); (try clear c26b0); (try clear hcz11_0); (try clear hcz11_1); (try clear hcz11_10); (try clear hcz11_2); (try clear hcz11_3); (try clear hcz11_4); (try clear hcz11_5); (try clear hcz11_6); (try clear hcz11_7); (try clear hcz11_8); (try clear hcz11_9); (try clear hcz19_0); (try clear hcz19_1); (try clear hcz19_10); (try clear hcz19_2); (try clear hcz19_3); (try clear hcz19_4); (try clear hcz19_5); (try clear hcz19_6); (try clear hcz19_7); (try clear hcz19_8); (try clear hcz19_9); (try clear hcz21_0); (try clear hcz21_1); (try clear hcz21_10); (try clear hcz21_2); (try clear hcz21_3); (try clear hcz21_4); (try clear hcz21_5); (try clear hcz21_6); (try clear hcz21_7); (try clear hcz21_8); (try clear hcz21_9); (try clear hcz24_0); (try clear hcz24_1); (try clear hcz24_10); (try clear hcz24_2); (try clear hcz24_3); (try clear hcz24_4); (try clear hcz24_5); (try clear hcz24_6); (try clear hcz24_7); (try clear hcz24_8); (try clear hcz24_9); (try clear hcz25_0); (try clear hcz25_1); (try clear hcz25_10); (try clear hcz25_2); (try clear hcz25_3); (try clear hcz25_4); (try clear hcz25_5); (try clear hcz25_6); (try clear hcz25_7); (try clear hcz25_8); (try clear hcz25_9); (try clear hcz27_0); (try clear hcz27_1); (try clear hcz27_10); (try clear hcz27_2); (try clear hcz27_3); (try clear hcz27_4); (try clear hcz27_5); (try clear hcz27_6); (try clear hcz27_7); (try clear hcz27_8); (try clear hcz27_9); (try clear hcz7_0); (try clear hcz7_1); (try clear hcz7_10); (try clear hcz7_2); (try clear hcz7_3); (try clear hcz7_4); (try clear hcz7_5); (try clear hcz7_6); (try clear hcz7_7); (try clear hcz7_8); (try clear hcz7_9); (try clear hfz11_0); (try clear hfz11_1); (try clear hfz11_10); (try clear hfz11_2); (try clear hfz11_3); (try clear hfz11_4); (try clear hfz11_5); (try clear hfz11_6); (try clear hfz11_7); (try clear hfz11_8); (try clear hfz11_9); (try clear hfz19_0); (try clear hfz19_1); (try clear hfz19_10); (try clear hfz19_2); (try clear hfz19_3); (try clear hfz19_4); (try clear hfz19_5); (try clear hfz19_6); (try clear hfz19_7); (try clear hfz19_8); (try clear hfz19_9); (try clear hfz21_0); (try clear hfz21_1); (try clear hfz21_10); (try clear hfz21_2); (try clear hfz21_3); (try clear hfz21_4); (try clear hfz21_5); (try clear hfz21_6); (try clear hfz21_7); (try clear hfz21_8); (try clear hfz21_9); (try clear hfz24_0); (try clear hfz24_1); (try clear hfz24_10); (try clear hfz24_2); (try clear hfz24_3); (try clear hfz24_4); (try clear hfz24_5); (try clear hfz24_6); (try clear hfz24_7); (try clear hfz24_8); (try clear hfz24_9); (try clear hfz25_0); (try clear hfz25_1); (try clear hfz25_10); (try clear hfz25_2); (try clear hfz25_3); (try clear hfz25_4); (try clear hfz25_5); (try clear hfz25_6); (try clear hfz25_7); (try clear hfz25_8); (try clear hfz25_9); (try clear hfz27_0); (try clear hfz27_1); (try clear hfz27_10); (try clear hfz27_2); (try clear hfz27_3); (try clear hfz27_4); (try clear hfz27_5); (try clear hfz27_6); (try clear hfz27_7); (try clear hfz27_8); (try clear hfz27_9); (try clear hfz7_0); (try clear hfz7_1); (try clear hfz7_10); (try clear hfz7_2); (try clear hfz7_3); (try clear hfz7_4); (try clear hfz7_5); (try clear hfz7_6); (try clear hfz7_7); (try clear hfz7_8); (try clear hfz7_9); (try clear p2); (try clear p6)
                 obtain ⟨x14_5, x96_5, rfl, rfl, HA, HK5, BK231, HB⟩ := hrel
                 cases gk with
                 | zero => exact absurd HA.out (by simp [ephemerisref1_MoonBegin.l3])
                 | succ k5 =>
                  have H := HA.out
                  clear HA
                  simp only [ephemerisref1_MoonBegin.l3] at H
                  by_cases c28 : x96_5 < (l0_10.length : Int)
                  ·rw [if_pos c28] at H
                   have c28b0 : decide (x96_5 < (l0_10.length : Int)) = true := decide_eq_true c28
                   clear c28
                   by_cases c29 : 0 ≤ x96_5
                   ·rw [if_pos c29] at H
                    have c29b0 : decide (0 ≤ x96_5) = true := decide_eq_true c29
                    clear c29
                    by_cases c30 : x96_5 < (l0_10.length : Int)
                    ·rw [if_pos c30] at H
                     have c30b0 : decide (x96_5 < (l0_10.length : Int)) = true := decide_eq_true c30
                     clear c30
                     by_cases c31 : x14_5 = true
                     ·subst c31
                      have H1 : (ephemerisref1_MoonBegin.l3 k5 x12_4 x13_4 true l0_10 (l0_10.length : Int) (wrap64 (x96_5 + 1)) a0_0 a0_1 a0_2 a0_3 a0_4 a0_5 a0_6 a0_7 a0_8 l0_9 l0_10) = some r := by rw [if_pos rfl] at H; exact H
                      clear H
                      have H := H1
                      clear H1
                      have H' := Aside0.mk H
                      clear H
                      have p236 : 0 ≤ (x96_5 : Int) := of_decide_eq_true ka
                      have q236 : x96_5 < (l0_10.length : Int) := of_decide_eq_true ka
                      obtain ⟨ad236, e236, hx236_0⟩ := Kd.at_int HR0_10.out x96_5 p236 q236
                      cases e236
                      replace hx236_0 := (HB.out.cell (World.block_lt_of_cell? w _ hx236_0)).trans hx236_0
                      replace p236 := eq_true p236
                      replace q236 := eq_true q236
                      go_wp2
                      repeat (go_quiet (fail); try go_wp2)
                      go_roundg k5
                      case measure => have := HK1.out; have := HK2.out; have := HJ17.out; have := HK4.out; have := HK5.out; omega
                      case rel => exact ⟨(true), (wrap64 (x96_5 + 1)), rs, rs, H', ⟨by have := HK1.out; have := HK2.out; have := HJ17.out; have := HK4.out; have := HK5.out; omega⟩, ⟨bk BK231⟩, ⟨be⟩⟩
                     ·replace c31 := Bool.eq_false_iff.mpr c31
                      subst c31
                      have H1 : ((ephemerisref1_Week.f k5 x12_4).bind fun t237 => (ephemerisref1_MoonBegin.l3 k5 x12_4 x13_4 ((rd l0_10 x96_5) == t237) l0_10 (l0_10.length : Int) (wrap64 (x96_5 + 1)) a0_0 a0_1 a0_2 a0_3 a0_4 a0_5 a0_6 a0_7 a0_8 l0_9 l0_10)) = some r := by rw [if_neg (show ¬ (false = true) by decide)] at H; exact H
                      clear H
                      have H := H1
                      clear H1
                      replace H := Option.bind_eq_some_iff.mp H
                      obtain ⟨t237, A320, H⟩ := H
                      replace H : (ephemerisref1_MoonBegin.l3 k5 x12_4 x13_4 ((rd l0_10 x96_5) == t237) l0_10 (l0_10.length : Int) (wrap64 (x96_5 + 1)) a0_0 a0_1 a0_2 a0_3 a0_4 a0_5 a0_6 a0_7 a0_8 l0_9 l0_10) = some r := H
                      have A32 := Aside0.mk A320
                      clear A320
                      have H' := Aside0.mk H
                      clear H
                      have p236 : 0 ≤ (x96_5 : Int) := of_decide_eq_true ka
                      have q236 : x96_5 < (l0_10.length : Int) := of_decide_eq_true ka
                      obtain ⟨ad236, e236, hx236_0⟩ := Kd.at_int HR0_10.out x96_5 p236 q236
                      cases e236
                      replace hx236_0 := (HB.out.cell (World.block_lt_of_cell? w _ hx236_0)).trans hx236_0
                      replace p236 := eq_true p236
                      replace q236 := eq_true q236
                      go_wp2_with (first | (go_at_call 79; (with_reducible refine (ephemerisref1_Week.calls k5 x12_4 t237 _ A32.out).mono ?_); rintro e w' ⟨rfl, ⟨nd, rfl⟩⟩; (try first | exact ⟨rfl, _, World.drewN_drewN _ _ _⟩ | exact ⟨rfl, _, Eq.trans (World.drewN_drewN _ _ _) (congrArg (World.drewN _) (Nat.add_assoc _ _ _))⟩)))
                      repeat (go_quiet (first | (go_at_call 79; (with_reducible refine (ephemerisref1_Week.calls k5 x12_4 t237 _ A32.out).mono ?_); rintro e w' ⟨rfl, ⟨nd, rfl⟩⟩; (try first | exact ⟨rfl, _, World.drewN_drewN _ _ _⟩ | exact ⟨rfl, _, Eq.trans (World.drewN_drewN _ _ _) (congrArg (World.drewN _) (Nat.add_assoc _ _ _))⟩))); try go_wp2_with (first | (go_at_call 79; (with_reducible refine (ephemerisref1_Week.calls k5 x12_4 t237 _ A32.out).mono ?_); rintro e w' ⟨rfl, ⟨nd, rfl⟩⟩; (try first | exact ⟨rfl, _, World.drewN_drewN _ _ _⟩ | exact ⟨rfl, _, Eq.trans (World.drewN_drewN _ _ _) (congrArg (World.drewN _) (Nat.add_assoc _ _ _))⟩))))
                      go_roundg k5
                      case measure => have := HK1.out; have := HK2.out; have := HJ17.out; have := HK4.out; have := HK5.out; omega
                      case rel => exact ⟨(((rd l0_10 x96_5) == t237)), (wrap64 (x96_5 + 1)), rs, rs, H', ⟨by have := HK1.out; have := HK2.out; have := HJ17.out; have := HK4.out; have := HK5.out; omega⟩, ⟨bk BK231⟩, ⟨be⟩⟩
                    ·rw [if_neg c30] at H
                     exact absurd H (by simp)
                   ·rw [if_neg c29] at H
                    exact absurd H (by simp)
                  ·rw [if_neg c28] at H
                   have c28b0 : decide (x96_5 < (l0_10.length : Int)) = false := decide_eq_false c28
                   clear c28
                   by_cases c33 : x14_5 = true
                   ·subst c33
                    have H1 : (ephemerisref1_MoonBegin.l2 k5 (wrap64 (x12_4 + 1)) (wrap64 (x13_4 + 1)) a0_0 a0_1 a0_2 a0_3 a0_4 a0_5 a0_6 a0_7 a0_8 l0_9 l0_10) = some r := by rw [if_pos rfl] at H; exact H
                    clear H
                    have H := H1
                    clear H1
                    have H' := Aside0.mk H
                    clear H
                    go_wp2
                    repeat (go_quiet (fail); try go_wp2)
                    go_roundg k5
                    case measure => have := HK1.out; have := HK2.out; have := HJ17.out; have := HK4.out; have := HK5.out; omega
                    case rel => exact ⟨(wrap64 (x12_4 + 1)), (wrap64 (x13_4 + 1)), rs, rs, H', ⟨by have := HK1.out; have := HK2.out; have := HJ17.out; have := HK4.out; have := HK5.out; omega⟩, ⟨bk BK231⟩, ⟨be⟩⟩
                   ·replace c33 := Bool.eq_false_iff.mpr c33
                    subst c33
                    have H1 : (some x12_4) = some r := by rw [if_neg (show ¬ (false = true) by decide)] at H; exact H
                    clear H
                    have H := H1
                    clear H1
                    obtain rfl := Option.some.inj H
                    go_wp2
                    repeat (go_quiet (fail); try go_wp2)
                    go_ret
                    exact ⟨by first | rfl | (simp [errW_none, errW_some] <;> rfl) | (simp [*, errW_none, errW_some] <;> rfl), be⟩
               ·rw [if_neg c26] at H
                have c26b0 : decide (x13_4 < 7) = false := decide_eq_false c26
                clear c26
                obtain rfl := Option.some.inj H
                go_wp2
                repeat (go_quiet (fail); try go_wp2)
                go_ret
                exact ⟨by first | rfl | (simp [errW_none, errW_some] <;> rfl) | (simp [*, errW_none, errW_some] <;> rfl), be⟩

end Go.Proofs.Ytlfammlboncmeaa.PObservedOfs
