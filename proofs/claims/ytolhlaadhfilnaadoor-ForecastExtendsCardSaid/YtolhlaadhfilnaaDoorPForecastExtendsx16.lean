/- The walks of the functions of this part. The proof of ephemerislaw1_ForecastExtends (in part) is written by hand; the other ones are as the kit's print tells them. -/
-- The walks of the law's functions, told by a program.
import Derived.Test.YtolhlaadhfilnaaDoorY
import Derived.Test.YtolhlaadhfilnaaDoorPForecastExtendsx0
import Derived.Test.YtolhlaadhfilnaaDoorPForecastExtendsx3
import Derived.Test.YtolhlaadhfilnaaDoorPForecastExtendsx4
import Derived.Test.YtolhlaadhfilnaaDoorPForecastExtendsx10
import Derived.Test.YtolhlaadhfilnaaDoorPForecastExtendsx11
import Derived.Test.YtolhlaadhfilnaaDoorPForecastExtendsx12
import Derived.Test.YtolhlaadhfilnaaDoorPForecastExtendsx15
namespace Go.Proofs.YtolhlaadhfilnaaDoor.PForecastExtends
open Go.RowKit Go.Proofs.YtolhlaadhfilnaaDoorW.PrintWords Go.Proofs.YtolhlaadhfilnaaDoorW.PrintLast Go.Proofs.YtolhlaadhfilnaaDoorW.PrintMore Go.Proofs.YtolhlaadhfilnaaDoor.Y
attribute [local go_sem] max2_int min2_int max_two min_two max_three min_three max_four min_four   -- for this text's walks alone
set_option linter.unusedVariables false
set_option linter.unusedSimpArgs false

/-! ### ephemerislaw1_ForecastExtends: function 4 -/
mutual
def ephemerislaw1_ForecastExtends.j0 : Nat → List (S92) → Int → Int → Bool → ByteArray → Int → List (S43) → Option (Bool)
 | 0, _, _, _, _, _, _, _ => none
 | k + 1, x1, x2, x3, x40, x267000, x267001, x267002 => if x40 = true then (some false) else ((forecast_Extend.f k x267000 x267001 x267002 x1 x2 x3).bind fun bt278 => ((ephemerisref1_ZoneRulesError.f k x1).bind fun t285 => (if t285 = 0 then ((ephemerisref1_ZoneError.f k x267000 x267001 x267002).bind fun t286 => (ephemerislaw1_ForecastExtends.j1 k x1 x2 x3 bt278.2.2.2 t286 x267000 x267001 x267002 bt278.1 bt278.2.1 bt278.2.2.1)) else (ephemerislaw1_ForecastExtends.j1 k x1 x2 x3 bt278.2.2.2 t285 x267000 x267001 x267002 bt278.1 bt278.2.1 bt278.2.2.1))))
def ephemerislaw1_ForecastExtends.j1 : Nat → List (S92) → Int → Int → Int → Int → ByteArray → Int → List (S43) → ByteArray → Int → List (S43) → Option (Bool)
 | 0, _, _, _, _, _, _, _, _, _, _, _ => none
 | k + 1, x1, x2, x3, x12, x13, x267000, x267001, x267002, x285000, x285001, x285002 => if x13 = 0 then ((ephemerisref1_In.f x2 (-10000) 10000).bind fun t287 => (if t287 = true then ((ephemerisref1_In.f x3 x2 10000).bind fun t288 => (ephemerislaw1_ForecastExtends.j2 k x1 x2 x3 x12 x13 (!t288) x267000 x267001 x267002 x285000 x285001 x285002)) else (ephemerislaw1_ForecastExtends.j2 k x1 x2 x3 x12 x13 true x267000 x267001 x267002 x285000 x285001 x285002))) else (ephemerislaw1_ForecastExtends.j3 k x1 x2 x3 x12 x13 x267000 x267001 x267002 x285000 x285001 x285002)
def ephemerislaw1_ForecastExtends.j3 : Nat → List (S92) → Int → Int → Int → Int → ByteArray → Int → List (S43) → ByteArray → Int → List (S43) → Option (Bool)
 | 0, _, _, _, _, _, _, _, _, _, _, _ => none
 | k + 1, x1, x2, x3, x12, x13, x267000, x267001, x267002, x285000, x285001, x285002 => if x13 = 0 then (if ([] : List (S43)).length + x267002.length < 4398046511104 then (ephemerislaw1_ForecastExtends.l0 k x1 x3 x12 x2 x285000 x285001 x285002 x267000 x267001 (([] : List (S43)) ++ x267002)) else (none)) else ((ephemerisref1_SameZone.f k x285000 x285001 x285002 (⟨#[]⟩ : ByteArray) 0 ([] : List (S43))).bind fun t289 => (if t289 = true then (some (x12 == x13)) else (some false)))
def ephemerislaw1_ForecastExtends.l0 : Nat → List (S92) → Int → Int → Int → ByteArray → Int → List (S43) → ByteArray → Int → List (S43) → Option (Bool)
 | 0, _, _, _, _, _, _, _, _, _, _ => none
 | k + 1, x1, x3, x12, x15, x285000, x285001, x285002, x291000, x291001, x291002 => if x15 ≤ x3 then (if (x291002.length : Int) > 0 then (if 0 ≤ (wrap64 ((x291002.length : Int) - 1)) then (if (wrap64 ((x291002.length : Int) - 1)) < (x291002.length : Int) then ((ephemerisref1_ZoneYear.f k x1 ((rd_T43 x291002 (wrap64 ((x291002.length : Int) - 1))).f1) x15).bind fun t295 => (if x291002.length + t295.length < 4398046511104 then (ephemerislaw1_ForecastExtends.l0 k x1 x3 x12 (wrap64 (x15 + 1)) x285000 x285001 x285002 x291000 x291001 (x291002 ++ t295)) else (none))) else (none)) else (none)) else ((ephemerisref1_ZoneYear.f k x1 x291001 x15).bind fun t301 => (if x291002.length + t301.length < 4398046511104 then (ephemerislaw1_ForecastExtends.l0 k x1 x3 x12 (wrap64 (x15 + 1)) x285000 x285001 x285002 x291000 x291001 (x291002 ++ t301)) else (none)))) else ((ephemerisref1_ZoneError.f k x291000 x291001 x291002).bind fun t307 => (if t307 = 0 then (if x12 = 0 then ((ephemerisref1_SameZone.f k x285000 x285001 x285002 x291000 x291001 x291002).bind fun t308 => (some t308)) else (some false)) else ((ephemerisref1_SameZone.f k x285000 x285001 x285002 (⟨#[]⟩ : ByteArray) 0 ([] : List (S43))).bind fun t309 => (if t309 = true then (some (x12 == t307)) else (some false)))))
def ephemerislaw1_ForecastExtends.j2 : Nat → List (S92) → Int → Int → Int → Int → Bool → ByteArray → Int → List (S43) → ByteArray → Int → List (S43) → Option (Bool)
 | 0, _, _, _, _, _, _, _, _, _, _, _, _ => none
 | k + 1, x1, x2, x3, x12, x13, x58, x267000, x267001, x267002, x285000, x285001, x285002 => if x58 = true then (ephemerislaw1_ForecastExtends.j3 k x1 x2 x3 x12 3 x267000 x267001 x267002 x285000 x285001 x285002) else (if (wrap64 (x3 - x2)) > 50 then (ephemerislaw1_ForecastExtends.j3 k x1 x2 x3 x12 2 x267000 x267001 x267002 x285000 x285001 x285002) else (ephemerislaw1_ForecastExtends.j3 k x1 x2 x3 x12 x13 x267000 x267001 x267002 x285000 x285001 x285002))
end
def ephemerislaw1_ForecastExtends.f (k : Nat) (a0_0 : ByteArray) (a0_1 : Int) (l0_2 : List (S43)) (l1 : List (S92)) (a2 : Int) (a3 : Int) : Option (Bool) := (ephemerislaw1_summer.f).bind fun t267 => ((forecast_Extend.f k (⟨#[98, 97, 115, 101]⟩ : ByteArray) 3600000 ([] : List (S43)) t267 2024 2025).bind fun bt270 => (if bt270.2.2.2 = 0 then (if (bt270.2.2.1.length : Int) = 2 then (if 0 < (bt270.2.2.1.length : Int) then (ephemerislaw1_ForecastExtends.j0 k l1 a2 a3 (((rd_T43 bt270.2.2.1 0).f0) != 63847526400000) a0_0 a0_1 l0_2) else (none)) else (ephemerislaw1_ForecastExtends.j0 k l1 a2 a3 true a0_0 a0_1 l0_2)) else (ephemerislaw1_ForecastExtends.j0 k l1 a2 a3 true a0_0 a0_1 l0_2)))
theorem ephemerislaw1_ForecastExtends.mono_l : ∀ k, (∀ y0 y1 y2 y3 y4 y5 y6, LeO (ephemerislaw1_ForecastExtends.j0 k y0 y1 y2 y3 y4 y5 y6) (ephemerislaw1_ForecastExtends.j0 (k + 1) y0 y1 y2 y3 y4 y5 y6)) ∧ (∀ y0 y1 y2 y3 y4 y5 y6 y7 y8 y9 y10, LeO (ephemerislaw1_ForecastExtends.j1 k y0 y1 y2 y3 y4 y5 y6 y7 y8 y9 y10) (ephemerislaw1_ForecastExtends.j1 (k + 1) y0 y1 y2 y3 y4 y5 y6 y7 y8 y9 y10)) ∧ (∀ y0 y1 y2 y3 y4 y5 y6 y7 y8 y9 y10, LeO (ephemerislaw1_ForecastExtends.j3 k y0 y1 y2 y3 y4 y5 y6 y7 y8 y9 y10) (ephemerislaw1_ForecastExtends.j3 (k + 1) y0 y1 y2 y3 y4 y5 y6 y7 y8 y9 y10)) ∧ (∀ y0 y1 y2 y3 y4 y5 y6 y7 y8 y9, LeO (ephemerislaw1_ForecastExtends.l0 k y0 y1 y2 y3 y4 y5 y6 y7 y8 y9) (ephemerislaw1_ForecastExtends.l0 (k + 1) y0 y1 y2 y3 y4 y5 y6 y7 y8 y9)) ∧ (∀ y0 y1 y2 y3 y4 y5 y6 y7 y8 y9 y10 y11, LeO (ephemerislaw1_ForecastExtends.j2 k y0 y1 y2 y3 y4 y5 y6 y7 y8 y9 y10 y11) (ephemerislaw1_ForecastExtends.j2 (k + 1) y0 y1 y2 y3 y4 y5 y6 y7 y8 y9 y10 y11))
 | 0 => ⟨fun _ _ _ _ _ _ _ r h => by simp [ephemerislaw1_ForecastExtends.j0] at h, fun _ _ _ _ _ _ _ _ _ _ _ r h => by simp [ephemerislaw1_ForecastExtends.j1] at h, fun _ _ _ _ _ _ _ _ _ _ _ r h => by simp [ephemerislaw1_ForecastExtends.j3] at h, fun _ _ _ _ _ _ _ _ _ _ r h => by simp [ephemerislaw1_ForecastExtends.l0] at h, fun _ _ _ _ _ _ _ _ _ _ _ _ r h => by simp [ephemerislaw1_ForecastExtends.j2] at h⟩
 | k + 1 => by
  obtain ⟨ih0, ih1, ih2, ih3, ih4⟩ := ephemerislaw1_ForecastExtends.mono_l k
  refine ⟨?_, ?_, ?_, ?_, ?_⟩
  ·intro y0 y1 y2 y3 y4 y5 y6
   unfold ephemerislaw1_ForecastExtends.j0
   repeat' first
   | (with_reducible exact ih0 _ _ _ _ _ _ _)
   | (with_reducible exact ih1 _ _ _ _ _ _ _ _ _ _ _)
   | (with_reducible exact ih2 _ _ _ _ _ _ _ _ _ _ _)
   | (with_reducible exact ih3 _ _ _ _ _ _ _ _ _ _)
   | (with_reducible exact ih4 _ _ _ _ _ _ _ _ _ _ _ _)
   | (with_reducible exact ephemerisref1_SameZone.mono _ _ _ _ _ _ _)
   | (with_reducible exact ephemerisref1_ZoneError.mono _ _ _ _)
   | (with_reducible exact ephemerisref1_ZoneRulesError.mono _ _)
   | (with_reducible exact ephemerisref1_ZoneYear.mono _ _ _ _)
   | (with_reducible exact forecast_Extend.mono _ _ _ _ _ _ _)
   | (with_reducible exact LeO.refl _)
   | (with_reducible exact LeO.none _)
   | (with_reducible refine LeO.ite ?_ ?_)
   | (with_reducible refine LeO.bind ?_ (fun _ => ?_))
   | exact ih0 _ _ _ _ _ _ _
   | exact ih1 _ _ _ _ _ _ _ _ _ _ _
   | exact ih2 _ _ _ _ _ _ _ _ _ _ _
   | exact ih3 _ _ _ _ _ _ _ _ _ _
   | exact ih4 _ _ _ _ _ _ _ _ _ _ _ _
   | exact ephemerisref1_SameZone.mono _ _ _ _ _ _ _
   | exact ephemerisref1_ZoneError.mono _ _ _ _
   | exact ephemerisref1_ZoneRulesError.mono _ _
   | exact ephemerisref1_ZoneYear.mono _ _ _ _
   | exact forecast_Extend.mono _ _ _ _ _ _ _
   | exact LeO.none _
   | refine LeO.ite ?_ ?_
   | refine LeO.bind ?_ (fun _ => ?_)
  ·intro y0 y1 y2 y3 y4 y5 y6 y7 y8 y9 y10
   unfold ephemerislaw1_ForecastExtends.j1
   repeat' first
   | (with_reducible exact ih0 _ _ _ _ _ _ _)
   | (with_reducible exact ih1 _ _ _ _ _ _ _ _ _ _ _)
   | (with_reducible exact ih2 _ _ _ _ _ _ _ _ _ _ _)
   | (with_reducible exact ih3 _ _ _ _ _ _ _ _ _ _)
   | (with_reducible exact ih4 _ _ _ _ _ _ _ _ _ _ _ _)
   | (with_reducible exact ephemerisref1_SameZone.mono _ _ _ _ _ _ _)
   | (with_reducible exact ephemerisref1_ZoneError.mono _ _ _ _)
   | (with_reducible exact ephemerisref1_ZoneRulesError.mono _ _)
   | (with_reducible exact ephemerisref1_ZoneYear.mono _ _ _ _)
   | (with_reducible exact forecast_Extend.mono _ _ _ _ _ _ _)
   | (with_reducible exact LeO.refl _)
   | (with_reducible exact LeO.none _)
   | (with_reducible refine LeO.ite ?_ ?_)
   | (with_reducible refine LeO.bind ?_ (fun _ => ?_))
   | exact ih0 _ _ _ _ _ _ _
   | exact ih1 _ _ _ _ _ _ _ _ _ _ _
   | exact ih2 _ _ _ _ _ _ _ _ _ _ _
   | exact ih3 _ _ _ _ _ _ _ _ _ _
   | exact ih4 _ _ _ _ _ _ _ _ _ _ _ _
   | exact ephemerisref1_SameZone.mono _ _ _ _ _ _ _
   | exact ephemerisref1_ZoneError.mono _ _ _ _
   | exact ephemerisref1_ZoneRulesError.mono _ _
   | exact ephemerisref1_ZoneYear.mono _ _ _ _
   | exact forecast_Extend.mono _ _ _ _ _ _ _
   | exact LeO.none _
   | refine LeO.ite ?_ ?_
   | refine LeO.bind ?_ (fun _ => ?_)
  ·intro y0 y1 y2 y3 y4 y5 y6 y7 y8 y9 y10
   unfold ephemerislaw1_ForecastExtends.j3
   repeat' first
   | (with_reducible exact ih0 _ _ _ _ _ _ _)
   | (with_reducible exact ih1 _ _ _ _ _ _ _ _ _ _ _)
   | (with_reducible exact ih2 _ _ _ _ _ _ _ _ _ _ _)
   | (with_reducible exact ih3 _ _ _ _ _ _ _ _ _ _)
   | (with_reducible exact ih4 _ _ _ _ _ _ _ _ _ _ _ _)
   | (with_reducible exact ephemerisref1_SameZone.mono _ _ _ _ _ _ _)
   | (with_reducible exact ephemerisref1_ZoneError.mono _ _ _ _)
   | (with_reducible exact ephemerisref1_ZoneRulesError.mono _ _)
   | (with_reducible exact ephemerisref1_ZoneYear.mono _ _ _ _)
   | (with_reducible exact forecast_Extend.mono _ _ _ _ _ _ _)
   | (with_reducible exact LeO.refl _)
   | (with_reducible exact LeO.none _)
   | (with_reducible refine LeO.ite ?_ ?_)
   | (with_reducible refine LeO.bind ?_ (fun _ => ?_))
   | exact ih0 _ _ _ _ _ _ _
   | exact ih1 _ _ _ _ _ _ _ _ _ _ _
   | exact ih2 _ _ _ _ _ _ _ _ _ _ _
   | exact ih3 _ _ _ _ _ _ _ _ _ _
   | exact ih4 _ _ _ _ _ _ _ _ _ _ _ _
   | exact ephemerisref1_SameZone.mono _ _ _ _ _ _ _
   | exact ephemerisref1_ZoneError.mono _ _ _ _
   | exact ephemerisref1_ZoneRulesError.mono _ _
   | exact ephemerisref1_ZoneYear.mono _ _ _ _
   | exact forecast_Extend.mono _ _ _ _ _ _ _
   | exact LeO.none _
   | refine LeO.ite ?_ ?_
   | refine LeO.bind ?_ (fun _ => ?_)
  ·intro y0 y1 y2 y3 y4 y5 y6 y7 y8 y9
   unfold ephemerislaw1_ForecastExtends.l0
   repeat' first
   | (with_reducible exact ih0 _ _ _ _ _ _ _)
   | (with_reducible exact ih1 _ _ _ _ _ _ _ _ _ _ _)
   | (with_reducible exact ih2 _ _ _ _ _ _ _ _ _ _ _)
   | (with_reducible exact ih3 _ _ _ _ _ _ _ _ _ _)
   | (with_reducible exact ih4 _ _ _ _ _ _ _ _ _ _ _ _)
   | (with_reducible exact ephemerisref1_SameZone.mono _ _ _ _ _ _ _)
   | (with_reducible exact ephemerisref1_ZoneError.mono _ _ _ _)
   | (with_reducible exact ephemerisref1_ZoneRulesError.mono _ _)
   | (with_reducible exact ephemerisref1_ZoneYear.mono _ _ _ _)
   | (with_reducible exact forecast_Extend.mono _ _ _ _ _ _ _)
   | (with_reducible exact LeO.refl _)
   | (with_reducible exact LeO.none _)
   | (with_reducible refine LeO.ite ?_ ?_)
   | (with_reducible refine LeO.bind ?_ (fun _ => ?_))
   | exact ih0 _ _ _ _ _ _ _
   | exact ih1 _ _ _ _ _ _ _ _ _ _ _
   | exact ih2 _ _ _ _ _ _ _ _ _ _ _
   | exact ih3 _ _ _ _ _ _ _ _ _ _
   | exact ih4 _ _ _ _ _ _ _ _ _ _ _ _
   | exact ephemerisref1_SameZone.mono _ _ _ _ _ _ _
   | exact ephemerisref1_ZoneError.mono _ _ _ _
   | exact ephemerisref1_ZoneRulesError.mono _ _
   | exact ephemerisref1_ZoneYear.mono _ _ _ _
   | exact forecast_Extend.mono _ _ _ _ _ _ _
   | exact LeO.none _
   | refine LeO.ite ?_ ?_
   | refine LeO.bind ?_ (fun _ => ?_)
  ·intro y0 y1 y2 y3 y4 y5 y6 y7 y8 y9 y10 y11
   unfold ephemerislaw1_ForecastExtends.j2
   repeat' first
   | (with_reducible exact ih0 _ _ _ _ _ _ _)
   | (with_reducible exact ih1 _ _ _ _ _ _ _ _ _ _ _)
   | (with_reducible exact ih2 _ _ _ _ _ _ _ _ _ _ _)
   | (with_reducible exact ih3 _ _ _ _ _ _ _ _ _ _)
   | (with_reducible exact ih4 _ _ _ _ _ _ _ _ _ _ _ _)
   | (with_reducible exact ephemerisref1_SameZone.mono _ _ _ _ _ _ _)
   | (with_reducible exact ephemerisref1_ZoneError.mono _ _ _ _)
   | (with_reducible exact ephemerisref1_ZoneRulesError.mono _ _)
   | (with_reducible exact ephemerisref1_ZoneYear.mono _ _ _ _)
   | (with_reducible exact forecast_Extend.mono _ _ _ _ _ _ _)
   | (with_reducible exact LeO.refl _)
   | (with_reducible exact LeO.none _)
   | (with_reducible refine LeO.ite ?_ ?_)
   | (with_reducible refine LeO.bind ?_ (fun _ => ?_))
   | exact ih0 _ _ _ _ _ _ _
   | exact ih1 _ _ _ _ _ _ _ _ _ _ _
   | exact ih2 _ _ _ _ _ _ _ _ _ _ _
   | exact ih3 _ _ _ _ _ _ _ _ _ _
   | exact ih4 _ _ _ _ _ _ _ _ _ _ _ _
   | exact ephemerisref1_SameZone.mono _ _ _ _ _ _ _
   | exact ephemerisref1_ZoneError.mono _ _ _ _
   | exact ephemerisref1_ZoneRulesError.mono _ _
   | exact ephemerisref1_ZoneYear.mono _ _ _ _
   | exact forecast_Extend.mono _ _ _ _ _ _ _
   | exact LeO.none _
   | refine LeO.ite ?_ ?_
   | refine LeO.bind ?_ (fun _ => ?_)
theorem ephemerislaw1_ForecastExtends.mono : ∀ a0 a1 a2 a3 a4 a5 k, LeO (ephemerislaw1_ForecastExtends.f k a0 a1 a2 a3 a4 a5) (ephemerislaw1_ForecastExtends.f (k + 1) a0 a1 a2 a3 a4 a5) := by
 intro a0 a1 a2 a3 a4 a5 k
 obtain ⟨ih0, ih1, ih2, ih3, ih4⟩ := ephemerislaw1_ForecastExtends.mono_l k
 unfold ephemerislaw1_ForecastExtends.f
 repeat' first
   | (with_reducible exact ih0 _ _ _ _ _ _ _)
   | (with_reducible exact ih1 _ _ _ _ _ _ _ _ _ _ _)
   | (with_reducible exact ih2 _ _ _ _ _ _ _ _ _ _ _)
   | (with_reducible exact ih3 _ _ _ _ _ _ _ _ _ _)
   | (with_reducible exact ih4 _ _ _ _ _ _ _ _ _ _ _ _)
   | (with_reducible exact ephemerisref1_SameZone.mono _ _ _ _ _ _ _)
   | (with_reducible exact ephemerisref1_ZoneError.mono _ _ _ _)
   | (with_reducible exact ephemerisref1_ZoneRulesError.mono _ _)
   | (with_reducible exact ephemerisref1_ZoneYear.mono _ _ _ _)
   | (with_reducible exact forecast_Extend.mono _ _ _ _ _ _ _)
   | (with_reducible exact LeO.refl _)
   | (with_reducible exact LeO.none _)
   | (with_reducible refine LeO.ite ?_ ?_)
   | (with_reducible refine LeO.bind ?_ (fun _ => ?_))
   | exact ih0 _ _ _ _ _ _ _
   | exact ih1 _ _ _ _ _ _ _ _ _ _ _
   | exact ih2 _ _ _ _ _ _ _ _ _ _ _
   | exact ih3 _ _ _ _ _ _ _ _ _ _
   | exact ih4 _ _ _ _ _ _ _ _ _ _ _ _
   | exact ephemerisref1_SameZone.mono _ _ _ _ _ _ _
   | exact ephemerisref1_ZoneError.mono _ _ _ _
   | exact ephemerisref1_ZoneRulesError.mono _ _
   | exact ephemerisref1_ZoneYear.mono _ _ _ _
   | exact forecast_Extend.mono _ _ _ _ _ _ _
   | exact LeO.none _
   | refine LeO.ite ?_ ?_
   | refine LeO.bind ?_ (fun _ => ?_)
def ephemerislaw1_ForecastExtends.T24 : Bool × List (List Nat × List Nat) := (true, [([], []), ([0], [0]), ([], []), ([], []), ([], []), ([2, 3, 4], [2, 3, 4]), ([1, 5, 5], [1, 5]), ([0, 1, 2, 3, 4, 5, 6], []), ([7, 6, 6, 0, 1, 2, 3, 4, 5, 6], [6, 7])])
def ephemerislaw1_ForecastExtends.B24 : List Nat := [0, 1, 0, 0, 0, 28, 63, 127, 255]
theorem ephemerislaw1_ForecastExtends.tab24 : rtab .any (opsOf Tryd.f4 24) = ephemerislaw1_ForecastExtends.T24 := by kernel_rfl
theorem ephemerislaw1_ForecastExtends.bits24 : waitsOk ephemerislaw1_ForecastExtends.T24.2 ephemerislaw1_ForecastExtends.B24 = true := by kernel_rfl
set_option maxHeartbeats 8000000 in
set_option maxRecDepth 100000 in
theorem ephemerislaw1_ForecastExtends.calls (k : Nat) (a0_0 : ByteArray) (a0_1 : Int) (A0_2 : Option Addr) (c0_2 : Nat) (l0_2 : List (S43)) (A1 : Option Addr) (c1 : Nat) (l1 : List (S92)) (a2 : Int) (a3 : Int) (r : Bool) (w : World) (hr0_2 : Kd.C k43 w A0_2 l0_2.length l0_2) (hc0_2 : l0_2.length ≤ c0_2) (hr1 : Kd.C k92 w A1 l1.length l1) (hc1 : l1.length ≤ c1) (h : ephemerislaw1_ForecastExtends.f k a0_0 a0_1 l0_2 l1 a2 a3 = some r) :
  Calls Tryd.prog 4 #[.agg #[.string a0_0, .int .i64 a0_1, .slice A0_2 l0_2.length c0_2], .slice A1 l1.length c1, .int .i64 a2, .int .i64 a3] w fun e w' => e = .returned (.bool r) ∧ Below w.heap.size w w' := by
 have hu24 := Tryd.underlying24
 have HR0_2 := Aside0.mk hr0_2
 have HC0_2 := Aside0.mk hc0_2
 clear hr0_2 hc0_2
 have HR1 := Aside0.mk hr1
 have HC1 := Aside0.mk hc1
 clear hr1 hc1
 have HB := Aside0.mk (Below.refl w.heap.size w)
 have H : ((ephemerislaw1_summer.f).bind fun t267 => ((forecast_Extend.f k (⟨#[98, 97, 115, 101]⟩ : ByteArray) 3600000 ([] : List (S43)) t267 2024 2025).bind fun bt270 => (if bt270.2.2.2 = 0 then (if (bt270.2.2.1.length : Int) = 2 then (if 0 < (bt270.2.2.1.length : Int) then (ephemerislaw1_ForecastExtends.j0 k l1 a2 a3 (((rd_T43 bt270.2.2.1 0).f0) != 63847526400000) a0_0 a0_1 l0_2) else (none)) else (ephemerislaw1_ForecastExtends.j0 k l1 a2 a3 true a0_0 a0_1 l0_2)) else (ephemerislaw1_ForecastExtends.j0 k l1 a2 a3 true a0_0 a0_1 l0_2)))) = some r := h
 clear h
 replace H := Option.bind_eq_some_iff.mp H
 obtain ⟨t267, A50, H⟩ := H
 replace H : ((forecast_Extend.f k (⟨#[98, 97, 115, 101]⟩ : ByteArray) 3600000 ([] : List (S43)) t267 2024 2025).bind fun bt270 => (if bt270.2.2.2 = 0 then (if (bt270.2.2.1.length : Int) = 2 then (if 0 < (bt270.2.2.1.length : Int) then (ephemerislaw1_ForecastExtends.j0 k l1 a2 a3 (((rd_T43 bt270.2.2.1 0).f0) != 63847526400000) a0_0 a0_1 l0_2) else (none)) else (ephemerislaw1_ForecastExtends.j0 k l1 a2 a3 true a0_0 a0_1 l0_2)) else (ephemerislaw1_ForecastExtends.j0 k l1 a2 a3 true a0_0 a0_1 l0_2))) = some r := H
 have A5 := Aside0.mk A50
 clear A50
 replace H := Option.bind_eq_some_iff.mp H
 obtain ⟨⟨t270, t271, t272, t275⟩, A60, H⟩ := H
 replace H : (if t275 = 0 then (if (t272.length : Int) = 2 then (if 0 < (t272.length : Int) then (ephemerislaw1_ForecastExtends.j0 k l1 a2 a3 (((rd_T43 t272 0).f0) != 63847526400000) a0_0 a0_1 l0_2) else (none)) else (ephemerislaw1_ForecastExtends.j0 k l1 a2 a3 true a0_0 a0_1 l0_2)) else (ephemerislaw1_ForecastExtends.j0 k l1 a2 a3 true a0_0 a0_1 l0_2)) = some r := H
 have A6 := Aside0.mk A60
 clear A60
 have HC7 := Aside0.mk H
 clear H
 go_enter Tryd.func4, Tryd.ntmps4
 go_upto_region 2 with (first | ((with_reducible refine gate_dst (N := 4) rfl ?_); (try (refine gate_guard (by rfl) ?_; dsimp only)); refine box_event ?hg (N := 4) ?hd (cs := #[.string a0_0, .int .i64 a0_1, .slice A0_2 l0_2.length c0_2]) (t := 24) ?hr ?_; (case hd => rfl); (case hg => rfl); (case hr => first | (go_simp; done) | (go_simp; rfl)); intro gb266 hg w8 hbox hb; have n0_ := Aside0.mk (below_step be hb); have n1_ := Aside0.mk (hbox); have n2_ := gs hg HB; have n3_ := n2_; clear HB; have HB := n0_; have BK266 := n1_; have GW266 := n2_; have GE266 := n3_; clear n0_ n1_ n2_ n3_; clear hb hbox hg) | ((with_reducible refine gate_callee (f := 19) rfl ?_); refine goesL_ (some 21) rfl rfl Tryd.func19 kx rfl #[] rfl aa ?_; (with_reducible refine (ephemerislaw1_summer.calls  t267 _ A5.out).mono ?_); rintro e w9 ⟨v268, rfl, ho0, hb⟩; refine ⟨_, rfl, ?_⟩; have n0_ := Aside0.mk (Kd.R_lower ho0 (below_size be)); have n1_ := bb BK266 hb; have n2_ := Aside0.mk (below_step be hb); clear BK266; clear HB; have HO269 := n0_; have BK266 := n1_; have HB := n2_; clear n0_ n1_ n2_; (try clear hb); (try clear hb2); (try clear hk); (try clear hi); (try clear ho0); obtain ⟨Ao10, co10, eo10⟩ := Kd.R_slice HO269.out; subst eo10) | ((with_reducible refine gate_callee (f := 18) rfl ?_); refine goesL_ (some 22) rfl rfl Tryd.func18 kx rfl #[.agg #[.string (⟨#[98, 97, 115, 101]⟩ : ByteArray), .int .i64 3600000, .slice none 0 0], .slice Ao10 t267.length co10, .int .i64 2024, .int .i64 2025] rfl aa ?_; (refine (forecast_Extend.calls k (⟨#[98, 97, 115, 101]⟩ : ByteArray) 3600000 _ _ ([] : List (S43)) _ _ t267 2024 2025 t270 t271 t272 t275 _ ?side1 ?side2 ?side3 ?side4 A6.out).mono ?_); (case side1 => exact Kd.C_nil _ _); (case side2 => exact Nat.le_refl _); (case side3 => repeat (first | exact (Kd.R_reads' HO269.out).2.2 | (with_reducible refine Kd.C_alloc ?_ _) | (with_reducible refine Kd.C_drewN ?_ _) | (with_reducible refine Kd.C_drew ?_))); (case side4 => exact (Kd.R_reads' HO269.out).2.1); rintro e w11 ⟨v273, rfl, ho0, hb⟩; refine ⟨_, rfl, ?_⟩; have n0_ := Aside0.mk (Kd.R_below (by (with_reducible repeat (first | apply Kd.R_alloc | apply Kd.R_drewN | apply Kd.R_drew)); exact HO269.out) hb); have n1_ := Aside0.mk (Kd.R_lower ho0 (below_size be)); have n2_ := bb BK266 hb; have n3_ := Aside0.mk (below_step be hb); clear HO269; clear BK266; clear HB; have HO269 := n0_; have HO274 := n1_; have BK266 := n2_; have HB := n3_; clear n0_ n1_ n2_ n3_; (try clear hb); (try clear hb2); (try clear hk); (try clear hi); (try clear ho0)) | ((with_reducible refine gate_dst (N := 9) rfl ?_); (try (refine gate_guard (by rfl) ?_; dsimp only)); refine box_event ?hg (N := 9) ?hd (cs := #[.string (⟨#[]⟩ : ByteArray), .int .i64 0, .slice none 0 0]) (t := 24) ?hr ?_; (case hd => rfl); (case hg => rfl); (case hr => first | (go_simp; done) | (go_simp; rfl)); intro gb276 hg w12 hbox hb; have n0_ := Aside0.mk (Kd.R_below (by (with_reducible repeat (first | apply Kd.R_alloc | apply Kd.R_drewN | apply Kd.R_drew)); exact HO269.out) hb); have n1_ := Aside0.mk (Kd.R_below (by (with_reducible repeat (first | apply Kd.R_alloc | apply Kd.R_drewN | apply Kd.R_drew)); exact HO274.out) hb); have n2_ := bb BK266 hb; have n3_ := Aside0.mk (below_step be hb); have n4_ := Aside0.mk (hbox); have n5_ := gs hg HB; have n6_ := n5_; have n7_ := nl BK266 hg; have n8_ := ns n7_; clear HO269; clear HO274; clear BK266; clear HB; have HO269 := n0_; have HO274 := n1_; have BK266 := n2_; have HB := n3_; have BK276 := n4_; have GW276 := n5_; have GE276 := n6_; have NB266_276 := n7_; have NB276_266 := n8_; clear n0_ n1_ n2_ n3_ n4_ n5_ n6_ n7_ n8_; clear hb hbox hg; have hnb13 := NB276_266.out; have hnc13 := NB266_276.out; obtain ⟨hcz14_0, hcz14_1, hcz14_2, hfz14_0, hfz14_1, hfz14_2⟩ := bc3 BK276; obtain ⟨Ao15, co15, eo15⟩ := Kd.R_slice HO274.out; subst eo15))
 (try simp only [Act.put, List.setIfInBounds_toArray, List.set_cons_zero, List.set_cons_succ])
 go_cut [40] (fun v40 wc => ∃ (kq : Nat) (x40_6 : Bool), v40 = .bool x40_6 ∧ Aside0 (ephemerislaw1_ForecastExtends.j0 kq l1 a2 a3 x40_6 a0_0 a0_1 l0_2 = some r) ∧ Aside0 (kq ≤ k) ∧ Aside0 (Kd.R k43 43 wc w.heap.size (fun _ => True) (.slice Ao15 t272.length co15) t272) ∧ Aside0 (wc.heap[gb266]? = some (.cells #[.string a0_0, .int .i64 a0_1, (.slice A0_2 l0_2.length c0_2)] 24 (0, 0))) ∧ Aside0 (wc.heap[gb276]? = some (.cells #[.string t270, .int .i64 t271, (.slice Ao15 t272.length co15)] 24 (0, 0))) ∧ Aside0 (Below w.heap.size w wc))
 case first =>
  have H := HC7.out
  clear HC7
  by_cases c16 : t275 = 0
  ·rw [if_pos c16] at H
   have c16b0 : (t275 == 0) = true := beq_iff_eq.mpr c16
   have c16b1 : (t275 != 0) = false := bne_eq_false_iff_eq.mpr c16
   clear c16
   (first | rw [c16b0] | (simp only [i64_w, i32_w]; rw [c16b0]) | skip)
   by_cases c17 : (t272.length : Int) = 2
   ·rw [if_pos c17] at H
    have c17b0 : ((t272.length : Int) == 2) = true := beq_iff_eq.mpr c17
    have c17b1 : ((t272.length : Int) != 2) = false := bne_eq_false_iff_eq.mpr c17
    clear c17
    by_cases c18 : 0 < (t272.length : Int)
    ·rw [if_pos c18] at H
     have c18b0 : decide (0 < (t272.length : Int)) = true := decide_eq_true c18
     have c18b1 : decide (0 < t272.length) = true := decide_eq_true (by omega)
     clear c18
     have H' := Aside0.mk H
     clear H
     have hnb19 := NB276_266.out
     have hnc19 := NB266_276.out
     obtain ⟨hcz20_0, hcz20_1, hcz20_2, hfz20_0, hfz20_1, hfz20_2⟩ := bc3 BK276
     have p277 : 0 ≤ (0 : Int) := (by omega)
     have q277 : 0 < (t272.length : Int) := of_decide_eq_true ka
     obtain ⟨ad277, e277, hx277_0, hx277_1, hx277_2⟩ := at_T43 (Kd.R_reads' HO274.out).2.2 0 p277 q277
     cases e277
     have qi277 : (0 < t272.length) = True := eq_true (by omega)
     (try rw [show ((0 : Int)).toNat = 0 from rfl] at hx277_0)
     (try rw [show 0 * 3 = 0 from rfl] at hx277_0)
     (try rw [Addr.add_zero'] at hx277_0)
     (try rw [show ((0 : Int)).toNat = 0 from rfl] at hx277_1)
     (try rw [show 0 * 3 = 0 from rfl] at hx277_1)
     (try rw [Addr.add_zero'] at hx277_1)
     (try rw [show ((0 : Int)).toNat = 0 from rfl] at hx277_2)
     (try rw [show 0 * 3 = 0 from rfl] at hx277_2)
     (try rw [Addr.add_zero'] at hx277_2)
     have hn277_0 : ad277.block ≠ gb276 := Kd.own_blk (Kd.R_ne HO274.out BK276.out (by decide))
     have hn277_1 : ad277.block ≠ gb276 := Kd.own_blk (Kd.R_ne HO274.out BK276.out (by decide))
     have hn277_2 : ad277.block ≠ gb276 := Kd.own_blk (Kd.R_ne HO274.out BK276.out (by decide))
     replace hx277_0 := (cell_far (p := ⟨gb276, 0, none⟩) (by first | (rw [add_block]; exact hn277_0) | (show (Addr.add _ _).block ≠ _; rw [add_block]; exact hn277_0) | exact hn277_0) (.string t270)).trans hx277_0
     replace hx277_1 := (cell_far (p := ⟨gb276, 0, none⟩) (by first | (rw [add_block]; exact hn277_0) | (show (Addr.add _ _).block ≠ _; rw [add_block]; exact hn277_0) | exact hn277_0) (.string t270)).trans hx277_1
     replace hx277_2 := (cell_far (p := ⟨gb276, 0, none⟩) (by first | (rw [add_block]; exact hn277_0) | (show (Addr.add _ _).block ≠ _; rw [add_block]; exact hn277_0) | exact hn277_0) (.string t270)).trans hx277_2
     replace hx277_0 := (cell_far (p := ⟨gb276, 1, none⟩) (by first | (rw [add_block]; exact hn277_1) | (show (Addr.add _ _).block ≠ _; rw [add_block]; exact hn277_1) | exact hn277_1) (.int .i64 t271)).trans hx277_0
     replace hx277_1 := (cell_far (p := ⟨gb276, 1, none⟩) (by first | (rw [add_block]; exact hn277_1) | (show (Addr.add _ _).block ≠ _; rw [add_block]; exact hn277_1) | exact hn277_1) (.int .i64 t271)).trans hx277_1
     replace hx277_2 := (cell_far (p := ⟨gb276, 1, none⟩) (by first | (rw [add_block]; exact hn277_1) | (show (Addr.add _ _).block ≠ _; rw [add_block]; exact hn277_1) | exact hn277_1) (.int .i64 t271)).trans hx277_2
     replace hx277_0 := (cell_far (p := ⟨gb276, 2, none⟩) (by first | (rw [add_block]; exact hn277_2) | (show (Addr.add _ _).block ≠ _; rw [add_block]; exact hn277_2) | exact hn277_2) (.slice (some ad277) t272.length co15)).trans hx277_0
     replace hx277_1 := (cell_far (p := ⟨gb276, 2, none⟩) (by first | (rw [add_block]; exact hn277_2) | (show (Addr.add _ _).block ≠ _; rw [add_block]; exact hn277_2) | exact hn277_2) (.slice (some ad277) t272.length co15)).trans hx277_1
     replace hx277_2 := (cell_far (p := ⟨gb276, 2, none⟩) (by first | (rw [add_block]; exact hn277_2) | (show (Addr.add _ _).block ≠ _; rw [add_block]; exact hn277_2) | exact hn277_2) (.slice (some ad277) t272.length co15)).trans hx277_2
     clear hn277_0
     clear hn277_1
     clear hn277_2
     replace p277 := eq_true p277
     replace q277 := eq_true q277
     go_wp2
     go_meet
     case rel => exact ⟨_, ((((rd_T43 t272 0).f0) != 63847526400000)), rs, H', ⟨by first | omega | exact Nat.le_refl _⟩, ⟨by (with_reducible repeat (first | apply Kd.R_alloc | apply Kd.R_drewN | apply Kd.R_drew)); exact Kd.R_mono (Kd.R_far (p := ⟨gb276, 2, none⟩) (Kd.R_far (p := ⟨gb276, 1, none⟩) (Kd.R_far (p := ⟨gb276, 0, none⟩) (Kd.R_types HO274.out BK276.out (by decide)) (fun _ hk => hk.2) (.string t270)) (fun _ hk => hk.2) (.int .i64 t271)) (fun _ hk => hk.2) (.slice (some ad277) t272.length co15)) (fun _ hk => trivial)⟩, ⟨bk BK266⟩, ⟨bk BK276⟩, ⟨be⟩⟩
    ·rw [if_neg c18] at H
     exact absurd H (by simp)
   ·rw [if_neg c17] at H
    have c17b0 : ((t272.length : Int) == 2) = false := beq_eq_false_iff_ne.mpr c17
    have c17b1 : ((t272.length : Int) != 2) = true := bne_iff_ne.mpr c17
    have H' := Aside0.mk H
    clear H
    have hnb21 := NB276_266.out
    have hnc21 := NB266_276.out
    obtain ⟨hcz22_0, hcz22_1, hcz22_2, hfz22_0, hfz22_1, hfz22_2⟩ := bc3 BK276
    go_wp2
    go_meet
    case rel => exact ⟨_, (true), rs, H', ⟨by first | omega | exact Nat.le_refl _⟩, ⟨by (with_reducible repeat (first | apply Kd.R_alloc | apply Kd.R_drewN | apply Kd.R_drew)); exact Kd.R_mono (Kd.R_far (p := ⟨gb276, 2, none⟩) (Kd.R_far (p := ⟨gb276, 1, none⟩) (Kd.R_far (p := ⟨gb276, 0, none⟩) (Kd.R_types HO274.out BK276.out (by decide)) (fun _ hk => hk.2) (.string t270)) (fun _ hk => hk.2) (.int .i64 t271)) (fun _ hk => hk.2) (.slice Ao15 t272.length co15)) (fun _ hk => trivial)⟩, ⟨bk BK266⟩, ⟨bk BK276⟩, ⟨be⟩⟩
  ·rw [if_neg c16] at H
   have c16b0 : (t275 == 0) = false := beq_eq_false_iff_ne.mpr c16
   have c16b1 : (t275 != 0) = true := bne_iff_ne.mpr c16
   (first | rw [c16b0] | (simp only [i64_w, i32_w]; rw [c16b0]) | skip)
   have H' := Aside0.mk H
   clear H
   go_wp2
   go_meet
   case rel => exact ⟨_, (true), rs, H', ⟨by first | omega | exact Nat.le_refl _⟩, ⟨by (with_reducible repeat (first | apply Kd.R_alloc | apply Kd.R_drewN | apply Kd.R_drew)); exact Kd.R_mono (Kd.R_far (p := ⟨gb276, 2, none⟩) (Kd.R_far (p := ⟨gb276, 1, none⟩) (Kd.R_far (p := ⟨gb276, 0, none⟩) (Kd.R_types HO274.out BK276.out (by decide)) (fun _ hk => hk.2) (.string t270)) (fun _ hk => hk.2) (.int .i64 t271)) (fun _ hk => hk.2) (.slice Ao15 t272.length co15)) (fun _ hk => trivial)⟩, ⟨bk BK266⟩, ⟨bk BK276⟩, ⟨be⟩⟩
 case rest =>
  clear HC7
  (try clear c1); (try clear c2); (try clear p2); (try clear q2); (try clear hx2); (try clear qi2); (try clear c4); (try clear c13); (try clear c16); (try clear c16b0); (try clear c16b1); (try clear c17); (try clear c17b0); (try clear c17b1); (try clear c18); (try clear c18b0); (try clear c18b1); (try clear c19); (try clear c21); (try clear hcz14_0); (try clear hcz14_1); (try clear hcz14_2); (try clear hcz20_0); (try clear hcz20_1); (try clear hcz20_2); (try clear hcz22_0); (try clear hcz22_1); (try clear hcz22_2); (try clear hfz14_0); (try clear hfz14_1); (try clear hfz14_2); (try clear hfz20_0); (try clear hfz20_1); (try clear hfz20_2); (try clear hfz22_0); (try clear hfz22_1); (try clear hfz22_2); (try clear hx277_0); (try clear hx277_1); (try clear hx277_2); (try clear p277); (try clear q277)
  obtain ⟨kq, x40_6, rfl, HA, HJ6, HO_277002, BK266, BK276, HB⟩ := hcut
  cases kq with
  | zero => exact absurd HA.out (by simp [ephemerislaw1_ForecastExtends.j0])
  | succ kj6 =>
   have H := HA.out
   clear HA
   simp only [ephemerislaw1_ForecastExtends.j0] at H
   by_cases c23 : x40_6 = true
   ·subst c23
    have H1 : (some false) = some r := by rw [if_pos rfl] at H; exact H
    clear H
    have H := H1
    clear H1
    obtain rfl := Option.some.inj H
    go_wp2
    go_ret
    exact ⟨by first | rfl | (simp [errW_none, errW_some] <;> rfl) | (simp [*, errW_none, errW_some] <;> rfl), be⟩
   ·replace c23 := Bool.eq_false_iff.mpr c23
    subst c23
    have H1 : ((forecast_Extend.f kj6 a0_0 a0_1 l0_2 l1 a2 a3).bind fun bt278 => ((ephemerisref1_ZoneRulesError.f kj6 l1).bind fun t285 => (if t285 = 0 then ((ephemerisref1_ZoneError.f kj6 a0_0 a0_1 l0_2).bind fun t286 => (ephemerislaw1_ForecastExtends.j1 kj6 l1 a2 a3 bt278.2.2.2 t286 a0_0 a0_1 l0_2 bt278.1 bt278.2.1 bt278.2.2.1)) else (ephemerislaw1_ForecastExtends.j1 kj6 l1 a2 a3 bt278.2.2.2 t285 a0_0 a0_1 l0_2 bt278.1 bt278.2.1 bt278.2.2.1)))) = some r := by rw [if_neg (show ¬ (false = true) by decide)] at H; exact H
    clear H
    have H := H1
    clear H1
    replace H := Option.bind_eq_some_iff.mp H
    obtain ⟨⟨t278, t279, t280, t283⟩, A240, H⟩ := H
    replace H : ((ephemerisref1_ZoneRulesError.f kj6 l1).bind fun t285 => (if t285 = 0 then ((ephemerisref1_ZoneError.f kj6 a0_0 a0_1 l0_2).bind fun t286 => (ephemerislaw1_ForecastExtends.j1 kj6 l1 a2 a3 t283 t286 a0_0 a0_1 l0_2 t278 t279 t280)) else (ephemerislaw1_ForecastExtends.j1 kj6 l1 a2 a3 t283 t285 a0_0 a0_1 l0_2 t278 t279 t280))) = some r := H
    have A24 := Aside0.mk A240
    clear A240
    replace H := Option.bind_eq_some_iff.mp H
    obtain ⟨t285, A250, H⟩ := H
    replace H : (if t285 = 0 then ((ephemerisref1_ZoneError.f kj6 a0_0 a0_1 l0_2).bind fun t286 => (ephemerislaw1_ForecastExtends.j1 kj6 l1 a2 a3 t283 t286 a0_0 a0_1 l0_2 t278 t279 t280)) else (ephemerislaw1_ForecastExtends.j1 kj6 l1 a2 a3 t283 t285 a0_0 a0_1 l0_2 t278 t279 t280)) = some r := H
    have A25 := Aside0.mk A250
    clear A250
    have HC26 := Aside0.mk H
    clear H
    have hnb27 := NB266_276.out
    have hnc27 := NB276_266.out
    obtain ⟨hcz28_0, hcz28_1, hcz28_2, hfz28_0, hfz28_1, hfz28_2⟩ := bc3 BK266
    go_upto_if 52 with (first | ((with_reducible refine gate_callee (f := 18) rfl ?_); refine goesL_ (some 46) rfl rfl Tryd.func18 kx rfl #[.agg #[.string a0_0, .int .i64 a0_1, .slice A0_2 l0_2.length c0_2], .slice A1 l1.length c1, .int .i64 a2, .int .i64 a3] rfl aa ?_; (with_reducible refine (forecast_Extend.calls kj6 a0_0 a0_1 _ _ l0_2 _ _ l1 a2 a3 t278 t279 t280 t283 _ ?side1 ?side2 ?side3 ?side4 A24.out).mono ?_); (case side1 => exact kc (Kd.C_below HR0_2.out HB.out)); (case side2 => exact HC0_2.out); (case side3 => exact kc (Kd.C_below HR1.out HB.out)); (case side4 => exact HC1.out); rintro e w29 ⟨v281, rfl, ho0, hb⟩; refine ⟨_, rfl, ?_⟩; have n0_ := Aside0.mk (Kd.R_elder' (by (with_reducible repeat (first | apply Kd.R_alloc | apply Kd.R_drewN | apply Kd.R_drew)); exact HO_277002.out) (Kd.R_base ho0) hb); have n1_ := Aside0.mk (Kd.R_lower (Kd.R_new' ho0 (Kd.R_lt (by (with_reducible repeat (first | apply Kd.R_alloc | apply Kd.R_drewN | apply Kd.R_drew)); exact HO_277002.out))) (below_size be)); have n2_ := bb BK266 hb; have n3_ := bb BK276 hb; have n4_ := Aside0.mk (below_step be hb); clear HO_277002; clear BK266; clear BK276; clear HB; have HO_277002 := n0_; have HO282 := n1_; have BK266 := n2_; have BK276 := n3_; have HB := n4_; clear n0_ n1_ n2_ n3_ n4_; (try clear hb); (try clear hb2); (try clear hk); (try clear hi); (try clear ho0)) | ((with_reducible refine gate_dst (N := 11) rfl ?_); (try (refine gate_guard (by rfl) ?_; dsimp only)); refine box_event ?hg (N := 11) ?hd (cs := #[.string (⟨#[]⟩ : ByteArray), .int .i64 0, .slice none 0 0]) (t := 24) ?hr ?_; (case hd => rfl); (case hg => rfl); (case hr => first | (go_simp; done) | (go_simp; rfl)); intro gb284 hg w30 hbox hb; have n0_ := Aside0.mk (Kd.R_below (by (with_reducible repeat (first | apply Kd.R_alloc | apply Kd.R_drewN | apply Kd.R_drew)); exact HO_277002.out) hb); have n1_ := Aside0.mk (Kd.R_below (by (with_reducible repeat (first | apply Kd.R_alloc | apply Kd.R_drewN | apply Kd.R_drew)); exact HO282.out) hb); have n2_ := bb BK266 hb; have n3_ := bb BK276 hb; have n4_ := Aside0.mk (below_step be hb); have n5_ := Aside0.mk (hbox); have n6_ := gs hg HB; have n7_ := n6_; have n8_ := nl BK266 hg; have n9_ := ns n8_; have n10_ := nl BK276 hg; have n11_ := ns n10_; clear HO_277002; clear HO282; clear BK266; clear BK276; clear HB; have HO_277002 := n0_; have HO282 := n1_; have BK266 := n2_; have BK276 := n3_; have HB := n4_; have BK284 := n5_; have GW284 := n6_; have GE284 := n7_; have NB266_284 := n8_; have NB284_266 := n9_; have NB276_284 := n10_; have NB284_276 := n11_; clear n0_ n1_ n2_ n3_ n4_ n5_ n6_ n7_ n8_ n9_ n10_ n11_; clear hb hbox hg; have hnb31 := NB284_266.out; have hnc31 := NB266_284.out; have hnb32 := NB284_276.out; have hnc32 := NB276_284.out; obtain ⟨hcz33_0, hcz33_1, hcz33_2, hfz33_0, hfz33_1, hfz33_2⟩ := bc3 BK284; obtain ⟨Ao34, co34, eo34⟩ := Kd.R_slice HO282.out; subst eo34) | ((with_reducible refine gate_callee (f := 20) rfl ?_); refine goesL_ (some 50) rfl rfl Tryd.func20 kx rfl #[.slice A1 l1.length c1] rfl aa ?_; (with_reducible refine (ephemerisref1_ZoneRulesError.calls kj6 _ _ l1 t285 _ ?side1 ?side2 A25.out).mono ?_); (case side1 => exact Kd.C_below HR1.out be); (case side2 => exact HC1.out); rintro e w35 ⟨rfl, hb⟩; refine ⟨_, rfl, ?_⟩; have n0_ := Aside0.mk (Kd.R_below (by (with_reducible repeat (first | apply Kd.R_alloc | apply Kd.R_drewN | apply Kd.R_drew)); exact (Kd.R_mono (Kd.R_far (p := ⟨gb284, 2, none⟩) (Kd.R_far (p := ⟨gb284, 1, none⟩) (Kd.R_far (p := ⟨gb284, 0, none⟩) (Kd.R_types HO_277002.out BK284.out (by decide)) (fun _ hk => hk.2) (.string t278)) (fun _ hk => hk.2) (.int .i64 t279)) (fun _ hk => hk.2) (.slice Ao34 t280.length co34)) (fun _ h_ => h_.1))) hb); have n1_ := Aside0.mk (Kd.R_below (by (with_reducible repeat (first | apply Kd.R_alloc | apply Kd.R_drewN | apply Kd.R_drew)); exact (Kd.R_mono (Kd.R_far (p := ⟨gb284, 2, none⟩) (Kd.R_far (p := ⟨gb284, 1, none⟩) (Kd.R_far (p := ⟨gb284, 0, none⟩) (Kd.R_types HO282.out BK284.out (by decide)) (fun _ hk => hk.2) (.string t278)) (fun _ hk => hk.2) (.int .i64 t279)) (fun _ hk => hk.2) (.slice Ao34 t280.length co34)) (fun _ h_ => h_.1))) hb); have n2_ := bb BK266 hb; have n3_ := bb BK276 hb; have n4_ := Aside0.mk (blk_below (g := gb284) (o := .cells #[.string t278, .int .i64 t279, .slice Ao34 t280.length co34] 24 (0, 0)) (bk BK284) hb); have n5_ := Aside0.mk (below_step be hb); clear HO_277002; clear HO282; clear BK266; clear BK276; clear BK284; clear HB; have HO_277002 := n0_; have HO282 := n1_; have BK266 := n2_; have BK276 := n3_; have BK284 := n4_; have HB := n5_; clear n0_ n1_ n2_ n3_ n4_ n5_; (try clear hb); (try clear hb2); (try clear hk); (try clear hi)))
    (try simp only [Act.put, List.setIfInBounds_toArray, List.set_cons_zero, List.set_cons_succ])
    go_cut [13] (fun v13 wc => ∃ (kq : Nat) (x13_25 : Int), v13 = .int .i64 x13_25 ∧ Aside0 (ephemerislaw1_ForecastExtends.j1 kq l1 a2 a3 t283 x13_25 a0_0 a0_1 l0_2 t278 t279 t280 = some r) ∧ Aside0 (kq ≤ kj6) ∧ Aside0 (Kd.R k43 43 wc w.heap.size (fun k_ => some k_ ≠ ((.slice Ao34 t280.length co34) : Value).ownBlock) (.slice Ao15 t272.length co15) t272) ∧ Aside0 (Kd.R k43 43 wc w.heap.size (fun k_ => some k_ ≠ ((.slice Ao15 t272.length co15) : Value).ownBlock) (.slice Ao34 t280.length co34) t280) ∧ Aside0 (wc.heap[gb266]? = some (.cells #[.string a0_0, .int .i64 a0_1, (.slice A0_2 l0_2.length c0_2)] 24 (0, 0))) ∧ Aside0 (wc.heap[gb276]? = some (.cells #[.string t270, .int .i64 t271, (.slice Ao15 t272.length co15)] 24 (0, 0))) ∧ Aside0 (wc.heap[gb284]? = some (.cells #[.string t278, .int .i64 t279, (.slice Ao34 t280.length co34)] 24 (0, 0))) ∧ Aside0 (Below w.heap.size w wc))
    case first =>
     have H := HC26.out
     clear HC26
     by_cases c36 : t285 = 0
     ·rw [if_pos c36] at H
      have c36b0 : (t285 == 0) = true := beq_iff_eq.mpr c36
      have c36b1 : (t285 != 0) = false := bne_eq_false_iff_eq.mpr c36
      clear c36
      (first | rw [c36b0] | (simp only [i64_w, i32_w]; rw [c36b0]) | skip)
      replace H := Option.bind_eq_some_iff.mp H
      obtain ⟨t286, A370, H⟩ := H
      replace H : (ephemerislaw1_ForecastExtends.j1 kj6 l1 a2 a3 t283 t286 a0_0 a0_1 l0_2 t278 t279 t280) = some r := H
      have A37 := Aside0.mk A370
      clear A370
      have H' := Aside0.mk H
      clear H
      have hnb38 := NB266_276.out
      have hnc38 := NB276_266.out
      have hnb39 := NB266_284.out
      have hnc39 := NB284_266.out
      obtain ⟨hcz40_0, hcz40_1, hcz40_2, hfz40_0, hfz40_1, hfz40_2⟩ := bc3 BK266
      go_wp2_with (first | ((with_reducible refine gate_callee (f := 13) rfl ?_); refine goesL_ (some 54) rfl rfl Tryd.func13 kx rfl #[.agg #[.string a0_0, .int .i64 a0_1, .slice A0_2 l0_2.length c0_2]] rfl aa ?_; (with_reducible refine (ephemerisref1_ZoneError.calls kj6 a0_0 a0_1 _ _ l0_2 t286 _ ?side1 ?side2 A37.out).mono ?_); (case side1 => exact kc (Kd.C_below HR0_2.out HB.out)); (case side2 => exact HC0_2.out); rintro e w41 ⟨rfl, hb⟩; refine ⟨_, rfl, ?_⟩; have n0_ := Aside0.mk (Kd.R_below (by (with_reducible repeat (first | apply Kd.R_alloc | apply Kd.R_drewN | apply Kd.R_drew)); exact HO_277002.out) hb); have n1_ := Aside0.mk (Kd.R_below (by (with_reducible repeat (first | apply Kd.R_alloc | apply Kd.R_drewN | apply Kd.R_drew)); exact HO282.out) hb); have n2_ := bb BK266 hb; have n3_ := bb BK276 hb; have n4_ := bb BK284 hb; have n5_ := Aside0.mk (below_step be hb); clear HO_277002; clear HO282; clear BK266; clear BK276; clear BK284; clear HB; have HO_277002 := n0_; have HO282 := n1_; have BK266 := n2_; have BK276 := n3_; have BK284 := n4_; have HB := n5_; clear n0_ n1_ n2_ n3_ n4_ n5_; (try clear hb); (try clear hb2); (try clear hk); (try clear hi)))
      go_meet
      case rel => exact ⟨_, (t286), rs, H', ⟨by have := HJ6.out; first | omega | exact Nat.le_refl _⟩, ⟨by (with_reducible repeat (first | apply Kd.R_alloc | apply Kd.R_drewN | apply Kd.R_drew)); exact Kd.R_mono HO_277002.out (fun _ hk => hk.2)⟩, ⟨by (with_reducible repeat (first | apply Kd.R_alloc | apply Kd.R_drewN | apply Kd.R_drew)); exact Kd.R_mono HO282.out (fun _ hk => hk.2)⟩, ⟨bk BK266⟩, ⟨bk BK276⟩, ⟨bk BK284⟩, ⟨be⟩⟩
     ·rw [if_neg c36] at H
      have c36b0 : (t285 == 0) = false := beq_eq_false_iff_ne.mpr c36
      have c36b1 : (t285 != 0) = true := bne_iff_ne.mpr c36
      (first | rw [c36b0] | (simp only [i64_w, i32_w]; rw [c36b0]) | skip)
      have H' := Aside0.mk H
      clear H
      go_wp2
      go_meet
      case rel => exact ⟨_, (t285), rs, H', ⟨by have := HJ6.out; first | omega | exact Nat.le_refl _⟩, ⟨by (with_reducible repeat (first | apply Kd.R_alloc | apply Kd.R_drewN | apply Kd.R_drew)); exact Kd.R_mono HO_277002.out (fun _ hk => hk.2)⟩, ⟨by (with_reducible repeat (first | apply Kd.R_alloc | apply Kd.R_drewN | apply Kd.R_drew)); exact Kd.R_mono HO282.out (fun _ hk => hk.2)⟩, ⟨bk BK266⟩, ⟨bk BK276⟩, ⟨bk BK284⟩, ⟨be⟩⟩
    case rest =>
     clear HC26
     (try clear c1); (try clear c2); (try clear p2); (try clear q2); (try clear hx2); (try clear qi2); (try clear c3); (try clear c4); (try clear c13); (try clear c16); (try clear c16b0); (try clear c16b1); (try clear c17); (try clear c17b0); (try clear c17b1); (try clear c18); (try clear c18b0); (try clear c18b1); (try clear c19); (try clear c20); (try clear c21); (try clear c23); (try clear c27); (try clear p27); (try clear q27); (try clear hx27); (try clear qi27); (try clear c31); (try clear c32); (try clear c36); (try clear c36b0); (try clear c36b1); (try clear c38); (try clear c39); (try clear hcz14_0); (try clear hcz14_1); (try clear hcz14_2); (try clear hcz20_0); (try clear hcz20_1); (try clear hcz20_2); (try clear hcz22_0); (try clear hcz22_1); (try clear hcz22_2); (try clear hcz28_0); (try clear hcz28_1); (try clear hcz28_2); (try clear hcz33_0); (try clear hcz33_1); (try clear hcz33_2); (try clear hcz40_0); (try clear hcz40_1); (try clear hcz40_2); (try clear hfz14_0); (try clear hfz14_1); (try clear hfz14_2); (try clear hfz20_0); (try clear hfz20_1); (try clear hfz20_2); (try clear hfz22_0); (try clear hfz22_1); (try clear hfz22_2); (try clear hfz28_0); (try clear hfz28_1); (try clear hfz28_2); (try clear hfz33_0); (try clear hfz33_1); (try clear hfz33_2); (try clear hfz40_0); (try clear hfz40_1); (try clear hfz40_2); (try clear hx277_0); (try clear hx277_1); (try clear hx277_2); (try clear p2); (try clear p277); (try clear q2); (try clear q277)
     obtain ⟨kq, x13_25, rfl, HA, HJ25, HO_277002, HO_285002, BK266, BK276, BK284, HB⟩ := hcut
     cases kq with
     | zero => exact absurd HA.out (by simp [ephemerislaw1_ForecastExtends.j1])
     | succ kj25 =>
      have H := HA.out
      clear HA
      simp only [ephemerislaw1_ForecastExtends.j1] at H
      have HC42 := Aside0.mk H
      clear H
      go_upto_block 0 with (fail)
      go_cut [13] (fun v13 wc => ∃ (kq : Nat) (x13_41 : Int), v13 = .int .i64 x13_41 ∧ Aside0 (ephemerislaw1_ForecastExtends.j3 kq l1 a2 a3 t283 x13_41 a0_0 a0_1 l0_2 t278 t279 t280 = some r) ∧ Aside0 (kq ≤ kj25) ∧ Aside0 (Kd.R k43 43 wc w.heap.size (fun k_ => some k_ ≠ ((.slice Ao34 t280.length co34) : Value).ownBlock) (.slice Ao15 t272.length co15) t272) ∧ Aside0 (Kd.R k43 43 wc w.heap.size (fun k_ => some k_ ≠ ((.slice Ao15 t272.length co15) : Value).ownBlock) (.slice Ao34 t280.length co34) t280) ∧ Aside0 (wc.heap[gb266]? = some (.cells #[.string a0_0, .int .i64 a0_1, (.slice A0_2 l0_2.length c0_2)] 24 (0, 0))) ∧ Aside0 (wc.heap[gb276]? = some (.cells #[.string t270, .int .i64 t271, (.slice Ao15 t272.length co15)] 24 (0, 0))) ∧ Aside0 (wc.heap[gb284]? = some (.cells #[.string t278, .int .i64 t279, (.slice Ao34 t280.length co34)] 24 (0, 0))) ∧ Aside0 (Below w.heap.size w wc))
      case first =>
       have H := HC42.out
       clear HC42
       by_cases c43 : x13_25 = 0
       ·rw [if_pos c43] at H
        have c43b0 : (x13_25 == 0) = true := beq_iff_eq.mpr c43
        have c43b1 : (x13_25 != 0) = false := bne_eq_false_iff_eq.mpr c43
        clear c43
        (first | rw [c43b0] | (simp only [i64_w, i32_w]; rw [c43b0]) | skip)
        have HC44 := Aside0.mk H
        clear H
        go_upto_region 9 with (fail)
        go_cut [58] (fun v58 wc => ∃ (kq : Nat) (x58_43 : Bool), v58 = .bool x58_43 ∧ Aside0 (ephemerislaw1_ForecastExtends.j2 kq l1 a2 a3 t283 x13_25 x58_43 a0_0 a0_1 l0_2 t278 t279 t280 = some r) ∧ Aside0 (kq ≤ kj25) ∧ Aside0 (Kd.R k43 43 wc w.heap.size (fun k_ => some k_ ≠ ((.slice Ao34 t280.length co34) : Value).ownBlock) (.slice Ao15 t272.length co15) t272) ∧ Aside0 (Kd.R k43 43 wc w.heap.size (fun k_ => some k_ ≠ ((.slice Ao15 t272.length co15) : Value).ownBlock) (.slice Ao34 t280.length co34) t280) ∧ Aside0 (wc.heap[gb266]? = some (.cells #[.string a0_0, .int .i64 a0_1, (.slice A0_2 l0_2.length c0_2)] 24 (0, 0))) ∧ Aside0 (wc.heap[gb276]? = some (.cells #[.string t270, .int .i64 t271, (.slice Ao15 t272.length co15)] 24 (0, 0))) ∧ Aside0 (wc.heap[gb284]? = some (.cells #[.string t278, .int .i64 t279, (.slice Ao34 t280.length co34)] 24 (0, 0))) ∧ Aside0 (Below w.heap.size w wc))
        case first =>
         have H := HC44.out
         clear HC44
         replace H := Option.bind_eq_some_iff.mp H
         obtain ⟨t287, A450, H⟩ := H
         replace H : (if t287 = true then ((ephemerisref1_In.f a3 a2 10000).bind fun t288 => (ephemerislaw1_ForecastExtends.j2 kj25 l1 a2 a3 t283 x13_25 (!t288) a0_0 a0_1 l0_2 t278 t279 t280)) else (ephemerislaw1_ForecastExtends.j2 kj25 l1 a2 a3 t283 x13_25 true a0_0 a0_1 l0_2 t278 t279 t280)) = some r := H
         have A45 := Aside0.mk A450
         clear A450
         by_cases c46 : t287 = true
         ·subst c46
          have H1 : ((ephemerisref1_In.f a3 a2 10000).bind fun t288 => (ephemerislaw1_ForecastExtends.j2 kj25 l1 a2 a3 t283 x13_25 (!t288) a0_0 a0_1 l0_2 t278 t279 t280)) = some r := by rw [if_pos rfl] at H; exact H
          clear H
          have H := H1
          clear H1
          replace H := Option.bind_eq_some_iff.mp H
          obtain ⟨t288, A470, H⟩ := H
          replace H : (ephemerislaw1_ForecastExtends.j2 kj25 l1 a2 a3 t283 x13_25 (!t288) a0_0 a0_1 l0_2 t278 t279 t280) = some r := H
          have A47 := Aside0.mk A470
          clear A470
          have H' := Aside0.mk H
          clear H
          go_wp2_with (first | ((with_reducible refine gate_callee (f := 15) rfl ?_); refine goesL_ (some 60) rfl rfl Tryd.func15 kx rfl #[.int .i64 a2, .int .i64 (-10000), .int .i64 10000] rfl aa ?_; (with_reducible refine (ephemerisref1_In.calls a2 (-10000) 10000 true _ A45.out).mono ?_); rintro e w' ⟨rfl, ⟨nd, rfl⟩⟩; refine ⟨_, rfl, ?_⟩) | (go_at_call 15; (with_reducible refine (ephemerisref1_In.calls a3 a2 10000 t288 _ A47.out).mono ?_); rintro e w' ⟨rfl, ⟨nd, rfl⟩⟩))
          go_meet
          case rel => exact ⟨_, (!t288), rs, H', ⟨by have := HJ6.out; have := HJ25.out; first | omega | exact Nat.le_refl _⟩, ⟨by (with_reducible repeat (first | apply Kd.R_alloc | apply Kd.R_drewN | apply Kd.R_drew)); exact HO_277002.out⟩, ⟨by (with_reducible repeat (first | apply Kd.R_alloc | apply Kd.R_drewN | apply Kd.R_drew)); exact HO_285002.out⟩, ⟨bk BK266⟩, ⟨bk BK276⟩, ⟨bk BK284⟩, ⟨be⟩⟩
         ·replace c46 := Bool.eq_false_iff.mpr c46
          subst c46
          have H1 : (ephemerislaw1_ForecastExtends.j2 kj25 l1 a2 a3 t283 x13_25 true a0_0 a0_1 l0_2 t278 t279 t280) = some r := by rw [if_neg (show ¬ (false = true) by decide)] at H; exact H
          clear H
          have H := H1
          clear H1
          have H' := Aside0.mk H
          clear H
          go_wp2_with (first | ((with_reducible refine gate_callee (f := 15) rfl ?_); refine goesL_ (some 60) rfl rfl Tryd.func15 kx rfl #[.int .i64 a2, .int .i64 (-10000), .int .i64 10000] rfl aa ?_; (with_reducible refine (ephemerisref1_In.calls a2 (-10000) 10000 false _ A45.out).mono ?_); rintro e w' ⟨rfl, ⟨nd, rfl⟩⟩; refine ⟨_, rfl, ?_⟩))
          go_meet
          case rel => exact ⟨_, (true), rs, H', ⟨by have := HJ6.out; have := HJ25.out; first | omega | exact Nat.le_refl _⟩, ⟨by (with_reducible repeat (first | apply Kd.R_alloc | apply Kd.R_drewN | apply Kd.R_drew)); exact HO_277002.out⟩, ⟨by (with_reducible repeat (first | apply Kd.R_alloc | apply Kd.R_drewN | apply Kd.R_drew)); exact HO_285002.out⟩, ⟨bk BK266⟩, ⟨bk BK276⟩, ⟨bk BK284⟩, ⟨be⟩⟩
        case rest =>
         clear HC44
         (try clear c1); (try clear c2); (try clear p2); (try clear q2); (try clear hx2); (try clear qi2); (try clear c3); (try clear c4); (try clear c13); (try clear c15); (try clear c16); (try clear c16b0); (try clear c16b1); (try clear c17); (try clear c17b0); (try clear c17b1); (try clear c18); (try clear c18b0); (try clear c18b1); (try clear c19); (try clear c20); (try clear c21); (try clear c23); (try clear c27); (try clear p27); (try clear q27); (try clear hx27); (try clear qi27); (try clear c31); (try clear c32); (try clear c36); (try clear c36b0); (try clear c36b1); (try clear c38); (try clear c39); (try clear c43); (try clear c43b0); (try clear c43b1); (try clear c46); (try clear hcz14_0); (try clear hcz14_1); (try clear hcz14_2); (try clear hcz20_0); (try clear hcz20_1); (try clear hcz20_2); (try clear hcz22_0); (try clear hcz22_1); (try clear hcz22_2); (try clear hcz28_0); (try clear hcz28_1); (try clear hcz28_2); (try clear hcz33_0); (try clear hcz33_1); (try clear hcz33_2); (try clear hcz40_0); (try clear hcz40_1); (try clear hcz40_2); (try clear hfz14_0); (try clear hfz14_1); (try clear hfz14_2); (try clear hfz20_0); (try clear hfz20_1); (try clear hfz20_2); (try clear hfz22_0); (try clear hfz22_1); (try clear hfz22_2); (try clear hfz28_0); (try clear hfz28_1); (try clear hfz28_2); (try clear hfz33_0); (try clear hfz33_1); (try clear hfz33_2); (try clear hfz40_0); (try clear hfz40_1); (try clear hfz40_2); (try clear hx277_0); (try clear hx277_1); (try clear hx277_2); (try clear p2); (try clear p27); (try clear p277); (try clear q2); (try clear q27); (try clear q277)
         obtain ⟨kq, x58_43, rfl, HA, HJ43, HO_277002, HO_285002, BK266, BK276, BK284, HB⟩ := hcut
         cases kq with
         | zero => exact absurd HA.out (by simp [ephemerislaw1_ForecastExtends.j2])
         | succ kj43 =>
          have H := HA.out
          clear HA
          simp only [ephemerislaw1_ForecastExtends.j2] at H
          by_cases c48 : x58_43 = true
          ·subst c48
           have H1 : (ephemerislaw1_ForecastExtends.j3 kj43 l1 a2 a3 t283 3 a0_0 a0_1 l0_2 t278 t279 t280) = some r := by rw [if_pos rfl] at H; exact H
           clear H
           have H := H1
           clear H1
           have H' := Aside0.mk H
           clear H
           go_wp2
           go_meet
           case rel => exact ⟨_, (3), rs, H', ⟨by have := HJ6.out; have := HJ25.out; have := HJ43.out; first | omega | exact Nat.le_refl _⟩, ⟨by (with_reducible repeat (first | apply Kd.R_alloc | apply Kd.R_drewN | apply Kd.R_drew)); exact HO_277002.out⟩, ⟨by (with_reducible repeat (first | apply Kd.R_alloc | apply Kd.R_drewN | apply Kd.R_drew)); exact HO_285002.out⟩, ⟨bk BK266⟩, ⟨bk BK276⟩, ⟨bk BK284⟩, ⟨be⟩⟩
          ·replace c48 := Bool.eq_false_iff.mpr c48
           subst c48
           have H1 : (if (wrap64 (a3 - a2)) > 50 then (ephemerislaw1_ForecastExtends.j3 kj43 l1 a2 a3 t283 2 a0_0 a0_1 l0_2 t278 t279 t280) else (ephemerislaw1_ForecastExtends.j3 kj43 l1 a2 a3 t283 x13_25 a0_0 a0_1 l0_2 t278 t279 t280)) = some r := by rw [if_neg (show ¬ (false = true) by decide)] at H; exact H
           clear H
           have H := H1
           clear H1
           by_cases c49 : (wrap64 (a3 - a2)) > 50
           ·rw [if_pos c49] at H
            have c49b0 : decide (50 < (wrap64 (a3 - a2))) = true := decide_eq_true c49
            clear c49
            have H' := Aside0.mk H
            clear H
            go_wp2
            go_meet
            case rel => exact ⟨_, (2), rs, H', ⟨by have := HJ6.out; have := HJ25.out; have := HJ43.out; first | omega | exact Nat.le_refl _⟩, ⟨by (with_reducible repeat (first | apply Kd.R_alloc | apply Kd.R_drewN | apply Kd.R_drew)); exact HO_277002.out⟩, ⟨by (with_reducible repeat (first | apply Kd.R_alloc | apply Kd.R_drewN | apply Kd.R_drew)); exact HO_285002.out⟩, ⟨bk BK266⟩, ⟨bk BK276⟩, ⟨bk BK284⟩, ⟨be⟩⟩
           ·rw [if_neg c49] at H
            have c49b0 : decide (50 < (wrap64 (a3 - a2))) = false := decide_eq_false c49
            clear c49
            have H' := Aside0.mk H
            clear H
            go_wp2
            go_meet
            case rel => exact ⟨_, (x13_25), rs, H', ⟨by have := HJ6.out; have := HJ25.out; have := HJ43.out; first | omega | exact Nat.le_refl _⟩, ⟨by (with_reducible repeat (first | apply Kd.R_alloc | apply Kd.R_drewN | apply Kd.R_drew)); exact HO_277002.out⟩, ⟨by (with_reducible repeat (first | apply Kd.R_alloc | apply Kd.R_drewN | apply Kd.R_drew)); exact HO_285002.out⟩, ⟨bk BK266⟩, ⟨bk BK276⟩, ⟨bk BK284⟩, ⟨be⟩⟩
       ·rw [if_neg c43] at H
        have c43b0 : (x13_25 == 0) = false := beq_eq_false_iff_ne.mpr c43
        have c43b1 : (x13_25 != 0) = true := bne_iff_ne.mpr c43
        (first | rw [c43b0] | (simp only [i64_w, i32_w]; rw [c43b0]) | skip)
        have H' := Aside0.mk H
        clear H
        go_wp2
        go_meet
        case rel => exact ⟨_, (x13_25), rs, H', ⟨by have := HJ6.out; have := HJ25.out; first | omega | exact Nat.le_refl _⟩, ⟨by (with_reducible repeat (first | apply Kd.R_alloc | apply Kd.R_drewN | apply Kd.R_drew)); exact HO_277002.out⟩, ⟨by (with_reducible repeat (first | apply Kd.R_alloc | apply Kd.R_drewN | apply Kd.R_drew)); exact HO_285002.out⟩, ⟨bk BK266⟩, ⟨bk BK276⟩, ⟨bk BK284⟩, ⟨be⟩⟩
      case rest =>
       clear HC42
       (try clear c1); (try clear c2); (try clear p2); (try clear q2); (try clear hx2); (try clear qi2); (try clear c3); (try clear c4); (try clear p6); (try clear c13); (try clear c15); (try clear c16); (try clear c16b0); (try clear c16b1); (try clear c17); (try clear c17b0); (try clear c17b1); (try clear c18); (try clear c18b0); (try clear c18b1); (try clear c19); (try clear c20); (try clear c21); (try clear c23); (try clear c27); (try clear p27); (try clear q27); (try clear hx27); (try clear qi27); (try clear c31); (try clear c32); (try clear c36); (try clear c36b0); (try clear c36b1); (try clear c38); (try clear c39); (try clear c43); (try clear c43b0); (try clear c43b1); (try clear c46); (try clear c48); (try clear c49); (try clear c49b0); (try clear hcz14_0); (try clear hcz14_1); (try clear hcz14_2); (try clear hcz20_0); (try clear hcz20_1); (try clear hcz20_2); (try clear hcz22_0); (try clear hcz22_1); (try clear hcz22_2); (try clear hcz28_0); (try clear hcz28_1); (try clear hcz28_2); (try clear hcz33_0); (try clear hcz33_1); (try clear hcz33_2); (try clear hcz40_0); (try clear hcz40_1); (try clear hcz40_2); (try clear hfz14_0); (try clear hfz14_1); (try clear hfz14_2); (try clear hfz20_0); (try clear hfz20_1); (try clear hfz20_2); (try clear hfz22_0); (try clear hfz22_1); (try clear hfz22_2); (try clear hfz28_0); (try clear hfz28_1); (try clear hfz28_2); (try clear hfz33_0); (try clear hfz33_1); (try clear hfz33_2); (try clear hfz40_0); (try clear hfz40_1); (try clear hfz40_2); (try clear hx277_0); (try clear hx277_1); (try clear hx277_2); (try clear p2); (try clear p27); (try clear p277); (try clear q2); (try clear q27); (try clear q277)
       obtain ⟨kq, x13_41, rfl, HA, HJ41, HO_277002, HO_285002, BK266, BK276, BK284, HB⟩ := hcut
       cases kq with
       | zero => exact absurd HA.out (by simp [ephemerislaw1_ForecastExtends.j3])
       | succ kj41 =>
        have H := HA.out
        clear HA
        simp only [ephemerislaw1_ForecastExtends.j3] at H
        by_cases c50 : x13_41 = 0
        ·rw [if_pos c50] at H
         have c50b0 : (x13_41 == 0) = true := beq_iff_eq.mpr c50
         have c50b1 : (x13_41 != 0) = false := bne_eq_false_iff_eq.mpr c50
         clear c50
         by_cases c51 : ([] : List (S43)).length + l0_2.length < 4398046511104
         ·rw [if_pos c51] at H
          have LMc51 := Aside0.mk c51
          clear c51
          obtain ⟨y291, hy291⟩ : ∃ y_ : List (S43), y_ = (([] : List (S43)) ++ l0_2) := ⟨_, rfl⟩
          replace H : (ephemerislaw1_ForecastExtends.l0 kj41 l1 a3 t283 a2 t278 t279 t280 a0_0 a0_1 y291) = some r := rp hy291 H
          have Ny291 := Aside0.mk hy291
          clear hy291
          have H' := Aside0.mk H
          clear H
          have hnb52 := NB266_276.out
          have hnc52 := NB276_266.out
          have hnb53 := NB266_284.out
          have hnc53 := NB284_266.out
          obtain ⟨hcz54_0, hcz54_1, hcz54_2, hfz54_0, hfz54_1, hfz54_2⟩ := bc3 BK266
          go_wp2_with (first | ((with_reducible refine gate_dst (N := 14) rfl ?_); (try (refine gate_guard (by rfl) ?_; dsimp only)); refine box_event ?hg (N := 14) ?hd (cs := #[.string (⟨#[]⟩ : ByteArray), .int .i64 0, .slice none 0 0]) (t := 24) ?hr ?_; (case hd => rfl); (case hg => rfl); (case hr => first | (go_simp; done) | (go_simp; rfl)); intro gb290 hg w55 hbox hb; have n0_ := Aside0.mk (Kd.R_below (by (with_reducible repeat (first | apply Kd.R_alloc | apply Kd.R_drewN | apply Kd.R_drew)); exact HO_277002.out) hb); have n1_ := Aside0.mk (Kd.R_below (by (with_reducible repeat (first | apply Kd.R_alloc | apply Kd.R_drewN | apply Kd.R_drew)); exact HO_285002.out) hb); have n2_ := bb BK266 hb; have n3_ := bb BK276 hb; have n4_ := bb BK284 hb; have n5_ := Aside0.mk (below_step be hb); have n6_ := Aside0.mk (hbox); have n7_ := gs hg HB; have n8_ := n7_; have n9_ := nl BK266 hg; have n10_ := ns n9_; have n11_ := nl BK276 hg; have n12_ := ns n11_; have n13_ := nl BK284 hg; have n14_ := ns n13_; clear HO_277002; clear HO_285002; clear BK266; clear BK276; clear BK284; clear HB; have HO_277002 := n0_; have HO_285002 := n1_; have BK266 := n2_; have BK276 := n3_; have BK284 := n4_; have HB := n5_; have BK290 := n6_; have GW290 := n7_; have GE290 := n8_; have NB266_290 := n9_; have NB290_266 := n10_; have NB276_290 := n11_; have NB290_276 := n12_; have NB284_290 := n13_; have NB290_284 := n14_; clear n0_ n1_ n2_ n3_ n4_ n5_ n6_ n7_ n8_ n9_ n10_ n11_ n12_ n13_ n14_; clear hb hbox hg; have hnb56 := NB290_266.out; have hnc56 := NB266_290.out; have hnb57 := NB290_276.out; have hnc57 := NB276_290.out; have hnb58 := NB290_284.out; have hnc58 := NB284_290.out; obtain ⟨hcz59_0, hcz59_1, hcz59_2, hfz59_0, hfz59_1, hfz59_2⟩ := bc3 BK290; obtain ⟨hcz60_0, hcz60_1, hcz60_2, hfz60_0, hfz60_1, hfz60_2⟩ := bc3 BK266) | ((with_reducible refine gate_builtin (b := .append) (xs := #[.tmp 89, .tmp 91]) rfl ?_); (try (refine gate_guard (by rfl) ?_; dsimp only)); at_builtin; refine Kd.R_append_rows k43 (w0 := w) w.heap.size rfl (.tmp 89) (.tmp 91) 22 43 (.agg #[(.int .i64 0), (.int .i64 0), (.string ⟨#[]⟩)]) 32 rfl Tryd.underlying22 info43 rfl (by decide) (by omega) (.slice none 0 0) ([] : List (S43)) l0_2 _ _ _ (fun k_ => some k_ ≠ (.slice Ao15 t272.length co15 : Value).ownBlock ∧ some k_ ≠ (.slice Ao34 t280.length co34 : Value).ownBlock) (fun _ => False) rfl rfl ?aO ?aR (fun _ _ h => h) (fun _ h => h.elim) ?aF ?aB ?aS ?aL ?_; (case aR => exact Kd.C_below HR0_2.out be); (case aB => exact be); (case aF => exact (fun k_ hk => ⟨Kd.fresh' (Kd.R_lt (by (with_reducible repeat (first | apply Kd.R_alloc | apply Kd.R_drewN | apply Kd.R_drew)); exact (Kd.R_mono (Kd.R_far (p := ⟨gb290, 2, none⟩) (Kd.R_far (p := ⟨gb290, 1, none⟩) (Kd.R_far (p := ⟨gb290, 0, none⟩) (Kd.R_types HO_277002.out BK290.out (by decide)) (fun _ hk => hk.2) (.string a0_0)) (fun _ hk => hk.2) (.int .i64 a0_1)) (fun _ hk => hk.2) (.slice none 0 0)) (fun _ h_ => h_.1)))) k_ hk, Kd.fresh' (Kd.R_lt (by (with_reducible repeat (first | apply Kd.R_alloc | apply Kd.R_drewN | apply Kd.R_drew)); exact (Kd.R_mono (Kd.R_far (p := ⟨gb290, 2, none⟩) (Kd.R_far (p := ⟨gb290, 1, none⟩) (Kd.R_far (p := ⟨gb290, 0, none⟩) (Kd.R_types HO_285002.out BK290.out (by decide)) (fun _ hk => hk.2) (.string a0_0)) (fun _ hk => hk.2) (.int .i64 a0_1)) (fun _ hk => hk.2) (.slice none 0 0)) (fun _ h_ => h_.1)))) k_ hk⟩)); (case aO => exact ((Kd.R_nil _ _ _ _ (fun k_ => some k_ ≠ (.slice Ao15 t272.length co15 : Value).ownBlock ∧ some k_ ≠ (.slice Ao34 t280.length co34 : Value).ownBlock)))); (case aS => exact (below_size be)); (case aL => have := LMc51.out; omega); intro v292 w61 ho hb hg hat; rw [← Ny291.out] at ho; have n0_ := Aside0.mk (Kd.R_after (Kd.R_apart_nil (by (with_reducible repeat (first | apply Kd.R_alloc | apply Kd.R_drewN | apply Kd.R_drew)); exact (Kd.R_mono (Kd.R_far (p := ⟨gb290, 2, none⟩) (Kd.R_far (p := ⟨gb290, 1, none⟩) (Kd.R_far (p := ⟨gb290, 0, none⟩) (Kd.R_types HO_277002.out BK290.out (by decide)) (fun _ hk => hk.2) (.string a0_0)) (fun _ hk => hk.2) (.int .i64 a0_1)) (fun _ hk => hk.2) (.slice none 0 0)) (fun _ h_ => h_.1)))) hg hat); have n1_ := Aside0.mk (Kd.R_after (Kd.R_apart_nil (by (with_reducible repeat (first | apply Kd.R_alloc | apply Kd.R_drewN | apply Kd.R_drew)); exact (Kd.R_mono (Kd.R_far (p := ⟨gb290, 2, none⟩) (Kd.R_far (p := ⟨gb290, 1, none⟩) (Kd.R_far (p := ⟨gb290, 0, none⟩) (Kd.R_types HO_285002.out BK290.out (by decide)) (fun _ hk => hk.2) (.string a0_0)) (fun _ hk => hk.2) (.int .i64 a0_1)) (fun _ hk => hk.2) (.slice none 0 0)) (fun _ h_ => h_.1)))) hg hat); have n2_ := Aside0.mk (blk_grown (g := gb266) (o := .cells #[.string a0_0, .int .i64 a0_1, .slice A0_2 l0_2.length c0_2] 24 (0, 0)) (bk BK266) hg (by simp [Value.ownBlock])); have n3_ := Aside0.mk (blk_grown (g := gb276) (o := .cells #[.string t270, .int .i64 t271, .slice Ao15 t272.length co15] 24 (0, 0)) (bk BK276) hg (by simp [Value.ownBlock])); have n4_ := Aside0.mk (blk_grown (g := gb284) (o := .cells #[.string t278, .int .i64 t279, .slice Ao34 t280.length co34] 24 (0, 0)) (bk BK284) hg (by simp [Value.ownBlock])); have n5_ := Aside0.mk (blk_grown (g := gb290) (o := .cells #[.string a0_0, .int .i64 a0_1, .slice none 0 0] 24 (0, 0)) (bk BK290) hg (by simp [Value.ownBlock])); have n6_ := Aside0.mk (hb); have n7_ := Aside0.mk (ho); clear HO_277002; clear HO_285002; clear BK266; clear BK276; clear BK284; clear BK290; clear HB; have HO_277002 := n0_; have HO_285002 := n1_; have BK266 := n2_; have BK276 := n3_; have BK284 := n4_; have BK290 := n5_; have HB := n6_; have HO293 := n7_; clear n0_ n1_ n2_ n3_ n4_ n5_ n6_ n7_; clear ho hb hg hat; obtain ⟨Ao62, co62, eo62⟩ := Kd.R_slice HO293.out; subst eo62; obtain ⟨hcz63_0, hcz63_1, hcz63_2, hfz63_0, hfz63_1, hfz63_2⟩ := bc3 BK290))
          go_loopg [15] kj41 (fun kq v15 w' => ∃ (x15_4 : Int) (x291002_4 : List (S43)) (u291002 : Value), v15 = .int .i64 x15_4 ∧ Aside0 (ephemerislaw1_ForecastExtends.l0 kq l1 a3 t283 x15_4 t278 t279 t280 a0_0 a0_1 x291002_4 = some r) ∧ Aside0 (kq ≤ kj41) ∧ Aside0 (Kd.R k43 43 w' w.heap.size (fun k_ => some k_ ≠ ((.slice Ao34 t280.length co34) : Value).ownBlock ∧ some k_ ≠ (u291002 : Value).ownBlock) (.slice Ao15 t272.length co15) t272) ∧ Aside0 (Kd.R k43 43 w' w.heap.size (fun k_ => some k_ ≠ ((.slice Ao15 t272.length co15) : Value).ownBlock ∧ some k_ ≠ (u291002 : Value).ownBlock) (.slice Ao34 t280.length co34) t280) ∧ Aside0 (Kd.R k43 43 w' w.heap.size (fun k_ => some k_ ≠ ((.slice Ao15 t272.length co15) : Value).ownBlock ∧ some k_ ≠ ((.slice Ao34 t280.length co34) : Value).ownBlock) u291002 x291002_4) ∧ Aside0 (w'.heap[gb266]? = some (.cells #[.string a0_0, .int .i64 a0_1, (.slice A0_2 l0_2.length c0_2)] 24 (0, 0))) ∧ Aside0 (w'.heap[gb276]? = some (.cells #[.string t270, .int .i64 t271, (.slice Ao15 t272.length co15)] 24 (0, 0))) ∧ Aside0 (w'.heap[gb284]? = some (.cells #[.string t278, .int .i64 t279, (.slice Ao34 t280.length co34)] 24 (0, 0))) ∧ Aside0 (w'.heap[gb290]? = some (.cells #[.string a0_0, .int .i64 a0_1, u291002] 24 (0, 0))) ∧ Aside0 (Below w.heap.size w w'))
          case atStart => exact ⟨(a2), (y291), (.slice Ao62 y291.length co62), rs, H', ⟨Nat.le_refl _⟩, ⟨by (with_reducible repeat (first | apply Kd.R_alloc | apply Kd.R_drewN | apply Kd.R_drew)); exact Kd.R_mono (Kd.R_far (p := ⟨gb290, 2, none⟩) (Kd.R_types HO_277002.out BK290.out (by decide)) (fun _ hk => hk.2) (.slice Ao62 y291.length co62)) (fun _ hk => ⟨hk.1.1, hk.1.2⟩)⟩, ⟨by (with_reducible repeat (first | apply Kd.R_alloc | apply Kd.R_drewN | apply Kd.R_drew)); exact Kd.R_mono (Kd.R_far (p := ⟨gb290, 2, none⟩) (Kd.R_types HO_285002.out BK290.out (by decide)) (fun _ hk => hk.2) (.slice Ao62 y291.length co62)) (fun _ hk => ⟨hk.1.1, hk.1.2⟩)⟩, ⟨by (with_reducible repeat (first | apply Kd.R_alloc | apply Kd.R_drewN | apply Kd.R_drew)); exact Kd.R_mono (Kd.R_far (p := ⟨gb290, 2, none⟩) (Kd.R_types HO293.out BK290.out (by decide)) (fun _ hk => hk.2) (.slice Ao62 y291.length co62)) (fun _ hk => ⟨hk.1.1, hk.1.2⟩)⟩, ⟨bk BK266⟩, ⟨bk BK276⟩, ⟨bk BK284⟩, ⟨bk BK290⟩, ⟨be⟩⟩
          case round =>
           clear H'
           (try clear c1); (try clear c2); (try clear p2); (try clear q2); (try clear hx2); (try clear qi2); (try clear c3); (try clear c4); (try clear c5); (try clear p6); (try clear c13); (try clear c15); (try clear c16); (try clear c16b0); (try clear c16b1); (try clear c17); (try clear c17b0); (try clear c17b1); (try clear c18); (try clear c18b0); (try clear c18b1); (try clear c19); (try clear c20); (try clear c21); (try clear c23); (try clear c27); (try clear p27); (try clear q27); (try clear hx27); (try clear qi27); (try clear c31); (try clear c32); (try clear c36); (try clear c36b0); (try clear c36b1); (try clear c38); (try clear c39); (try clear c43); (try clear c43b0); (try clear c43b1); (try clear c46); (try clear c48); (try clear c49); (try clear c49b0); (try clear c50); (try clear c50b0); (try clear c50b1); (try clear c51); (try clear c52); (try clear c53); (try clear c56); (try clear c57); (try clear c58); (try clear hcz14_0); (try clear hcz14_1); (try clear hcz14_2); (try clear hcz20_0); (try clear hcz20_1); (try clear hcz20_2); (try clear hcz22_0); (try clear hcz22_1); (try clear hcz22_2); (try clear hcz28_0); (try clear hcz28_1); (try clear hcz28_2); (try clear hcz33_0); (try clear hcz33_1); (try clear hcz33_2); (try clear hcz40_0); (try clear hcz40_1); (try clear hcz40_2); (try clear hcz54_0); (try clear hcz54_1); (try clear hcz54_2); (try clear hcz59_0); (try clear hcz59_1); (try clear hcz59_2); (try clear hcz60_0); (try clear hcz60_1); (try clear hcz60_2); (try clear hcz63_0); (try clear hcz63_1); (try clear hcz63_2); (try clear hfz14_0); (try clear hfz14_1); (try clear hfz14_2); (try clear hfz20_0); (try clear hfz20_1); (try clear hfz20_2); (try clear hfz22_0); (try clear hfz22_1); (try clear hfz22_2); (try clear hfz28_0); (try clear hfz28_1); (try clear hfz28_2); (try clear hfz33_0); (try clear hfz33_1); (try clear hfz33_2); (try clear hfz40_0); (try clear hfz40_1); (try clear hfz40_2); (try clear hfz54_0); (try clear hfz54_1); (try clear hfz54_2); (try clear hfz59_0); (try clear hfz59_1); (try clear hfz59_2); (try clear hfz60_0); (try clear hfz60_1); (try clear hfz60_2); (try clear hfz63_0); (try clear hfz63_1); (try clear hfz63_2); (try clear hx277_0); (try clear hx277_1); (try clear hx277_2); (try clear p2); (try clear p27); (try clear p277); (try clear p6); (try clear q2); (try clear q27); (try clear q277)
           obtain ⟨x15_4, x291002_4, u291002, rfl, HA, HK4, HO_277002, HO_285002, HO_291002, BK266, BK276, BK284, BK290, HB⟩ := hrel
           cases gk with
           | zero => exact absurd HA.out (by simp [ephemerislaw1_ForecastExtends.l0])
           | succ k4 =>
            have H := HA.out
            clear HA
            simp only [ephemerislaw1_ForecastExtends.l0] at H
            by_cases c64 : x15_4 ≤ a3
            ·rw [if_pos c64] at H
             have c64b0 : decide (x15_4 ≤ a3) = true := decide_eq_true c64
             clear c64
             by_cases c65 : (x291002_4.length : Int) > 0
             ·rw [if_pos c65] at H
              have c65b0 : decide (0 < (x291002_4.length : Int)) = true := decide_eq_true c65
              have c65b1 : decide (0 < x291002_4.length) = true := decide_eq_true (by omega)
              clear c65
              obtain ⟨ji66, hji66⟩ : ∃ j_ : Int, (wrap64 ((x291002_4.length : Int) - 1)) = j_ := ⟨_, rfl⟩
              replace H : (if 0 ≤ (ji66) then (if (ji66) < (x291002_4.length : Int) then ((ephemerisref1_ZoneYear.f k4 l1 ((rd_T43 x291002_4 (ji66)).f1) x15_4).bind fun t295 => (if x291002_4.length + t295.length < 4398046511104 then (ephemerislaw1_ForecastExtends.l0 k4 l1 a3 t283 (wrap64 (x15_4 + 1)) t278 t279 t280 a0_0 a0_1 (x291002_4 ++ t295)) else (none))) else (none)) else (none)) = some r := by first | (rw [hji66] at H; exact H) | (simp only [hji66] at H ⊢; exact H)
              have hji66w : (IntKind.i64.wrap ((x291002_4.length : Int) - 1)) = ji66 := (i64_w _).trans hji66
              by_cases c67 : 0 ≤ (ji66)
              ·rw [if_pos c67] at H
               have c67b0 : decide (0 ≤ (ji66)) = true := decide_eq_true c67
               clear c67
               by_cases c68 : (ji66) < (x291002_4.length : Int)
               ·rw [if_pos c68] at H
                have c68b0 : decide ((ji66) < (x291002_4.length : Int)) = true := decide_eq_true c68
                clear c68
                replace H := Option.bind_eq_some_iff.mp H
                obtain ⟨t295, A690, H⟩ := H
                replace H : (if x291002_4.length + t295.length < 4398046511104 then (ephemerislaw1_ForecastExtends.l0 k4 l1 a3 t283 (wrap64 (x15_4 + 1)) t278 t279 t280 a0_0 a0_1 (x291002_4 ++ t295)) else (none)) = some r := H
                have A69 := Aside0.mk A690
                clear A690
                by_cases c70 : x291002_4.length + t295.length < 4398046511104
                ·rw [if_pos c70] at H
                 have LMc70 := Aside0.mk c70
                 clear c70
                 obtain ⟨y298, hy298⟩ : ∃ y_ : List (S43), y_ = (x291002_4 ++ t295) := ⟨_, rfl⟩
                 replace H : (ephemerislaw1_ForecastExtends.l0 k4 l1 a3 t283 (wrap64 (x15_4 + 1)) t278 t279 t280 a0_0 a0_1 y298) = some r := rp hy298 H
                 have Ny298 := Aside0.mk hy298
                 clear hy298
                 have H' := Aside0.mk H
                 clear H
                 have hnb71 := NB290_266.out
                 have hnc71 := NB266_290.out
                 have hnb72 := NB290_276.out
                 have hnc72 := NB276_290.out
                 have hnb73 := NB290_284.out
                 have hnc73 := NB284_290.out
                 obtain ⟨hcz74_0, hcz74_1, hcz74_2, hfz74_0, hfz74_1, hfz74_2⟩ := bc3 BK290
                 obtain ⟨Ao75, co75, eo75⟩ := Kd.R_slice HO_291002.out
                 subst eo75
                 have p294 : 0 ≤ ((ji66) : Int) := of_decide_eq_true ka
                 have q294 : (ji66) < (x291002_4.length : Int) := of_decide_eq_true ka
                 obtain ⟨ad294, e294, hx294_0, hx294_1, hx294_2⟩ := at_T43 (Kd.R_reads' HO_291002.out).2.2 (ji66) p294 q294
                 cases e294
                 replace p294 := eq_true p294
                 replace q294 := eq_true q294
                 try go_wp2
                 have n0_ := Aside0.mk (Kd.R_drew HO_277002.out)
                 have n1_ := Aside0.mk (Kd.R_drew HO_285002.out)
                 have n2_ := Aside0.mk (Kd.R_drew HO_291002.out)
                 have n3_ := Aside0.mk (blk_drew BK266.out)
                 have n4_ := Aside0.mk (blk_drew BK276.out)
                 have n5_ := Aside0.mk (blk_drew BK284.out)
                 have n6_ := Aside0.mk (blk_drew BK290.out)
                 have n7_ := Aside0.mk (below_drew1 HB.out)
                 clear HO_277002
                 clear HO_285002
                 clear HO_291002
                 clear BK266
                 clear BK276
                 clear BK284
                 clear BK290
                 clear HB
                 have HO_277002 := n0_
                 have HO_285002 := n1_
                 have HO_291002 := n2_
                 have BK266 := n3_
                 have BK276 := n4_
                 have BK284 := n5_
                 have BK290 := n6_
                 have HB := n7_
                 clear n0_ n1_ n2_ n3_ n4_ n5_ n6_ n7_
                 refine start_ (n := 9) (S := fun w' => w'.cell? ⟨gb290, 0, none⟩ = some (.string a0_0) ∧ w'.cell? ⟨gb290, 1, none⟩ = some (.int .i64 a0_1) ∧ w'.cell? ⟨gb290, 2, none⟩ = some (.slice (some ad294) x291002_4.length co75)) (ds := [8]) #[false, false, false, false, false, false, false, false, false] kx rfl rfl ⟨(blk_cell BK290.out 0).trans rfl, (blk_cell BK290.out 1).trans rfl, (blk_cell BK290.out 2).trans rfl⟩ (fun hHeld => ?_); refine with_tabW ephemerislaw1_ForecastExtends.tab24 ephemerislaw1_ForecastExtends.bits24 (fun HT_ HW_ => ?_)
                 generalize wr.drew = w76 at HO_277002 HO_285002 HO_291002 BK266 BK276 BK284 BK290 HB hHeld ⊢
                 refine pure_ (i := 0) (N := some 114) (v := ?_) (a' := ?_) #[true, false, false, false, false, false, false, false, false] rfl rfl (any_of HT_.out kx) (fun _ _ _ h => h) (Or.inl ⟨by rfl, ?_⟩) ?_ ?_
                 rotate_left
                 ·intro w'
                  go_simp
                  with_reducible rfl
                 rotate_left
                 ·simp only [Act.put, List.setIfInBounds_toArray, List.set_cons_zero, List.set_cons_succ, i64_w, i32_w]
                  rfl
                 refine pure_ (i := 2) (N := some 116) (v := ?_) (a' := ?_) #[true, false, true, false, false, false, false, false, false] rfl rfl (any_of HT_.out kx) (fun _ _ _ h => h) (Or.inl ⟨by rfl, ?_⟩) ?_ ?_
                 rotate_left
                 ·intro w'
                  go_simp
                  with_reducible rfl
                 rotate_left
                 ·simp only [Act.put, List.setIfInBounds_toArray, List.set_cons_zero, List.set_cons_succ, i64_w, i32_w]
                  rfl
                 refine pure_ (i := 3) (N := some 117) (v := ?_) (a' := ?_) #[true, false, true, true, false, false, false, false, false] rfl rfl (any_of HT_.out kx) (fun _ _ _ h => h) (Or.inl ⟨by rfl, ?_⟩) ?_ ?_
                 rotate_left
                 ·intro w'
                  go_simp
                  with_reducible rfl
                 rotate_left
                 ·simp only [Act.put, List.setIfInBounds_toArray, List.set_cons_zero, List.set_cons_succ, i64_w, i32_w]
                  rfl
                 refine pure_ (i := 4) (N := some 118) (v := ?_) (a' := ?_) #[true, false, true, true, true, false, false, false, false] rfl rfl (any_of HT_.out kx) (fun _ _ _ h => h) (Or.inl ⟨by rfl, ?_⟩) ?_ ?_
                 rotate_left
                 ·intro w'
                  go_simp
                  with_reducible rfl
                 rotate_left
                 ·simp only [Act.put, List.setIfInBounds_toArray, List.set_cons_zero, List.set_cons_succ, i64_w, i32_w]
                  rfl
                 refine take_ (i := 1) (N := some 115) (v := ?_) (a' := ?_) #[true, true, true, true, true, false, false, false, false] rfl rfl (take_ofW HT_.out HW_.out kx) (fun _ _ _ h => h) (Or.inl ⟨by rfl, ?_⟩) hHeld ?_ ?_
                 rotate_left
                 ·rintro w' ⟨s0, s1, s2⟩
                  go_simp
                  with_reducible rfl
                 rotate_left
                 ·simp only [Act.put, List.setIfInBounds_toArray, List.set_cons_zero, List.set_cons_succ, i64_w, i32_w]
                  rfl
                 refine one_ (i := 5) (N := some 119) #[true, true, true, true, true, true, false, false, false] rfl rfl (one_of HT_.out kx) (by decide) (fun K hK => ?_)
                 refine goes_ Tryd.func22 kx rfl #[.slice A1 l1.length c1, .int .i64 ((rd_T43 x291002_4 (ji66)).f1), .int .i64 x15_4] (by rfl) rfl rfl (by (try simp only [List.map_toArray, List.map_cons, List.map_nil]); first | done | (simp only [hji66]; rfl) | rfl | (simp only [List.length_drop, List.length_take]; rfl)) ?_
                 with_reducible refine (ephemerisref1_ZoneYear.calls k4 _ _ l1 ((rd_T43 x291002_4 (ji66)).f1) x15_4 t295 _ ?side1 ?side2 A69.out).mono ?_
                 (case side1 => exact kc (Kd.C_below HR1.out HB.out))
                 (case side2 => exact HC1.out)
                 rintro e w77 ⟨v296, rfl, ho0, hb⟩
                 refine ⟨_, rfl, ?_⟩
                 have n0_ := Aside0.mk (Kd.R_elder' (by (with_reducible repeat (first | apply Kd.R_alloc | apply Kd.R_drewN | apply Kd.R_drew)); exact HO_277002.out) (Kd.R_base ho0) hb)
                 have n1_ := Aside0.mk (Kd.R_elder' (by (with_reducible repeat (first | apply Kd.R_alloc | apply Kd.R_drewN | apply Kd.R_drew)); exact HO_285002.out) (Kd.R_base ho0) hb)
                 have n2_ := Aside0.mk (Kd.R_elder' (by (with_reducible repeat (first | apply Kd.R_alloc | apply Kd.R_drewN | apply Kd.R_drew)); exact HO_291002.out) (Kd.R_base ho0) hb)
                 have n3_ := Aside0.mk (Kd.R_lower (Kd.R_new' (Kd.R_new' (Kd.R_new' ho0 (Kd.R_lt (by (with_reducible repeat (first | apply Kd.R_alloc | apply Kd.R_drewN | apply Kd.R_drew)); exact HO_277002.out))) (Kd.R_lt (by (with_reducible repeat (first | apply Kd.R_alloc | apply Kd.R_drewN | apply Kd.R_drew)); exact HO_285002.out))) (Kd.R_lt (by (with_reducible repeat (first | apply Kd.R_alloc | apply Kd.R_drewN | apply Kd.R_drew)); exact HO_291002.out))) (below_size be))
                 have n4_ := bb BK266 hb
                 have n5_ := bb BK276 hb
                 have n6_ := bb BK284 hb
                 have n7_ := bb BK290 hb
                 have n8_ := Aside0.mk (below_step be hb)
                 clear HO_277002
                 clear HO_285002
                 clear HO_291002
                 clear BK266
                 clear BK276
                 clear BK284
                 clear BK290
                 clear HB
                 have HO_277002 := n0_
                 have HO_285002 := n1_
                 have HO_291002 := n2_
                 have HO297 := n3_
                 have BK266 := n4_
                 have BK276 := n5_
                 have BK284 := n6_
                 have BK290 := n7_
                 have HB := n8_
                 clear n0_ n1_ n2_ n3_ n4_ n5_ n6_ n7_ n8_
                 (try clear hb)
                 (try clear hb2)
                 (try clear hk)
                 (try clear hi)
                 (try clear ho0)
                 obtain ⟨Ao79, co79, eo79⟩ := Kd.R_slice HO297.out
                 (first | subst eo79 | (injection eo79 with f1_ f2_ f3_; have f4_ := f1_.symm; have f5_ := f3_.symm; clear f1_ f2_ f3_; subst f4_; subst f5_))
                 refine hK.out _ _ ⟨(blk_cell BK290.out 0).trans rfl, (blk_cell BK290.out 1).trans rfl, (blk_cell BK290.out 2).trans rfl⟩ (fun hHeld => ?_)
                 clear hK K
                 refine norm_ (a' := ?_) ?_ ?_
                 rotate_left
                 ·show Act.put _ (some 119) _ = _
                  simp only [Act.put, List.setIfInBounds_toArray, List.set_cons_zero, List.set_cons_succ, i64_w, i32_w]
                  rfl
                 refine one_ (i := 6) (N := some 120) #[true, true, true, true, true, true, true, false, false] rfl rfl (one_of HT_.out kx) (by decide) (fun K hK => ?_)
                 refine Kd.R_append_rows_step k43 (w0 := w) w.heap.size (by rfl) (.tmp 115) (.tmp 119) 22 43 (.agg #[(.int .i64 0), (.int .i64 0), (.string ⟨#[]⟩)]) 32 rfl Tryd.underlying22 info43 rfl (by decide) (by omega) (.slice (some ad294) x291002_4.length co75) x291002_4 t295 _ _ _ (fun k_ => some k_ ≠ (.slice Ao15 t272.length co15 : Value).ownBlock ∧ some k_ ≠ (.slice Ao34 t280.length co34 : Value).ownBlock ∧ some k_ ≠ (.slice Ao79 t295.length co79 : Value).ownBlock) (fun _ => False) rfl rfl ?aO ?aR (fun _ _ h => h) (fun _ h => h.elim) ?aF ?aB ?aS ?aL ?_
                 (case aR => repeat (first | exact (Kd.R_reads' HO297.out).2.2 | (with_reducible refine Kd.C_alloc ?_ _) | (with_reducible refine Kd.C_drewN ?_ _) | (with_reducible refine Kd.C_drew ?_)))
                 (case aB => exact be)
                 (case aF => exact (fun k_ hk => ⟨Kd.fresh' (Kd.R_lt (by (with_reducible repeat (first | apply Kd.R_alloc | apply Kd.R_drewN | apply Kd.R_drew)); exact HO_277002.out)) k_ hk, Kd.fresh' (Kd.R_lt (by (with_reducible repeat (first | apply Kd.R_alloc | apply Kd.R_drewN | apply Kd.R_drew)); exact HO_285002.out)) k_ hk, Kd.fresh' (Kd.R_lt (by (with_reducible repeat (first | apply Kd.R_alloc | apply Kd.R_drewN | apply Kd.R_drew)); exact HO297.out)) k_ hk⟩))
                 (case aO => exact (by (with_reducible repeat (first | apply Kd.R_alloc | apply Kd.R_drewN | apply Kd.R_drew)); exact Kd.R_mono HO_291002.out (fun _ hk => ⟨hk.1.1, ⟨hk.1.2, hk.2⟩⟩)))
                 (case aS => exact (below_size be))
                 (case aL => have := LMc70.out; omega)
                 intro v299 w78 ho hb hg hat
                 rw [← Ny298.out] at ho
                 have n0_ := Aside0.mk (Kd.R_after (ok := (fun k_ => some k_ ≠ (.slice Ao34 t280.length co34 : Value).ownBlock ∧ some k_ ≠ (.slice Ao79 t295.length co79 : Value).ownBlock)) (by (with_reducible repeat (first | apply Kd.R_alloc | apply Kd.R_drewN | apply Kd.R_drew)); exact Kd.R_mono HO_277002.out (fun _ hk => ⟨⟨hk.1.1, hk.2⟩, hk.1.2⟩)) hg hat)
                 have n1_ := Aside0.mk (Kd.R_after (ok := (fun k_ => some k_ ≠ (.slice Ao15 t272.length co15 : Value).ownBlock ∧ some k_ ≠ (.slice Ao79 t295.length co79 : Value).ownBlock)) (by (with_reducible repeat (first | apply Kd.R_alloc | apply Kd.R_drewN | apply Kd.R_drew)); exact Kd.R_mono HO_285002.out (fun _ hk => ⟨⟨hk.1.1, hk.2⟩, hk.1.2⟩)) hg hat)
                 have n2_ := Aside0.mk (blk_grown (g := gb266) (o := .cells #[.string a0_0, .int .i64 a0_1, .slice A0_2 l0_2.length c0_2] 24 (0, 0)) (bk BK266) hg (Kd.R_ne HO_291002.out BK266.out (by decide)))
                 have n3_ := Aside0.mk (blk_grown (g := gb276) (o := .cells #[.string t270, .int .i64 t271, .slice Ao15 t272.length co15] 24 (0, 0)) (bk BK276) hg (Kd.R_ne HO_291002.out BK276.out (by decide)))
                 have n4_ := Aside0.mk (blk_grown (g := gb284) (o := .cells #[.string t278, .int .i64 t279, .slice Ao34 t280.length co34] 24 (0, 0)) (bk BK284) hg (Kd.R_ne HO_291002.out BK284.out (by decide)))
                 have n5_ := Aside0.mk (blk_grown (g := gb290) (o := .cells #[.string a0_0, .int .i64 a0_1, .slice (some ad294) x291002_4.length co75] 24 (0, 0)) (bk BK290) hg (Kd.R_ne HO_291002.out BK290.out (by decide)))
                 have n6_ := Aside0.mk (Kd.R_after (ok := (fun k_ => some k_ ≠ (.slice Ao15 t272.length co15 : Value).ownBlock ∧ some k_ ≠ (.slice Ao34 t280.length co34 : Value).ownBlock)) (by (with_reducible repeat (first | apply Kd.R_alloc | apply Kd.R_drewN | apply Kd.R_drew)); exact Kd.R_mono HO297.out (fun _ hk => ⟨⟨hk.1.1.2, hk.1.2⟩, hk.2⟩)) hg hat)
                 have n7_ := Aside0.mk (hb)
                 have n8_ := Aside0.mk (ho)
                 clear HO_277002
                 clear HO_285002
                 clear BK266
                 clear BK276
                 clear BK284
                 clear BK290
                 clear HO297
                 clear HB
                 clear HO_291002
                 have HO_277002 := n0_
                 have HO_285002 := n1_
                 have BK266 := n2_
                 have BK276 := n3_
                 have BK284 := n4_
                 have BK290 := n5_
                 have HO297 := n6_
                 have HB := n7_
                 have HO300 := n8_
                 clear n0_ n1_ n2_ n3_ n4_ n5_ n6_ n7_ n8_
                 clear ho hb hg hat
                 obtain ⟨Ao80, co80, eo80⟩ := Kd.R_slice HO300.out
                 (first | subst eo80 | (injection eo80 with f1_ f2_ f3_; have f4_ := f1_.symm; have f5_ := f3_.symm; clear f1_ f2_ f3_; subst f4_; subst f5_))
                 refine hK.out _ _ ⟨(blk_cell BK290.out 0).trans rfl, (blk_cell BK290.out 1).trans rfl, (blk_cell BK290.out 2).trans rfl⟩ (fun hHeld => ?_)
                 clear hK K
                 refine norm_ (a' := ?_) ?_ ?_
                 rotate_left
                 ·show Act.put _ (some 120) _ = _
                  simp only [Act.put, List.setIfInBounds_toArray, List.set_cons_zero, List.set_cons_succ, i64_w, i32_w]
                  rfl
                 refine pure_ (i := 7) (N := some 121) (v := ?_) (a' := ?_) #[true, true, true, true, true, true, true, true, false] rfl rfl (any_of HT_.out kx) (fun _ _ _ h => h) (Or.inl ⟨by rfl, ?_⟩) ?_ ?_
                 rotate_left
                 ·intro w'
                  go_simp
                  with_reducible rfl
                 rotate_left
                 ·simp only [Act.put, List.setIfInBounds_toArray, List.set_cons_zero, List.set_cons_succ, i64_w, i32_w]
                  rfl
                 refine last_ (i := 8) (N := none) #[true, true, true, true, true, true, true, true, true] rfl rfl (one_of HT_.out kx) (by decide) (fun K hK => ?_)
                 have hs81 : w78.cell? ⟨gb290, 2, none⟩ = some (.slice (some ad294) x291002_4.length co75) := (blk_cell BK290.out 2).trans rfl
                 have hfs81 := blk_frozen BK290.out 2
                 have hns81_0 := NB266_290.out
                 have hns81_1 := NB276_290.out
                 have hns81_2 := NB284_290.out
                 have hms81_0 := NB290_266.out
                 have hms81_1 := NB290_276.out
                 have hms81_2 := NB290_284.out
                 refine skip_ (w1 := ?_) (by rfl) rfl ?_ ?_
                 rotate_left
                 ·go_simp
                  rfl
                 refine hK.out _ _ ?_
                 clear hK K
                 refine done_ (done_of HT_.out kx) ?_
                 try go_wp2
                 go_roundg k4
                 case measure => have := HJ6.out; have := HJ25.out; have := HJ41.out; have := HK4.out; omega
                 case rel => exact ⟨(wrap64 (x15_4 + 1)), (y298), (.slice Ao80 y298.length co80), rs, H', ⟨by have := HJ6.out; have := HJ25.out; have := HJ41.out; have := HK4.out; omega⟩, ⟨by (with_reducible repeat (first | apply Kd.R_alloc | apply Kd.R_drewN | apply Kd.R_drew)); exact Kd.R_mono (Kd.R_far (p := ⟨gb290, 2, none⟩) (Kd.R_types HO_277002.out BK290.out (by decide)) (fun _ hk => hk.2) (.slice Ao80 y298.length co80)) (fun _ hk => ⟨hk.1.1.1, hk.1.2⟩)⟩, ⟨by (with_reducible repeat (first | apply Kd.R_alloc | apply Kd.R_drewN | apply Kd.R_drew)); exact Kd.R_mono (Kd.R_far (p := ⟨gb290, 2, none⟩) (Kd.R_types HO_285002.out BK290.out (by decide)) (fun _ hk => hk.2) (.slice Ao80 y298.length co80)) (fun _ hk => ⟨hk.1.1.1, hk.1.2⟩)⟩, ⟨by (with_reducible repeat (first | apply Kd.R_alloc | apply Kd.R_drewN | apply Kd.R_drew)); exact Kd.R_mono (Kd.R_far (p := ⟨gb290, 2, none⟩) (Kd.R_types HO300.out BK290.out (by decide)) (fun _ hk => hk.2) (.slice Ao80 y298.length co80)) (fun _ hk => ⟨hk.1.1, hk.1.2.1⟩)⟩, ⟨bk BK266⟩, ⟨bk BK276⟩, ⟨bk BK284⟩, ⟨bk BK290⟩, ⟨be⟩⟩
                ·rw [if_neg c70] at H
                 exact absurd H (by simp)
               ·rw [if_neg c68] at H
                exact absurd H (by simp)
              ·rw [if_neg c67] at H
               exact absurd H (by simp)
             ·rw [if_neg c65] at H
              have c65b0 : decide (0 < (x291002_4.length : Int)) = false := decide_eq_false c65
              have c65b1 : decide (0 < x291002_4.length) = false := decide_eq_false (by omega)
              clear c65
              replace H := Option.bind_eq_some_iff.mp H
              obtain ⟨t301, A820, H⟩ := H
              replace H : (if x291002_4.length + t301.length < 4398046511104 then (ephemerislaw1_ForecastExtends.l0 k4 l1 a3 t283 (wrap64 (x15_4 + 1)) t278 t279 t280 a0_0 a0_1 (x291002_4 ++ t301)) else (none)) = some r := H
              have A82 := Aside0.mk A820
              clear A820
              by_cases c83 : x291002_4.length + t301.length < 4398046511104
              ·rw [if_pos c83] at H
               have LMc83 := Aside0.mk c83
               clear c83
               obtain ⟨y304, hy304⟩ : ∃ y_ : List (S43), y_ = (x291002_4 ++ t301) := ⟨_, rfl⟩
               replace H : (ephemerislaw1_ForecastExtends.l0 k4 l1 a3 t283 (wrap64 (x15_4 + 1)) t278 t279 t280 a0_0 a0_1 y304) = some r := rp hy304 H
               have Ny304 := Aside0.mk hy304
               clear hy304
               have H' := Aside0.mk H
               clear H
               have hnb84 := NB290_266.out
               have hnc84 := NB266_290.out
               have hnb85 := NB290_276.out
               have hnc85 := NB276_290.out
               have hnb86 := NB290_284.out
               have hnc86 := NB284_290.out
               obtain ⟨hcz87_0, hcz87_1, hcz87_2, hfz87_0, hfz87_1, hfz87_2⟩ := bc3 BK290
               obtain ⟨Ao88, co88, eo88⟩ := Kd.R_slice HO_291002.out
               subst eo88
               try go_wp2
               have n0_ := Aside0.mk (Kd.R_drew HO_277002.out)
               have n1_ := Aside0.mk (Kd.R_drew HO_285002.out)
               have n2_ := Aside0.mk (Kd.R_drew HO_291002.out)
               have n3_ := Aside0.mk (blk_drew BK266.out)
               have n4_ := Aside0.mk (blk_drew BK276.out)
               have n5_ := Aside0.mk (blk_drew BK284.out)
               have n6_ := Aside0.mk (blk_drew BK290.out)
               have n7_ := Aside0.mk (below_drew1 HB.out)
               clear HO_277002
               clear HO_285002
               clear HO_291002
               clear BK266
               clear BK276
               clear BK284
               clear BK290
               clear HB
               have HO_277002 := n0_
               have HO_285002 := n1_
               have HO_291002 := n2_
               have BK266 := n3_
               have BK276 := n4_
               have BK284 := n5_
               have BK290 := n6_
               have HB := n7_
               clear n0_ n1_ n2_ n3_ n4_ n5_ n6_ n7_
               refine start_ (n := 9) (S := fun w' => w'.cell? ⟨gb290, 0, none⟩ = some (.string a0_0) ∧ w'.cell? ⟨gb290, 1, none⟩ = some (.int .i64 a0_1) ∧ w'.cell? ⟨gb290, 2, none⟩ = some (.slice Ao88 x291002_4.length co88)) (ds := [8]) #[false, false, false, false, false, false, false, false, false] kx rfl rfl ⟨(blk_cell BK290.out 0).trans rfl, (blk_cell BK290.out 1).trans rfl, (blk_cell BK290.out 2).trans rfl⟩ (fun hHeld => ?_); refine with_tabW ephemerislaw1_ForecastExtends.tab24 ephemerislaw1_ForecastExtends.bits24 (fun HT_ HW_ => ?_)
               generalize wr.drew = w89 at HO_277002 HO_285002 HO_291002 BK266 BK276 BK284 BK290 HB hHeld ⊢
               refine pure_ (i := 0) (N := some 114) (v := ?_) (a' := ?_) #[true, false, false, false, false, false, false, false, false] rfl rfl (any_of HT_.out kx) (fun _ _ _ h => h) (Or.inl ⟨by rfl, ?_⟩) ?_ ?_
               rotate_left
               ·intro w'
                go_simp
                with_reducible rfl
               rotate_left
               ·simp only [Act.put, List.setIfInBounds_toArray, List.set_cons_zero, List.set_cons_succ, i64_w, i32_w]
                rfl
               refine pure_ (i := 2) (N := some 116) (v := ?_) (a' := ?_) #[true, false, true, false, false, false, false, false, false] rfl rfl (any_of HT_.out kx) (fun _ _ _ h => h) (Or.inl ⟨by rfl, ?_⟩) ?_ ?_
               rotate_left
               ·intro w'
                go_simp
                with_reducible rfl
               rotate_left
               ·simp only [Act.put, List.setIfInBounds_toArray, List.set_cons_zero, List.set_cons_succ, i64_w, i32_w]
                rfl
               refine pure_ (i := 3) (N := some 117) (v := ?_) (a' := ?_) #[true, false, true, true, false, false, false, false, false] rfl rfl (any_of HT_.out kx) (fun _ _ _ h => h) (Or.inl ⟨by rfl, ?_⟩) ?_ ?_
               rotate_left
               ·intro w'
                go_simp
                with_reducible rfl
               rotate_left
               ·simp only [Act.put, List.setIfInBounds_toArray, List.set_cons_zero, List.set_cons_succ, i64_w, i32_w]
                rfl
               refine pure_ (i := 4) (N := some 118) (v := ?_) (a' := ?_) #[true, false, true, true, true, false, false, false, false] rfl rfl (any_of HT_.out kx) (fun _ _ _ h => h) (Or.inl ⟨by rfl, ?_⟩) ?_ ?_
               rotate_left
               ·intro w'
                go_simp
                with_reducible rfl
               rotate_left
               ·simp only [Act.put, List.setIfInBounds_toArray, List.set_cons_zero, List.set_cons_succ, i64_w, i32_w]
                rfl
               refine take_ (i := 1) (N := some 115) (v := ?_) (a' := ?_) #[true, true, true, true, true, false, false, false, false] rfl rfl (take_ofW HT_.out HW_.out kx) (fun _ _ _ h => h) (Or.inl ⟨by rfl, ?_⟩) hHeld ?_ ?_
               rotate_left
               ·rintro w' ⟨s0, s1, s2⟩
                go_simp
                with_reducible rfl
               rotate_left
               ·simp only [Act.put, List.setIfInBounds_toArray, List.set_cons_zero, List.set_cons_succ, i64_w, i32_w]
                rfl
               refine one_ (i := 5) (N := some 119) #[true, true, true, true, true, true, false, false, false] rfl rfl (one_of HT_.out kx) (by decide) (fun K hK => ?_)
               refine goes_ Tryd.func22 kx rfl #[.slice A1 l1.length c1, .int .i64 a0_1, .int .i64 x15_4] (by rfl) rfl rfl aa ?_
               with_reducible refine (ephemerisref1_ZoneYear.calls k4 _ _ l1 a0_1 x15_4 t301 _ ?side1 ?side2 A82.out).mono ?_
               (case side1 => exact kc (Kd.C_below HR1.out HB.out))
               (case side2 => exact HC1.out)
               rintro e w90 ⟨v302, rfl, ho0, hb⟩
               refine ⟨_, rfl, ?_⟩
               have n0_ := Aside0.mk (Kd.R_elder' (by (with_reducible repeat (first | apply Kd.R_alloc | apply Kd.R_drewN | apply Kd.R_drew)); exact HO_277002.out) (Kd.R_base ho0) hb)
               have n1_ := Aside0.mk (Kd.R_elder' (by (with_reducible repeat (first | apply Kd.R_alloc | apply Kd.R_drewN | apply Kd.R_drew)); exact HO_285002.out) (Kd.R_base ho0) hb)
               have n2_ := Aside0.mk (Kd.R_elder' (by (with_reducible repeat (first | apply Kd.R_alloc | apply Kd.R_drewN | apply Kd.R_drew)); exact HO_291002.out) (Kd.R_base ho0) hb)
               have n3_ := Aside0.mk (Kd.R_lower (Kd.R_new' (Kd.R_new' (Kd.R_new' ho0 (Kd.R_lt (by (with_reducible repeat (first | apply Kd.R_alloc | apply Kd.R_drewN | apply Kd.R_drew)); exact HO_277002.out))) (Kd.R_lt (by (with_reducible repeat (first | apply Kd.R_alloc | apply Kd.R_drewN | apply Kd.R_drew)); exact HO_285002.out))) (Kd.R_lt (by (with_reducible repeat (first | apply Kd.R_alloc | apply Kd.R_drewN | apply Kd.R_drew)); exact HO_291002.out))) (below_size be))
               have n4_ := bb BK266 hb
               have n5_ := bb BK276 hb
               have n6_ := bb BK284 hb
               have n7_ := bb BK290 hb
               have n8_ := Aside0.mk (below_step be hb)
               clear HO_277002
               clear HO_285002
               clear HO_291002
               clear BK266
               clear BK276
               clear BK284
               clear BK290
               clear HB
               have HO_277002 := n0_
               have HO_285002 := n1_
               have HO_291002 := n2_
               have HO303 := n3_
               have BK266 := n4_
               have BK276 := n5_
               have BK284 := n6_
               have BK290 := n7_
               have HB := n8_
               clear n0_ n1_ n2_ n3_ n4_ n5_ n6_ n7_ n8_
               (try clear hb)
               (try clear hb2)
               (try clear hk)
               (try clear hi)
               (try clear ho0)
               obtain ⟨Ao92, co92, eo92⟩ := Kd.R_slice HO303.out
               (first | subst eo92 | (injection eo92 with f1_ f2_ f3_; have f4_ := f1_.symm; have f5_ := f3_.symm; clear f1_ f2_ f3_; subst f4_; subst f5_))
               refine hK.out _ _ ⟨(blk_cell BK290.out 0).trans rfl, (blk_cell BK290.out 1).trans rfl, (blk_cell BK290.out 2).trans rfl⟩ (fun hHeld => ?_)
               clear hK K
               refine norm_ (a' := ?_) ?_ ?_
               rotate_left
               ·show Act.put _ (some 119) _ = _
                simp only [Act.put, List.setIfInBounds_toArray, List.set_cons_zero, List.set_cons_succ, i64_w, i32_w]
                rfl
               refine one_ (i := 6) (N := some 120) #[true, true, true, true, true, true, true, false, false] rfl rfl (one_of HT_.out kx) (by decide) (fun K hK => ?_)
               refine Kd.R_append_rows_step k43 (w0 := w) w.heap.size (by rfl) (.tmp 115) (.tmp 119) 22 43 (.agg #[(.int .i64 0), (.int .i64 0), (.string ⟨#[]⟩)]) 32 rfl Tryd.underlying22 info43 rfl (by decide) (by omega) (.slice Ao88 x291002_4.length co88) x291002_4 t301 _ _ _ (fun k_ => some k_ ≠ (.slice Ao15 t272.length co15 : Value).ownBlock ∧ some k_ ≠ (.slice Ao34 t280.length co34 : Value).ownBlock ∧ some k_ ≠ (.slice Ao92 t301.length co92 : Value).ownBlock) (fun _ => False) rfl rfl ?aO ?aR (fun _ _ h => h) (fun _ h => h.elim) ?aF ?aB ?aS ?aL ?_
               (case aR => repeat (first | exact (Kd.R_reads' HO303.out).2.2 | (with_reducible refine Kd.C_alloc ?_ _) | (with_reducible refine Kd.C_drewN ?_ _) | (with_reducible refine Kd.C_drew ?_)))
               (case aB => exact be)
               (case aF => exact (fun k_ hk => ⟨Kd.fresh' (Kd.R_lt (by (with_reducible repeat (first | apply Kd.R_alloc | apply Kd.R_drewN | apply Kd.R_drew)); exact HO_277002.out)) k_ hk, Kd.fresh' (Kd.R_lt (by (with_reducible repeat (first | apply Kd.R_alloc | apply Kd.R_drewN | apply Kd.R_drew)); exact HO_285002.out)) k_ hk, Kd.fresh' (Kd.R_lt (by (with_reducible repeat (first | apply Kd.R_alloc | apply Kd.R_drewN | apply Kd.R_drew)); exact HO303.out)) k_ hk⟩))
               (case aO => exact (by (with_reducible repeat (first | apply Kd.R_alloc | apply Kd.R_drewN | apply Kd.R_drew)); exact Kd.R_mono HO_291002.out (fun _ hk => ⟨hk.1.1, ⟨hk.1.2, hk.2⟩⟩)))
               (case aS => exact (below_size be))
               (case aL => have := LMc83.out; omega)
               intro v305 w91 ho hb hg hat
               rw [← Ny304.out] at ho
               have n0_ := Aside0.mk (Kd.R_after (ok := (fun k_ => some k_ ≠ (.slice Ao34 t280.length co34 : Value).ownBlock ∧ some k_ ≠ (.slice Ao92 t301.length co92 : Value).ownBlock)) (by (with_reducible repeat (first | apply Kd.R_alloc | apply Kd.R_drewN | apply Kd.R_drew)); exact Kd.R_mono HO_277002.out (fun _ hk => ⟨⟨hk.1.1, hk.2⟩, hk.1.2⟩)) hg hat)
               have n1_ := Aside0.mk (Kd.R_after (ok := (fun k_ => some k_ ≠ (.slice Ao15 t272.length co15 : Value).ownBlock ∧ some k_ ≠ (.slice Ao92 t301.length co92 : Value).ownBlock)) (by (with_reducible repeat (first | apply Kd.R_alloc | apply Kd.R_drewN | apply Kd.R_drew)); exact Kd.R_mono HO_285002.out (fun _ hk => ⟨⟨hk.1.1, hk.2⟩, hk.1.2⟩)) hg hat)
               have n2_ := Aside0.mk (blk_grown (g := gb266) (o := .cells #[.string a0_0, .int .i64 a0_1, .slice A0_2 l0_2.length c0_2] 24 (0, 0)) (bk BK266) hg (Kd.R_ne HO_291002.out BK266.out (by decide)))
               have n3_ := Aside0.mk (blk_grown (g := gb276) (o := .cells #[.string t270, .int .i64 t271, .slice Ao15 t272.length co15] 24 (0, 0)) (bk BK276) hg (Kd.R_ne HO_291002.out BK276.out (by decide)))
               have n4_ := Aside0.mk (blk_grown (g := gb284) (o := .cells #[.string t278, .int .i64 t279, .slice Ao34 t280.length co34] 24 (0, 0)) (bk BK284) hg (Kd.R_ne HO_291002.out BK284.out (by decide)))
               have n5_ := Aside0.mk (blk_grown (g := gb290) (o := .cells #[.string a0_0, .int .i64 a0_1, .slice Ao88 x291002_4.length co88] 24 (0, 0)) (bk BK290) hg (Kd.R_ne HO_291002.out BK290.out (by decide)))
               have n6_ := Aside0.mk (Kd.R_after (ok := (fun k_ => some k_ ≠ (.slice Ao15 t272.length co15 : Value).ownBlock ∧ some k_ ≠ (.slice Ao34 t280.length co34 : Value).ownBlock)) (by (with_reducible repeat (first | apply Kd.R_alloc | apply Kd.R_drewN | apply Kd.R_drew)); exact Kd.R_mono HO303.out (fun _ hk => ⟨⟨hk.1.1.2, hk.1.2⟩, hk.2⟩)) hg hat)
               have n7_ := Aside0.mk (hb)
               have n8_ := Aside0.mk (ho)
               clear HO_277002
               clear HO_285002
               clear BK266
               clear BK276
               clear BK284
               clear BK290
               clear HO303
               clear HB
               clear HO_291002
               have HO_277002 := n0_
               have HO_285002 := n1_
               have BK266 := n2_
               have BK276 := n3_
               have BK284 := n4_
               have BK290 := n5_
               have HO303 := n6_
               have HB := n7_
               have HO306 := n8_
               clear n0_ n1_ n2_ n3_ n4_ n5_ n6_ n7_ n8_
               clear ho hb hg hat
               obtain ⟨Ao93, co93, eo93⟩ := Kd.R_slice HO306.out
               (first | subst eo93 | (injection eo93 with f1_ f2_ f3_; have f4_ := f1_.symm; have f5_ := f3_.symm; clear f1_ f2_ f3_; subst f4_; subst f5_))
               refine hK.out _ _ ⟨(blk_cell BK290.out 0).trans rfl, (blk_cell BK290.out 1).trans rfl, (blk_cell BK290.out 2).trans rfl⟩ (fun hHeld => ?_)
               clear hK K
               refine norm_ (a' := ?_) ?_ ?_
               rotate_left
               ·show Act.put _ (some 120) _ = _
                simp only [Act.put, List.setIfInBounds_toArray, List.set_cons_zero, List.set_cons_succ, i64_w, i32_w]
                rfl
               refine pure_ (i := 7) (N := some 121) (v := ?_) (a' := ?_) #[true, true, true, true, true, true, true, true, false] rfl rfl (any_of HT_.out kx) (fun _ _ _ h => h) (Or.inl ⟨by rfl, ?_⟩) ?_ ?_
               rotate_left
               ·intro w'
                go_simp
                with_reducible rfl
               rotate_left
               ·simp only [Act.put, List.setIfInBounds_toArray, List.set_cons_zero, List.set_cons_succ, i64_w, i32_w]
                rfl
               refine last_ (i := 8) (N := none) #[true, true, true, true, true, true, true, true, true] rfl rfl (one_of HT_.out kx) (by decide) (fun K hK => ?_)
               have hs94 : w91.cell? ⟨gb290, 2, none⟩ = some (.slice Ao88 x291002_4.length co88) := (blk_cell BK290.out 2).trans rfl
               have hfs94 := blk_frozen BK290.out 2
               have hns94_0 := NB266_290.out
               have hns94_1 := NB276_290.out
               have hns94_2 := NB284_290.out
               have hms94_0 := NB290_266.out
               have hms94_1 := NB290_276.out
               have hms94_2 := NB290_284.out
               refine skip_ (w1 := ?_) (by rfl) rfl ?_ ?_
               rotate_left
               ·go_simp
                rfl
               refine hK.out _ _ ?_
               clear hK K
               refine done_ (done_of HT_.out kx) ?_
               try go_wp2
               go_roundg k4
               case measure => have := HJ6.out; have := HJ25.out; have := HJ41.out; have := HK4.out; omega
               case rel => exact ⟨(wrap64 (x15_4 + 1)), (y304), (.slice Ao93 y304.length co93), rs, H', ⟨by have := HJ6.out; have := HJ25.out; have := HJ41.out; have := HK4.out; omega⟩, ⟨by (with_reducible repeat (first | apply Kd.R_alloc | apply Kd.R_drewN | apply Kd.R_drew)); exact Kd.R_mono (Kd.R_far (p := ⟨gb290, 2, none⟩) (Kd.R_types HO_277002.out BK290.out (by decide)) (fun _ hk => hk.2) (.slice Ao93 y304.length co93)) (fun _ hk => ⟨hk.1.1.1, hk.1.2⟩)⟩, ⟨by (with_reducible repeat (first | apply Kd.R_alloc | apply Kd.R_drewN | apply Kd.R_drew)); exact Kd.R_mono (Kd.R_far (p := ⟨gb290, 2, none⟩) (Kd.R_types HO_285002.out BK290.out (by decide)) (fun _ hk => hk.2) (.slice Ao93 y304.length co93)) (fun _ hk => ⟨hk.1.1.1, hk.1.2⟩)⟩, ⟨by (with_reducible repeat (first | apply Kd.R_alloc | apply Kd.R_drewN | apply Kd.R_drew)); exact Kd.R_mono (Kd.R_far (p := ⟨gb290, 2, none⟩) (Kd.R_types HO306.out BK290.out (by decide)) (fun _ hk => hk.2) (.slice Ao93 y304.length co93)) (fun _ hk => ⟨hk.1.1, hk.1.2.1⟩)⟩, ⟨bk BK266⟩, ⟨bk BK276⟩, ⟨bk BK284⟩, ⟨bk BK290⟩, ⟨be⟩⟩
              ·rw [if_neg c83] at H
               exact absurd H (by simp)
            ·rw [if_neg c64] at H
             have c64b0 : decide (x15_4 ≤ a3) = false := decide_eq_false c64
             clear c64
             replace H := Option.bind_eq_some_iff.mp H
             obtain ⟨t307, A950, H⟩ := H
             replace H : (if t307 = 0 then (if t283 = 0 then ((ephemerisref1_SameZone.f k4 t278 t279 t280 a0_0 a0_1 x291002_4).bind fun t308 => (some t308)) else (some false)) else ((ephemerisref1_SameZone.f k4 t278 t279 t280 (⟨#[]⟩ : ByteArray) 0 ([] : List (S43))).bind fun t309 => (if t309 = true then (some (t283 == t307)) else (some false)))) = some r := H
             have A95 := Aside0.mk A950
             clear A950
             by_cases c96 : t307 = 0
             ·rw [if_pos c96] at H
              have c96b0 : (t307 == 0) = true := beq_iff_eq.mpr c96
              have c96b1 : (t307 != 0) = false := bne_eq_false_iff_eq.mpr c96
              clear c96
              by_cases c97 : t283 = 0
              ·rw [if_pos c97] at H
               have c97b0 : (t283 == 0) = true := beq_iff_eq.mpr c97
               have c97b1 : (t283 != 0) = false := bne_eq_false_iff_eq.mpr c97
               clear c97
               replace H := Option.bind_eq_some_iff.mp H
               obtain ⟨t308, A980, H⟩ := H
               replace H : (some t308) = some r := H
               have A98 := Aside0.mk A980
               clear A980
               obtain rfl := Option.some.inj H
               have hnb99 := NB290_266.out
               have hnc99 := NB266_290.out
               have hnb100 := NB290_276.out
               have hnc100 := NB276_290.out
               have hnb101 := NB290_284.out
               have hnc101 := NB284_290.out
               obtain ⟨hcz102_0, hcz102_1, hcz102_2, hfz102_0, hfz102_1, hfz102_2⟩ := bc3 BK290
               obtain ⟨Ao103, co103, eo103⟩ := Kd.R_slice HO_291002.out
               subst eo103
               go_wp2_with (first | ((with_reducible refine gate_callee (f := 13) rfl ?_); refine goesL_ (some 123) rfl rfl Tryd.func13 kx rfl #[.agg #[.string a0_0, .int .i64 a0_1, .slice Ao103 x291002_4.length co103]] rfl aa ?_; (with_reducible refine (ephemerisref1_ZoneError.calls k4 a0_0 a0_1 _ _ x291002_4 t307 _ ?side1 ?side2 A95.out).mono ?_); (case side1 => repeat (first | exact (Kd.R_reads' HO_291002.out).2.2 | (with_reducible refine Kd.C_alloc ?_ _) | (with_reducible refine Kd.C_drewN ?_ _) | (with_reducible refine Kd.C_drew ?_))); (case side2 => exact (Kd.R_reads' HO_291002.out).2.1); rintro e w104 ⟨rfl, hb⟩; refine ⟨_, rfl, ?_⟩; have n0_ := Aside0.mk (Kd.R_below (by (with_reducible repeat (first | apply Kd.R_alloc | apply Kd.R_drewN | apply Kd.R_drew)); exact HO_277002.out) hb); have n1_ := Aside0.mk (Kd.R_below (by (with_reducible repeat (first | apply Kd.R_alloc | apply Kd.R_drewN | apply Kd.R_drew)); exact HO_285002.out) hb); have n2_ := Aside0.mk (Kd.R_below (by (with_reducible repeat (first | apply Kd.R_alloc | apply Kd.R_drewN | apply Kd.R_drew)); exact HO_291002.out) hb); have n3_ := bb BK266 hb; have n4_ := bb BK276 hb; have n5_ := bb BK284 hb; have n6_ := bb BK290 hb; have n7_ := Aside0.mk (below_step be hb); clear HO_277002; clear HO_285002; clear HO_291002; clear BK266; clear BK276; clear BK284; clear BK290; clear HB; have HO_277002 := n0_; have HO_285002 := n1_; have HO_291002 := n2_; have BK266 := n3_; have BK276 := n4_; have BK284 := n5_; have BK290 := n6_; have HB := n7_; clear n0_ n1_ n2_ n3_ n4_ n5_ n6_ n7_; (try clear hb); (try clear hb2); (try clear hk); (try clear hi); have hnb105 := NB284_266.out; have hnc105 := NB266_284.out; have hnb106 := NB284_276.out; have hnc106 := NB276_284.out; obtain ⟨hcz107_0, hcz107_1, hcz107_2, hfz107_0, hfz107_1, hfz107_2⟩ := bc3 BK284; obtain ⟨hcz108_0, hcz108_1, hcz108_2, hfz108_0, hfz108_1, hfz108_2⟩ := bc3 BK290) | (go_at_call 21; (with_reducible refine (ephemerisref1_SameZone.calls k4 t278 t279 _ _ t280 a0_0 a0_1 _ _ x291002_4 t308 _ ?side1 ?side2 ?side3 ?side4 A98.out).mono ?_); (case side1 => repeat (first | exact (Kd.R_reads' HO_285002.out).2.2 | (with_reducible refine Kd.C_alloc ?_ _) | (with_reducible refine Kd.C_drewN ?_ _) | (with_reducible refine Kd.C_drew ?_))); (case side2 => exact (Kd.R_reads' HO_285002.out).2.1); (case side3 => repeat (first | exact (Kd.R_reads' HO_291002.out).2.2 | (with_reducible refine Kd.C_alloc ?_ _) | (with_reducible refine Kd.C_drewN ?_ _) | (with_reducible refine Kd.C_drew ?_))); (case side4 => exact (Kd.R_reads' HO_291002.out).2.1); rintro e w109 ⟨rfl, hb⟩; have n0_ := Aside0.mk (Kd.R_below (by (with_reducible repeat (first | apply Kd.R_alloc | apply Kd.R_drewN | apply Kd.R_drew)); exact HO_277002.out) hb); have n1_ := Aside0.mk (Kd.R_below (by (with_reducible repeat (first | apply Kd.R_alloc | apply Kd.R_drewN | apply Kd.R_drew)); exact HO_285002.out) hb); have n2_ := Aside0.mk (Kd.R_below (by (with_reducible repeat (first | apply Kd.R_alloc | apply Kd.R_drewN | apply Kd.R_drew)); exact HO_291002.out) hb); have n3_ := bb BK266 hb; have n4_ := bb BK276 hb; have n5_ := bb BK284 hb; have n6_ := bb BK290 hb; have n7_ := Aside0.mk (below_step be hb); clear HO_277002; clear HO_285002; clear HO_291002; clear BK266; clear BK276; clear BK284; clear BK290; clear HB; have HO_277002 := n0_; have HO_285002 := n1_; have HO_291002 := n2_; have BK266 := n3_; have BK276 := n4_; have BK284 := n5_; have BK290 := n6_; have HB := n7_; clear n0_ n1_ n2_ n3_ n4_ n5_ n6_ n7_; (try clear hb); (try clear hb2); (try clear hk); (try clear hi)))
               go_ret
               exact ⟨by first | rfl | (simp [errW_none, errW_some] <;> rfl) | (simp [*, errW_none, errW_some] <;> rfl), be⟩
              ·rw [if_neg c97] at H
               have c97b0 : (t283 == 0) = false := beq_eq_false_iff_ne.mpr c97
               have c97b1 : (t283 != 0) = true := bne_iff_ne.mpr c97
               obtain rfl := Option.some.inj H
               have hnb110 := NB290_266.out
               have hnc110 := NB266_290.out
               have hnb111 := NB290_276.out
               have hnc111 := NB276_290.out
               have hnb112 := NB290_284.out
               have hnc112 := NB284_290.out
               obtain ⟨hcz113_0, hcz113_1, hcz113_2, hfz113_0, hfz113_1, hfz113_2⟩ := bc3 BK290
               obtain ⟨Ao114, co114, eo114⟩ := Kd.R_slice HO_291002.out
               subst eo114
               go_wp2_with (first | ((with_reducible refine gate_callee (f := 13) rfl ?_); refine goesL_ (some 123) rfl rfl Tryd.func13 kx rfl #[.agg #[.string a0_0, .int .i64 a0_1, .slice Ao114 x291002_4.length co114]] rfl aa ?_; (with_reducible refine (ephemerisref1_ZoneError.calls k4 a0_0 a0_1 _ _ x291002_4 t307 _ ?side1 ?side2 A95.out).mono ?_); (case side1 => repeat (first | exact (Kd.R_reads' HO_291002.out).2.2 | (with_reducible refine Kd.C_alloc ?_ _) | (with_reducible refine Kd.C_drewN ?_ _) | (with_reducible refine Kd.C_drew ?_))); (case side2 => exact (Kd.R_reads' HO_291002.out).2.1); rintro e w115 ⟨rfl, hb⟩; refine ⟨_, rfl, ?_⟩; have n0_ := Aside0.mk (Kd.R_below (by (with_reducible repeat (first | apply Kd.R_alloc | apply Kd.R_drewN | apply Kd.R_drew)); exact HO_277002.out) hb); have n1_ := Aside0.mk (Kd.R_below (by (with_reducible repeat (first | apply Kd.R_alloc | apply Kd.R_drewN | apply Kd.R_drew)); exact HO_285002.out) hb); have n2_ := Aside0.mk (Kd.R_below (by (with_reducible repeat (first | apply Kd.R_alloc | apply Kd.R_drewN | apply Kd.R_drew)); exact HO_291002.out) hb); have n3_ := bb BK266 hb; have n4_ := bb BK276 hb; have n5_ := bb BK284 hb; have n6_ := bb BK290 hb; have n7_ := Aside0.mk (below_step be hb); clear HO_277002; clear HO_285002; clear HO_291002; clear BK266; clear BK276; clear BK284; clear BK290; clear HB; have HO_277002 := n0_; have HO_285002 := n1_; have HO_291002 := n2_; have BK266 := n3_; have BK276 := n4_; have BK284 := n5_; have BK290 := n6_; have HB := n7_; clear n0_ n1_ n2_ n3_ n4_ n5_ n6_ n7_; (try clear hb); (try clear hb2); (try clear hk); (try clear hi)))
               go_ret
               exact ⟨by first | rfl | (simp [errW_none, errW_some] <;> rfl) | (simp [*, errW_none, errW_some] <;> rfl), be⟩
             ·rw [if_neg c96] at H
              have c96b0 : (t307 == 0) = false := beq_eq_false_iff_ne.mpr c96
              have c96b1 : (t307 != 0) = true := bne_iff_ne.mpr c96
              replace H := Option.bind_eq_some_iff.mp H
              obtain ⟨t309, A1160, H⟩ := H
              replace H : (if t309 = true then (some (t283 == t307)) else (some false)) = some r := H
              have A116 := Aside0.mk A1160
              clear A1160
              by_cases c117 : t309 = true
              ·subst c117
               have H1 : (some (t283 == t307)) = some r := by rw [if_pos rfl] at H; exact H
               clear H
               have H := H1
               clear H1
               obtain rfl := Option.some.inj H
               have hnb118 := NB290_266.out
               have hnc118 := NB266_290.out
               have hnb119 := NB290_276.out
               have hnc119 := NB276_290.out
               have hnb120 := NB290_284.out
               have hnc120 := NB284_290.out
               obtain ⟨hcz121_0, hcz121_1, hcz121_2, hfz121_0, hfz121_1, hfz121_2⟩ := bc3 BK290
               obtain ⟨Ao122, co122, eo122⟩ := Kd.R_slice HO_291002.out
               subst eo122
               go_wp2_with (first | ((with_reducible refine gate_callee (f := 13) rfl ?_); refine goesL_ (some 123) rfl rfl Tryd.func13 kx rfl #[.agg #[.string a0_0, .int .i64 a0_1, .slice Ao122 x291002_4.length co122]] rfl aa ?_; (with_reducible refine (ephemerisref1_ZoneError.calls k4 a0_0 a0_1 _ _ x291002_4 t307 _ ?side1 ?side2 A95.out).mono ?_); (case side1 => repeat (first | exact (Kd.R_reads' HO_291002.out).2.2 | (with_reducible refine Kd.C_alloc ?_ _) | (with_reducible refine Kd.C_drewN ?_ _) | (with_reducible refine Kd.C_drew ?_))); (case side2 => exact (Kd.R_reads' HO_291002.out).2.1); rintro e w123 ⟨rfl, hb⟩; refine ⟨_, rfl, ?_⟩; have n0_ := Aside0.mk (Kd.R_below (by (with_reducible repeat (first | apply Kd.R_alloc | apply Kd.R_drewN | apply Kd.R_drew)); exact HO_277002.out) hb); have n1_ := Aside0.mk (Kd.R_below (by (with_reducible repeat (first | apply Kd.R_alloc | apply Kd.R_drewN | apply Kd.R_drew)); exact HO_285002.out) hb); have n2_ := Aside0.mk (Kd.R_below (by (with_reducible repeat (first | apply Kd.R_alloc | apply Kd.R_drewN | apply Kd.R_drew)); exact HO_291002.out) hb); have n3_ := bb BK266 hb; have n4_ := bb BK276 hb; have n5_ := bb BK284 hb; have n6_ := bb BK290 hb; have n7_ := Aside0.mk (below_step be hb); clear HO_277002; clear HO_285002; clear HO_291002; clear BK266; clear BK276; clear BK284; clear BK290; clear HB; have HO_277002 := n0_; have HO_285002 := n1_; have HO_291002 := n2_; have BK266 := n3_; have BK276 := n4_; have BK284 := n5_; have BK290 := n6_; have HB := n7_; clear n0_ n1_ n2_ n3_ n4_ n5_ n6_ n7_; (try clear hb); (try clear hb2); (try clear hk); (try clear hi); have hnb124 := NB284_266.out; have hnc124 := NB266_284.out; have hnb125 := NB284_276.out; have hnc125 := NB276_284.out; obtain ⟨hcz126_0, hcz126_1, hcz126_2, hfz126_0, hfz126_1, hfz126_2⟩ := bc3 BK284) | ((with_reducible refine gate_callee (f := 21) rfl ?_); refine goesL_ (some 128) rfl rfl Tryd.func21 kx rfl #[.agg #[.string t278, .int .i64 t279, .slice Ao34 t280.length co34], .agg #[.string (⟨#[]⟩ : ByteArray), .int .i64 0, .slice none 0 0]] rfl aa ?_; (refine (ephemerisref1_SameZone.calls k4 t278 t279 _ _ t280 (⟨#[]⟩ : ByteArray) 0 _ _ ([] : List (S43)) true _ ?side1 ?side2 ?side3 ?side4 A116.out).mono ?_); (case side1 => repeat (first | exact (Kd.R_reads' HO_285002.out).2.2 | (with_reducible refine Kd.C_alloc ?_ _) | (with_reducible refine Kd.C_drewN ?_ _) | (with_reducible refine Kd.C_drew ?_))); (case side2 => exact (Kd.R_reads' HO_285002.out).2.1); (case side3 => exact Kd.C_nil _ _); (case side4 => exact Nat.le_refl _); rintro e w127 ⟨rfl, hb⟩; refine ⟨_, rfl, ?_⟩; have n0_ := Aside0.mk (Kd.R_below (by (with_reducible repeat (first | apply Kd.R_alloc | apply Kd.R_drewN | apply Kd.R_drew)); exact HO_277002.out) hb); have n1_ := Aside0.mk (Kd.R_below (by (with_reducible repeat (first | apply Kd.R_alloc | apply Kd.R_drewN | apply Kd.R_drew)); exact HO_285002.out) hb); have n2_ := Aside0.mk (Kd.R_below (by (with_reducible repeat (first | apply Kd.R_alloc | apply Kd.R_drewN | apply Kd.R_drew)); exact HO_291002.out) hb); have n3_ := bb BK266 hb; have n4_ := bb BK276 hb; have n5_ := bb BK284 hb; have n6_ := bb BK290 hb; have n7_ := Aside0.mk (below_step be hb); clear HO_277002; clear HO_285002; clear HO_291002; clear BK266; clear BK276; clear BK284; clear BK290; clear HB; have HO_277002 := n0_; have HO_285002 := n1_; have HO_291002 := n2_; have BK266 := n3_; have BK276 := n4_; have BK284 := n5_; have BK290 := n6_; have HB := n7_; clear n0_ n1_ n2_ n3_ n4_ n5_ n6_ n7_; (try clear hb); (try clear hb2); (try clear hk); (try clear hi)))
               go_ret
               exact ⟨by first | rfl | (simp [errW_none, errW_some] <;> rfl) | (simp [*, errW_none, errW_some] <;> rfl), be⟩
              ·replace c117 := Bool.eq_false_iff.mpr c117
               subst c117
               have H1 : (some false) = some r := by rw [if_neg (show ¬ (false = true) by decide)] at H; exact H
               clear H
               have H := H1
               clear H1
               obtain rfl := Option.some.inj H
               have hnb128 := NB290_266.out
               have hnc128 := NB266_290.out
               have hnb129 := NB290_276.out
               have hnc129 := NB276_290.out
               have hnb130 := NB290_284.out
               have hnc130 := NB284_290.out
               obtain ⟨hcz131_0, hcz131_1, hcz131_2, hfz131_0, hfz131_1, hfz131_2⟩ := bc3 BK290
               obtain ⟨Ao132, co132, eo132⟩ := Kd.R_slice HO_291002.out
               subst eo132
               go_wp2_with (first | ((with_reducible refine gate_callee (f := 13) rfl ?_); refine goesL_ (some 123) rfl rfl Tryd.func13 kx rfl #[.agg #[.string a0_0, .int .i64 a0_1, .slice Ao132 x291002_4.length co132]] rfl aa ?_; (with_reducible refine (ephemerisref1_ZoneError.calls k4 a0_0 a0_1 _ _ x291002_4 t307 _ ?side1 ?side2 A95.out).mono ?_); (case side1 => repeat (first | exact (Kd.R_reads' HO_291002.out).2.2 | (with_reducible refine Kd.C_alloc ?_ _) | (with_reducible refine Kd.C_drewN ?_ _) | (with_reducible refine Kd.C_drew ?_))); (case side2 => exact (Kd.R_reads' HO_291002.out).2.1); rintro e w133 ⟨rfl, hb⟩; refine ⟨_, rfl, ?_⟩; have n0_ := Aside0.mk (Kd.R_below (by (with_reducible repeat (first | apply Kd.R_alloc | apply Kd.R_drewN | apply Kd.R_drew)); exact HO_277002.out) hb); have n1_ := Aside0.mk (Kd.R_below (by (with_reducible repeat (first | apply Kd.R_alloc | apply Kd.R_drewN | apply Kd.R_drew)); exact HO_285002.out) hb); have n2_ := Aside0.mk (Kd.R_below (by (with_reducible repeat (first | apply Kd.R_alloc | apply Kd.R_drewN | apply Kd.R_drew)); exact HO_291002.out) hb); have n3_ := bb BK266 hb; have n4_ := bb BK276 hb; have n5_ := bb BK284 hb; have n6_ := bb BK290 hb; have n7_ := Aside0.mk (below_step be hb); clear HO_277002; clear HO_285002; clear HO_291002; clear BK266; clear BK276; clear BK284; clear BK290; clear HB; have HO_277002 := n0_; have HO_285002 := n1_; have HO_291002 := n2_; have BK266 := n3_; have BK276 := n4_; have BK284 := n5_; have BK290 := n6_; have HB := n7_; clear n0_ n1_ n2_ n3_ n4_ n5_ n6_ n7_; (try clear hb); (try clear hb2); (try clear hk); (try clear hi); have hnb134 := NB284_266.out; have hnc134 := NB266_284.out; have hnb135 := NB284_276.out; have hnc135 := NB276_284.out; obtain ⟨hcz136_0, hcz136_1, hcz136_2, hfz136_0, hfz136_1, hfz136_2⟩ := bc3 BK284) | ((with_reducible refine gate_callee (f := 21) rfl ?_); refine goesL_ (some 128) rfl rfl Tryd.func21 kx rfl #[.agg #[.string t278, .int .i64 t279, .slice Ao34 t280.length co34], .agg #[.string (⟨#[]⟩ : ByteArray), .int .i64 0, .slice none 0 0]] rfl aa ?_; (refine (ephemerisref1_SameZone.calls k4 t278 t279 _ _ t280 (⟨#[]⟩ : ByteArray) 0 _ _ ([] : List (S43)) false _ ?side1 ?side2 ?side3 ?side4 A116.out).mono ?_); (case side1 => repeat (first | exact (Kd.R_reads' HO_285002.out).2.2 | (with_reducible refine Kd.C_alloc ?_ _) | (with_reducible refine Kd.C_drewN ?_ _) | (with_reducible refine Kd.C_drew ?_))); (case side2 => exact (Kd.R_reads' HO_285002.out).2.1); (case side3 => exact Kd.C_nil _ _); (case side4 => exact Nat.le_refl _); rintro e w137 ⟨rfl, hb⟩; refine ⟨_, rfl, ?_⟩; have n0_ := Aside0.mk (Kd.R_below (by (with_reducible repeat (first | apply Kd.R_alloc | apply Kd.R_drewN | apply Kd.R_drew)); exact HO_277002.out) hb); have n1_ := Aside0.mk (Kd.R_below (by (with_reducible repeat (first | apply Kd.R_alloc | apply Kd.R_drewN | apply Kd.R_drew)); exact HO_285002.out) hb); have n2_ := Aside0.mk (Kd.R_below (by (with_reducible repeat (first | apply Kd.R_alloc | apply Kd.R_drewN | apply Kd.R_drew)); exact HO_291002.out) hb); have n3_ := bb BK266 hb; have n4_ := bb BK276 hb; have n5_ := bb BK284 hb; have n6_ := bb BK290 hb; have n7_ := Aside0.mk (below_step be hb); clear HO_277002; clear HO_285002; clear HO_291002; clear BK266; clear BK276; clear BK284; clear BK290; clear HB; have HO_277002 := n0_; have HO_285002 := n1_; have HO_291002 := n2_; have BK266 := n3_; have BK276 := n4_; have BK284 := n5_; have BK290 := n6_; have HB := n7_; clear n0_ n1_ n2_ n3_ n4_ n5_ n6_ n7_; (try clear hb); (try clear hb2); (try clear hk); (try clear hi)))
               go_ret
               exact ⟨by first | rfl | (simp [errW_none, errW_some] <;> rfl) | (simp [*, errW_none, errW_some] <;> rfl), be⟩
         ·rw [if_neg c51] at H
          exact absurd H (by simp)
        ·rw [if_neg c50] at H
         have c50b0 : (x13_41 == 0) = false := beq_eq_false_iff_ne.mpr c50
         have c50b1 : (x13_41 != 0) = true := bne_iff_ne.mpr c50
         replace H := Option.bind_eq_some_iff.mp H
         obtain ⟨t289, A1380, H⟩ := H
         replace H : (if t289 = true then (some (t283 == x13_41)) else (some false)) = some r := H
         have A138 := Aside0.mk A1380
         clear A1380
         by_cases c139 : t289 = true
         ·subst c139
          have H1 : (some (t283 == x13_41)) = some r := by rw [if_pos rfl] at H; exact H
          clear H
          have H := H1
          clear H1
          obtain rfl := Option.some.inj H
          have hnb140 := NB284_266.out
          have hnc140 := NB266_284.out
          have hnb141 := NB284_276.out
          have hnc141 := NB276_284.out
          obtain ⟨hcz142_0, hcz142_1, hcz142_2, hfz142_0, hfz142_1, hfz142_2⟩ := bc3 BK284
          go_wp2_with (first | ((with_reducible refine gate_callee (f := 21) rfl ?_); refine goesL_ (some 77) rfl rfl Tryd.func21 kx rfl #[.agg #[.string t278, .int .i64 t279, .slice Ao34 t280.length co34], .agg #[.string (⟨#[]⟩ : ByteArray), .int .i64 0, .slice none 0 0]] rfl aa ?_; (refine (ephemerisref1_SameZone.calls kj41 t278 t279 _ _ t280 (⟨#[]⟩ : ByteArray) 0 _ _ ([] : List (S43)) true _ ?side1 ?side2 ?side3 ?side4 A138.out).mono ?_); (case side1 => repeat (first | exact (Kd.R_reads' HO_285002.out).2.2 | (with_reducible refine Kd.C_alloc ?_ _) | (with_reducible refine Kd.C_drewN ?_ _) | (with_reducible refine Kd.C_drew ?_))); (case side2 => exact (Kd.R_reads' HO_285002.out).2.1); (case side3 => exact Kd.C_nil _ _); (case side4 => exact Nat.le_refl _); rintro e w143 ⟨rfl, hb⟩; refine ⟨_, rfl, ?_⟩; have n0_ := Aside0.mk (Kd.R_below (by (with_reducible repeat (first | apply Kd.R_alloc | apply Kd.R_drewN | apply Kd.R_drew)); exact HO_277002.out) hb); have n1_ := Aside0.mk (Kd.R_below (by (with_reducible repeat (first | apply Kd.R_alloc | apply Kd.R_drewN | apply Kd.R_drew)); exact HO_285002.out) hb); have n2_ := bb BK266 hb; have n3_ := bb BK276 hb; have n4_ := bb BK284 hb; have n5_ := Aside0.mk (below_step be hb); clear HO_277002; clear HO_285002; clear BK266; clear BK276; clear BK284; clear HB; have HO_277002 := n0_; have HO_285002 := n1_; have BK266 := n2_; have BK276 := n3_; have BK284 := n4_; have HB := n5_; clear n0_ n1_ n2_ n3_ n4_ n5_; (try clear hb); (try clear hb2); (try clear hk); (try clear hi)))
          go_ret
          exact ⟨by first | rfl | (simp [errW_none, errW_some] <;> rfl) | (simp [*, errW_none, errW_some] <;> rfl), be⟩
         ·replace c139 := Bool.eq_false_iff.mpr c139
          subst c139
          have H1 : (some false) = some r := by rw [if_neg (show ¬ (false = true) by decide)] at H; exact H
          clear H
          have H := H1
          clear H1
          obtain rfl := Option.some.inj H
          have hnb144 := NB284_266.out
          have hnc144 := NB266_284.out
          have hnb145 := NB284_276.out
          have hnc145 := NB276_284.out
          obtain ⟨hcz146_0, hcz146_1, hcz146_2, hfz146_0, hfz146_1, hfz146_2⟩ := bc3 BK284
          go_wp2_with (first | ((with_reducible refine gate_callee (f := 21) rfl ?_); refine goesL_ (some 77) rfl rfl Tryd.func21 kx rfl #[.agg #[.string t278, .int .i64 t279, .slice Ao34 t280.length co34], .agg #[.string (⟨#[]⟩ : ByteArray), .int .i64 0, .slice none 0 0]] rfl aa ?_; (refine (ephemerisref1_SameZone.calls kj41 t278 t279 _ _ t280 (⟨#[]⟩ : ByteArray) 0 _ _ ([] : List (S43)) false _ ?side1 ?side2 ?side3 ?side4 A138.out).mono ?_); (case side1 => repeat (first | exact (Kd.R_reads' HO_285002.out).2.2 | (with_reducible refine Kd.C_alloc ?_ _) | (with_reducible refine Kd.C_drewN ?_ _) | (with_reducible refine Kd.C_drew ?_))); (case side2 => exact (Kd.R_reads' HO_285002.out).2.1); (case side3 => exact Kd.C_nil _ _); (case side4 => exact Nat.le_refl _); rintro e w147 ⟨rfl, hb⟩; refine ⟨_, rfl, ?_⟩; have n0_ := Aside0.mk (Kd.R_below (by (with_reducible repeat (first | apply Kd.R_alloc | apply Kd.R_drewN | apply Kd.R_drew)); exact HO_277002.out) hb); have n1_ := Aside0.mk (Kd.R_below (by (with_reducible repeat (first | apply Kd.R_alloc | apply Kd.R_drewN | apply Kd.R_drew)); exact HO_285002.out) hb); have n2_ := bb BK266 hb; have n3_ := bb BK276 hb; have n4_ := bb BK284 hb; have n5_ := Aside0.mk (below_step be hb); clear HO_277002; clear HO_285002; clear BK266; clear BK276; clear BK284; clear HB; have HO_277002 := n0_; have HO_285002 := n1_; have BK266 := n2_; have BK276 := n3_; have BK284 := n4_; have HB := n5_; clear n0_ n1_ n2_ n3_ n4_ n5_; (try clear hb); (try clear hb2); (try clear hk); (try clear hi)))
          go_ret
          exact ⟨by first | rfl | (simp [errW_none, errW_some] <;> rfl) | (simp [*, errW_none, errW_some] <;> rfl), be⟩

end Go.Proofs.YtolhlaadhfilnaaDoor.PForecastExtends
