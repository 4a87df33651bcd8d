/- The walks of the functions of this part, laid closer by a program of mine. -/
-- The walks of the law's functions, told by a program.
import Derived.Test.YtlfammlboncmeaaY
import Derived.Test.YtlfammlboncmeaaPObservedOfsx0
import Derived.Test.YtlfammlboncmeaaPObservedOfsx1
import Derived.Test.YtlfammlboncmeaaPObservedOfsx8
import Derived.Test.YtlfammlboncmeaaPObservedOfsx9
namespace Go.Proofs.Ytlfammlboncmeaa.PObservedOfs
open Go.RowKit Go.Proofs.YtlfammlboncmeaaW.PrintWords Go.Proofs.YtlfammlboncmeaaW.PrintLast Go.Proofs.YtlfammlboncmeaaW.PrintMore Go.Proofs.Ytlfammlboncmeaa.Y
attribute [local go_sem] max2_int min2_int max_two min_two max_three min_three max_four min_four   -- for this text's walks alone
set_option linter.unusedVariables false
set_option linter.unusedSimpArgs false

/-! ### ephemerisref1_MoonError: function 27 -/
mutual
def ephemerisref1_MoonError.j0 : Nat → Bool → ByteArray → Int → Int → Int → Int → Int → Int → Int → Int → List Int → List Int → Option (Int)
 | 0, _, _, _, _, _, _, _, _, _, _, _, _ => none
 | k + 1, x30, x209000, x209001, x209002, x209003, x209004, x209005, x209006, x209007, x209008, x209009, x209010 => if x30 = true then (some 8) else (if x209002 < 0 then (ephemerisref1_MoonError.j1 k true x209000 x209001 x209002 x209003 x209004 x209005 x209006 x209007 x209008 x209009 x209010) else ((ephemerisref1_Floor.f k x209002 x209003).bind fun t214 => (if t214 > 0 then (ephemerisref1_MoonError.j1 k true x209000 x209001 x209002 x209003 x209004 x209005 x209006 x209007 x209008 x209009 x209010) else ((ephemerisref1_Floor.f k x209004 x209005).bind fun t215 => (if t215 < 29 then (ephemerisref1_MoonError.j1 k true x209000 x209001 x209002 x209003 x209004 x209005 x209006 x209007 x209008 x209009 x209010) else ((ephemerisref1_Floor.f k (wrap64 (x209004 - 1)) x209005).bind fun t216 => (if t216 > 29 then (ephemerisref1_MoonError.j1 k true x209000 x209001 x209002 x209003 x209004 x209005 x209006 x209007 x209008 x209009 x209010) else (if x209006 ≤ 0 then (ephemerisref1_MoonError.j1 k true x209000 x209001 x209002 x209003 x209004 x209005 x209006 x209007 x209008 x209009 x209010) else (ephemerisref1_MoonError.j1 k (decide (x209006 > x209007)) x209000 x209001 x209002 x209003 x209004 x209005 x209006 x209007 x209008 x209009 x209010)))))))))
def ephemerisref1_MoonError.j1 : Nat → Bool → ByteArray → Int → Int → Int → Int → Int → Int → Int → Int → List Int → List Int → Option (Int)
 | 0, _, _, _, _, _, _, _, _, _, _, _, _ => none
 | k + 1, x80, x209000, x209001, x209002, x209003, x209004, x209005, x209006, x209007, x209008, x209009, x209010 => if x80 = true then (some 3) else ((ephemerisref1_Parts.f k x209000 x209001 x209002 x209003 x209004 x209005 x209006 x209007 x209008 x209009 x209010).bind fun t217 => (if t217 = 0 then (some 14) else ((ephemerisref1_In.f x209008 1 100).bind fun t218 => (if t218 = true then (ephemerisref1_MoonError.l0 k x209009 (x209009.length : Int) 0 x209000 x209001 x209002 x209003 x209004 x209005 x209006 x209007 x209008 x209009 x209010) else (some 3)))))
def ephemerisref1_MoonError.l0 : Nat → List Int → Int → Int → ByteArray → Int → Int → Int → Int → Int → Int → Int → Int → List Int → List Int → Option (Int)
 | 0, _, _, _, _, _, _, _, _, _, _, _, _, _, _ => none
 | k + 1, x89, x90, x91, x209000, x209001, x209002, x209003, x209004, x209005, x209006, x209007, x209008, x209009, x209010 => if x91 < x90 then (if 0 ≤ x91 then (if x91 < (x89.length : Int) then ((ephemerisref1_In.f (rd x89 x91) 1 x209008).bind fun t220 => (if t220 = true then (if x91 > 0 then (if 0 ≤ (wrap64 (x91 - 1)) then (if (wrap64 (x91 - 1)) < (x209009.length : Int) then (if (rd x209009 (wrap64 (x91 - 1))) ≥ (rd x89 x91) then (some 9) else (ephemerisref1_MoonError.l0 k x89 x90 (wrap64 (x91 + 1)) x209000 x209001 x209002 x209003 x209004 x209005 x209006 x209007 x209008 x209009 x209010)) else (none)) else (none)) else (ephemerisref1_MoonError.l0 k x89 x90 (wrap64 (x91 + 1)) x209000 x209001 x209002 x209003 x209004 x209005 x209006 x209007 x209008 x209009 x209010)) else (some 3))) else (none)) else (none)) else (if (x209010.length : Int) > 3 then (some 2) else (ephemerisref1_MoonError.l1 k x209010 (x209010.length : Int) 0 x209000 x209001 x209002 x209003 x209004 x209005 x209006 x209007 x209008 x209009 x209010))
def ephemerisref1_MoonError.l1 : Nat → List Int → Int → Int → ByteArray → Int → Int → Int → Int → Int → Int → Int → Int → List Int → List Int → Option (Int)
 | 0, _, _, _, _, _, _, _, _, _, _, _, _, _, _ => none
 | k + 1, x119, x120, x121, x209000, x209001, x209002, x209003, x209004, x209005, x209006, x209007, x209008, x209009, x209010 => if x121 < x120 then (if 0 ≤ x121 then (if x121 < (x119.length : Int) then ((ephemerisref1_In.f (rd x119 x121) 0 6).bind fun t223 => (if t223 = true then (if x121 > 0 then (if 0 ≤ (wrap64 (x121 - 1)) then (if (wrap64 (x121 - 1)) < (x209010.length : Int) then (if (rd x209010 (wrap64 (x121 - 1))) ≥ (rd x119 x121) then (some 9) else (ephemerisref1_MoonError.l1 k x119 x120 (wrap64 (x121 + 1)) x209000 x209001 x209002 x209003 x209004 x209005 x209006 x209007 x209008 x209009 x209010)) else (none)) else (none)) else (ephemerisref1_MoonError.l1 k x119 x120 (wrap64 (x121 + 1)) x209000 x209001 x209002 x209003 x209004 x209005 x209006 x209007 x209008 x209009 x209010)) else (some 3))) else (none)) else (none)) else (some 0)
end
def ephemerisref1_MoonError.f (k : Nat) (a0_0 : ByteArray) (a0_1 : Int) (a0_2 : Int) (a0_3 : Int) (a0_4 : Int) (a0_5 : Int) (a0_6 : Int) (a0_7 : Int) (a0_8 : Int) (l0_9 : List Int) (l0_10 : List Int) : Option (Int) := (ephemerisref1_Name.f k a0_0).bind fun t209 => (if t209 = true then ((ephemerisref1_Day.f a0_1).bind fun t210 => (if t210 = true then ((ephemerisref1_FracOK.f k a0_2 a0_3).bind fun t211 => (if t211 = true then ((ephemerisref1_FracOK.f k a0_4 a0_5).bind fun t212 => (if t212 = true then ((ephemerisref1_FracOK.f k a0_6 a0_7).bind fun t213 => (ephemerisref1_MoonError.j0 k (!t213) a0_0 a0_1 a0_2 a0_3 a0_4 a0_5 a0_6 a0_7 a0_8 l0_9 l0_10)) else (ephemerisref1_MoonError.j0 k true a0_0 a0_1 a0_2 a0_3 a0_4 a0_5 a0_6 a0_7 a0_8 l0_9 l0_10))) else (ephemerisref1_MoonError.j0 k true a0_0 a0_1 a0_2 a0_3 a0_4 a0_5 a0_6 a0_7 a0_8 l0_9 l0_10))) else (some 3))) else (some 5))
theorem ephemerisref1_MoonError.mono_l : ∀ k, (∀ y0 y1 y2 y3 y4 y5 y6 y7 y8 y9 y10 y11, LeO (ephemerisref1_MoonError.j0 k y0 y1 y2 y3 y4 y5 y6 y7 y8 y9 y10 y11) (ephemerisref1_MoonError.j0 (k + 1) y0 y1 y2 y3 y4 y5 y6 y7 y8 y9 y10 y11)) ∧ (∀ y0 y1 y2 y3 y4 y5 y6 y7 y8 y9 y10 y11, LeO (ephemerisref1_MoonError.j1 k y0 y1 y2 y3 y4 y5 y6 y7 y8 y9 y10 y11) (ephemerisref1_MoonError.j1 (k + 1) y0 y1 y2 y3 y4 y5 y6 y7 y8 y9 y10 y11)) ∧ (∀ y0 y1 y2 y3 y4 y5 y6 y7 y8 y9 y10 y11 y12 y13, LeO (ephemerisref1_MoonError.l0 k y0 y1 y2 y3 y4 y5 y6 y7 y8 y9 y10 y11 y12 y13) (ephemerisref1_MoonError.l0 (k + 1) y0 y1 y2 y3 y4 y5 y6 y7 y8 y9 y10 y11 y12 y13)) ∧ (∀ y0 y1 y2 y3 y4 y5 y6 y7 y8 y9 y10 y11 y12 y13, LeO (ephemerisref1_MoonError.l1 k y0 y1 y2 y3 y4 y5 y6 y7 y8 y9 y10 y11 y12 y13) (ephemerisref1_MoonError.l1 (k + 1) y0 y1 y2 y3 y4 y5 y6 y7 y8 y9 y10 y11 y12 y13))
 | 0 => ⟨fun _ _ _ _ _ _ _ _ _ _ _ _ r h => by simp [ephemerisref1_MoonError.j0] at h, fun _ _ _ _ _ _ _ _ _ _ _ _ r h => by simp [ephemerisref1_MoonError.j1] at h, fun _ _ _ _ _ _ _ _ _ _ _ _ _ _ r h => by simp [ephemerisref1_MoonError.l0] at h, fun _ _ _ _ _ _ _ _ _ _ _ _ _ _ r h => by simp [ephemerisref1_MoonError.l1] at h⟩
 | k + 1 => by
  obtain ⟨ih0, ih1, ih2, ih3⟩ := ephemerisref1_MoonError.mono_l k
  refine ⟨?_, ?_, ?_, ?_⟩
  ·intro y0 y1 y2 y3 y4 y5 y6 y7 y8 y9 y10 y11
   unfold ephemerisref1_MoonError.j0
   repeat' first
   | (with_reducible exact ih0 _ _ _ _ _ _ _ _ _ _ _ _)
   | (with_reducible exact ih1 _ _ _ _ _ _ _ _ _ _ _ _)
   | (with_reducible exact ih2 _ _ _ _ _ _ _ _ _ _ _ _ _ _)
   | (with_reducible exact ih3 _ _ _ _ _ _ _ _ _ _ _ _ _ _)
   | (with_reducible exact ephemerisref1_Floor.mono _ _ _)
   | (with_reducible exact ephemerisref1_FracOK.mono _ _ _)
   | (with_reducible exact ephemerisref1_Name.mono _ _)
   | (with_reducible exact ephemerisref1_Parts.mono _ _ _ _ _ _ _ _ _ _ _ _)
   | (with_reducible exact LeO.refl _)
   | (with_reducible exact LeO.none _)
   | (with_reducible refine LeO.ite ?_ ?_)
   | (with_reducible refine LeO.bind ?_ (fun _ => ?_))
   | exact ih0 _ _ _ _ _ _ _ _ _ _ _ _
   | exact ih1 _ _ _ _ _ _ _ _ _ _ _ _
   | exact ih2 _ _ _ _ _ _ _ _ _ _ _ _ _ _
   | exact ih3 _ _ _ _ _ _ _ _ _ _ _ _ _ _
   | exact ephemerisref1_Floor.mono _ _ _
   | exact ephemerisref1_FracOK.mono _ _ _
   | exact ephemerisref1_Name.mono _ _
   | exact ephemerisref1_Parts.mono _ _ _ _ _ _ _ _ _ _ _ _
   | exact LeO.none _
   | refine LeO.ite ?_ ?_
   | refine LeO.bind ?_ (fun _ => ?_)
  ·intro y0 y1 y2 y3 y4 y5 y6 y7 y8 y9 y10 y11
   unfold ephemerisref1_MoonError.j1
   repeat' first
   | (with_reducible exact ih0 _ _ _ _ _ _ _ _ _ _ _ _)
   | (with_reducible exact ih1 _ _ _ _ _ _ _ _ _ _ _ _)
   | (with_reducible exact ih2 _ _ _ _ _ _ _ _ _ _ _ _ _ _)
   | (with_reducible exact ih3 _ _ _ _ _ _ _ _ _ _ _ _ _ _)
   | (with_reducible exact ephemerisref1_Floor.mono _ _ _)
   | (with_reducible exact ephemerisref1_FracOK.mono _ _ _)
   | (with_reducible exact ephemerisref1_Name.mono _ _)
   | (with_reducible exact ephemerisref1_Parts.mono _ _ _ _ _ _ _ _ _ _ _ _)
   | (with_reducible exact LeO.refl _)
   | (with_reducible exact LeO.none _)
   | (with_reducible refine LeO.ite ?_ ?_)
   | (with_reducible refine LeO.bind ?_ (fun _ => ?_))
   | exact ih0 _ _ _ _ _ _ _ _ _ _ _ _
   | exact ih1 _ _ _ _ _ _ _ _ _ _ _ _
   | exact ih2 _ _ _ _ _ _ _ _ _ _ _ _ _ _
   | exact ih3 _ _ _ _ _ _ _ _ _ _ _ _ _ _
   | exact ephemerisref1_Floor.mono _ _ _
   | exact ephemerisref1_FracOK.mono _ _ _
   | exact ephemerisref1_Name.mono _ _
   | exact ephemerisref1_Parts.mono _ _ _ _ _ _ _ _ _ _ _ _
   | exact LeO.none _
   | refine LeO.ite ?_ ?_
   | refine LeO.bind ?_ (fun _ => ?_)
  ·intro y0 y1 y2 y3 y4 y5 y6 y7 y8 y9 y10 y11 y12 y13
   unfold ephemerisref1_MoonError.l0
   repeat' first
   | (with_reducible exact ih0 _ _ _ _ _ _ _ _ _ _ _ _)
   | (with_reducible exact ih1 _ _ _ _ _ _ _ _ _ _ _ _)
   | (with_reducible exact ih2 _ _ _ _ _ _ _ _ _ _ _ _ _ _)
   | (with_reducible exact ih3 _ _ _ _ _ _ _ _ _ _ _ _ _ _)
   | (with_reducible exact ephemerisref1_Floor.mono _ _ _)
   | (with_reducible exact ephemerisref1_FracOK.mono _ _ _)
   | (with_reducible exact ephemerisref1_Name.mono _ _)
   | (with_reducible exact ephemerisref1_Parts.mono _ _ _ _ _ _ _ _ _ _ _ _)
   | (with_reducible exact LeO.refl _)
   | (with_reducible exact LeO.none _)
   | (with_reducible refine LeO.ite ?_ ?_)
   | (with_reducible refine LeO.bind ?_ (fun _ => ?_))
   | exact ih0 _ _ _ _ _ _ _ _ _ _ _ _
   | exact ih1 _ _ _ _ _ _ _ _ _ _ _ _
   | exact ih2 _ _ _ _ _ _ _ _ _ _ _ _ _ _
   | exact ih3 _ _ _ _ _ _ _ _ _ _ _ _ _ _
   | exact ephemerisref1_Floor.mono _ _ _
   | exact ephemerisref1_FracOK.mono _ _ _
   | exact ephemerisref1_Name.mono _ _
   | exact ephemerisref1_Parts.mono _ _ _ _ _ _ _ _ _ _ _ _
   | exact LeO.none _
   | refine LeO.ite ?_ ?_
   | refine LeO.bind ?_ (fun _ => ?_)
  ·intro y0 y1 y2 y3 y4 y5 y6 y7 y8 y9 y10 y11 y12 y13
   unfold ephemerisref1_MoonError.l1
   repeat' first
   | (with_reducible exact ih0 _ _ _ _ _ _ _ _ _ _ _ _)
   | (with_reducible exact ih1 _ _ _ _ _ _ _ _ _ _ _ _)
   | (with_reducible exact ih2 _ _ _ _ _ _ _ _ _ _ _ _ _ _)
   | (with_reducible exact ih3 _ _ _ _ _ _ _ _ _ _ _ _ _ _)
   | (with_reducible exact ephemerisref1_Floor.mono _ _ _)
   | (with_reducible exact ephemerisref1_FracOK.mono _ _ _)
   | (with_reducible exact ephemerisref1_Name.mono _ _)
   | (with_reducible exact ephemerisref1_Parts.mono _ _ _ _ _ _ _ _ _ _ _ _)
   | (with_reducible exact LeO.refl _)
   | (with_reducible exact LeO.none _)
   | (with_reducible refine LeO.ite ?_ ?_)
   | (with_reducible refine LeO.bind ?_ (fun _ => ?_))
   | exact ih0 _ _ _ _ _ _ _ _ _ _ _ _
   | exact ih1 _ _ _ _ _ _ _ _ _ _ _ _
   | exact ih2 _ _ _ _ _ _ _ _ _ _ _ _ _ _
   | exact ih3 _ _ _ _ _ _ _ _ _ _ _ _ _ _
   | exact ephemerisref1_Floor.mono _ _ _
   | exact ephemerisref1_FracOK.mono _ _ _
   | exact ephemerisref1_Name.mono _ _
   | exact ephemerisref1_Parts.mono _ _ _ _ _ _ _ _ _ _ _ _
   | exact LeO.none _
   | refine LeO.ite ?_ ?_
   | refine LeO.bind ?_ (fun _ => ?_)
theorem ephemerisref1_MoonError.mono : ∀ a0 a1 a2 a3 a4 a5 a6 a7 a8 a9 a10 k, LeO (ephemerisref1_MoonError.f k a0 a1 a2 a3 a4 a5 a6 a7 a8 a9 a10) (ephemerisref1_MoonError.f (k + 1) a0 a1 a2 a3 a4 a5 a6 a7 a8 a9 a10) := by
 intro a0 a1 a2 a3 a4 a5 a6 a7 a8 a9 a10 k
 obtain ⟨ih0, ih1, ih2, ih3⟩ := ephemerisref1_MoonError.mono_l k
 unfold ephemerisref1_MoonError.f
 repeat' first
   | (with_reducible exact ih0 _ _ _ _ _ _ _ _ _ _ _ _)
   | (with_reducible exact ih1 _ _ _ _ _ _ _ _ _ _ _ _)
   | (with_reducible exact ih2 _ _ _ _ _ _ _ _ _ _ _ _ _ _)
   | (with_reducible exact ih3 _ _ _ _ _ _ _ _ _ _ _ _ _ _)
   | (with_reducible exact ephemerisref1_Floor.mono _ _ _)
   | (with_reducible exact ephemerisref1_FracOK.mono _ _ _)
   | (with_reducible exact ephemerisref1_Name.mono _ _)
   | (with_reducible exact ephemerisref1_Parts.mono _ _ _ _ _ _ _ _ _ _ _ _)
   | (with_reducible exact LeO.refl _)
   | (with_reducible exact LeO.none _)
   | (with_reducible refine LeO.ite ?_ ?_)
   | (with_reducible refine LeO.bind ?_ (fun _ => ?_))
   | exact ih0 _ _ _ _ _ _ _ _ _ _ _ _
   | exact ih1 _ _ _ _ _ _ _ _ _ _ _ _
   | exact ih2 _ _ _ _ _ _ _ _ _ _ _ _ _ _
   | exact ih3 _ _ _ _ _ _ _ _ _ _ _ _ _ _
   | exact ephemerisref1_Floor.mono _ _ _
   | exact ephemerisref1_FracOK.mono _ _ _
   | exact ephemerisref1_Name.mono _ _
   | exact ephemerisref1_Parts.mono _ _ _ _ _ _ _ _ _ _ _ _
   | exact LeO.none _
   | refine LeO.ite ?_ ?_
   | refine LeO.bind ?_ (fun _ => ?_)
set_option maxHeartbeats 8000000 in
set_option maxRecDepth 100000 in
theorem ephemerisref1_MoonError.calls (k : Nat) (a0_0 : ByteArray) (a0_1 : Int) (a0_2 : Int) (a0_3 : Int) (a0_4 : Int) (a0_5 : Int) (a0_6 : Int) (a0_7 : Int) (a0_8 : Int) (A0_9 : Option Addr) (c0_9 : Nat) (l0_9 : List Int) (A0_10 : Option Addr) (c0_10 : Nat) (l0_10 : List Int) (r : Int) (w : World) (hr0_9 : Kd.C (Kd.int .i64) w A0_9 l0_9.length l0_9) (hc0_9 : l0_9.length ≤ c0_9) (hr0_10 : Kd.C (Kd.int .i64) w A0_10 l0_10.length l0_10) (hc0_10 : l0_10.length ≤ c0_10) (h : ephemerisref1_MoonError.f k a0_0 a0_1 a0_2 a0_3 a0_4 a0_5 a0_6 a0_7 a0_8 l0_9 l0_10 = some r) :
  Calls Try.prog 27 #[.agg #[.string a0_0, .int .i64 a0_1, .int .i64 a0_2, .int .i64 a0_3, .int .i64 a0_4, .int .i64 a0_5, .int .i64 a0_6, .int .i64 a0_7, .int .i64 a0_8, .slice A0_9 l0_9.length c0_9, .slice A0_10 l0_10.length c0_10]] w fun e w' => e = .returned (.int .i64 r) ∧ Below w.heap.size w w' := by
 have hu60 := Try.underlying60
 have hu58 := Try.underlying58
 have HR0_9 := Aside0.mk hr0_9
 have HC0_9 := Aside0.mk hc0_9
 clear hr0_9 hc0_9
 have HR0_10 := Aside0.mk hr0_10
 have HC0_10 := Aside0.mk hc0_10
 clear hr0_10 hc0_10
 have HB := Aside0.mk (Below.refl w.heap.size w)
 have H : ((ephemerisref1_Name.f k a0_0).bind fun t209 => (if t209 = true then ((ephemerisref1_Day.f a0_1).bind fun t210 => (if t210 = true then ((ephemerisref1_FracOK.f k a0_2 a0_3).bind fun t211 => (if t211 = true then ((ephemerisref1_FracOK.f k a0_4 a0_5).bind fun t212 => (if t212 = true then ((ephemerisref1_FracOK.f k a0_6 a0_7).bind fun t213 => (ephemerisref1_MoonError.j0 k (!t213) a0_0 a0_1 a0_2 a0_3 a0_4 a0_5 a0_6 a0_7 a0_8 l0_9 l0_10)) else (ephemerisref1_MoonError.j0 k true a0_0 a0_1 a0_2 a0_3 a0_4 a0_5 a0_6 a0_7 a0_8 l0_9 l0_10))) else (ephemerisref1_MoonError.j0 k true a0_0 a0_1 a0_2 a0_3 a0_4 a0_5 a0_6 a0_7 a0_8 l0_9 l0_10))) else (some 3))) else (some 5))) = some r := h
 clear h
 replace H := Option.bind_eq_some_iff.mp H
 obtain ⟨t209, A20, H⟩ := H
 replace H : (if t209 = true then ((ephemerisref1_Day.f a0_1).bind fun t210 => (if t210 = true then ((ephemerisref1_FracOK.f k a0_2 a0_3).bind fun t211 => (if t211 = true then ((ephemerisref1_FracOK.f k a0_4 a0_5).bind fun t212 => (if t212 = true then ((ephemerisref1_FracOK.f k a0_6 a0_7).bind fun t213 => (ephemerisref1_MoonError.j0 k (!t213) a0_0 a0_1 a0_2 a0_3 a0_4 a0_5 a0_6 a0_7 a0_8 l0_9 l0_10)) else (ephemerisref1_MoonError.j0 k true a0_0 a0_1 a0_2 a0_3 a0_4 a0_5 a0_6 a0_7 a0_8 l0_9 l0_10))) else (ephemerisref1_MoonError.j0 k true a0_0 a0_1 a0_2 a0_3 a0_4 a0_5 a0_6 a0_7 a0_8 l0_9 l0_10))) else (some 3))) else (some 5)) = some r := H
 have A2 := Aside0.mk A20
 clear A20
 by_cases c3 : t209 = true
 ·subst c3
  have H1 : ((ephemerisref1_Day.f a0_1).bind fun t210 => (if t210 = true then ((ephemerisref1_FracOK.f k a0_2 a0_3).bind fun t211 => (if t211 = true then ((ephemerisref1_FracOK.f k a0_4 a0_5).bind fun t212 => (if t212 = true then ((ephemerisref1_FracOK.f k a0_6 a0_7).bind fun t213 => (ephemerisref1_MoonError.j0 k (!t213) a0_0 a0_1 a0_2 a0_3 a0_4 a0_5 a0_6 a0_7 a0_8 l0_9 l0_10)) else (ephemerisref1_MoonError.j0 k true a0_0 a0_1 a0_2 a0_3 a0_4 a0_5 a0_6 a0_7 a0_8 l0_9 l0_10))) else (ephemerisref1_MoonError.j0 k true a0_0 a0_1 a0_2 a0_3 a0_4 a0_5 a0_6 a0_7 a0_8 l0_9 l0_10))) else (some 3))) = some r := by rw [if_pos rfl] at H; exact H
  clear H
  have H := H1
  clear H1
  replace H := Option.bind_eq_some_iff.mp H
  obtain ⟨t210, A40, H⟩ := H
  replace H : (if t210 = true then ((ephemerisref1_FracOK.f k a0_2 a0_3).bind fun t211 => (if t211 = true then ((ephemerisref1_FracOK.f k a0_4 a0_5).bind fun t212 => (if t212 = true then ((ephemerisref1_FracOK.f k a0_6 a0_7).bind fun t213 => (ephemerisref1_MoonError.j0 k (!t213) a0_0 a0_1 a0_2 a0_3 a0_4 a0_5 a0_6 a0_7 a0_8 l0_9 l0_10)) else (ephemerisref1_MoonError.j0 k true a0_0 a0_1 a0_2 a0_3 a0_4 a0_5 a0_6 a0_7 a0_8 l0_9 l0_10))) else (ephemerisref1_MoonError.j0 k true a0_0 a0_1 a0_2 a0_3 a0_4 a0_5 a0_6 a0_7 a0_8 l0_9 l0_10))) else (some 3)) = some r := H
  have A4 := Aside0.mk A40
  clear A40
  by_cases c5 : t210 = true
  ·subst c5
   have H1 : ((ephemerisref1_FracOK.f k a0_2 a0_3).bind fun t211 => (if t211 = true then ((ephemerisref1_FracOK.f k a0_4 a0_5).bind fun t212 => (if t212 = true then ((ephemerisref1_FracOK.f k a0_6 a0_7).bind fun t213 => (ephemerisref1_MoonError.j0 k (!t213) a0_0 a0_1 a0_2 a0_3 a0_4 a0_5 a0_6 a0_7 a0_8 l0_9 l0_10)) else (ephemerisref1_MoonError.j0 k true a0_0 a0_1 a0_2 a0_3 a0_4 a0_5 a0_6 a0_7 a0_8 l0_9 l0_10))) else (ephemerisref1_MoonError.j0 k true a0_0 a0_1 a0_2 a0_3 a0_4 a0_5 a0_6 a0_7 a0_8 l0_9 l0_10))) = some r := by rw [if_pos rfl] at H; exact H
   clear H
   have H := H1
   clear H1
   have HC6 := Aside0.mk H
   clear H
   go_enter Try.func27, Try.ntmps27
   go_upto_region 5 with (first | ((with_reducible refine gate_dst (N := 1) rfl ?_); refine box_event ?hg (N := 1) ?hd (cs := #[.string a0_0, .int .i64 a0_1, .int .i64 a0_2, .int .i64 a0_3, .int .i64 a0_4, .int .i64 a0_5, .int .i64 a0_6, .int .i64 a0_7, .int .i64 a0_8, .slice A0_9 l0_9.length c0_9, .slice A0_10 l0_10.length c0_10]) (t := 60) ?hr ?_; (case hd => rfl); (case hg => rfl); (case hr => first | (go_simp; done) | (go_simp; rfl)); intro gb208 hg w7 hbox hb; have n0_ := Aside0.mk (below_step be hb); have n1_ := Aside0.mk (hbox); have n2_ := gs hg HB; have n3_ := n2_; clear HB; have HB := n0_; have BK208 := n1_; have GW208 := n2_; have GE208 := n3_; clear n0_ n1_ n2_ n3_; clear hb hbox hg; obtain ⟨hcz8_0, hcz8_1, hcz8_2, hcz8_3, hcz8_4, hcz8_5, hcz8_6, hcz8_7, hcz8_8, hcz8_9, hcz8_10, hfz8_0, hfz8_1, hfz8_2, hfz8_3, hfz8_4, hfz8_5, hfz8_6, hfz8_7, hfz8_8, hfz8_9, hfz8_10⟩ := bc11 BK208) | ((with_reducible refine gate_callee (f := 36) rfl ?_); refine goesL_ (some 9) rfl rfl Try.func36 kx rfl #[.string a0_0] rfl aa ?_; (with_reducible refine (ephemerisref1_Name.calls k a0_0 true _ A2.out).mono ?_); rintro e w' ⟨rfl, ⟨nd, rfl⟩⟩; refine ⟨_, rfl, ?_⟩) | ((with_reducible refine gate_callee (f := 30) rfl ?_); refine goesL_ (some 13) rfl rfl Try.func30 kx rfl #[.int .i64 a0_1] rfl aa ?_; (with_reducible refine (ephemerisref1_Day.calls a0_1 true _ A4.out).mono ?_); rintro e w' ⟨rfl, ⟨nd, rfl⟩⟩; refine ⟨_, rfl, ?_⟩))
   (try simp only [Act.put, List.setIfInBounds_toArray, List.set_cons_zero, List.set_cons_succ])
   go_cut [30] (fun v30 wc => ∃ (kq : Nat) (x30_5 : Bool), v30 = .bool x30_5 ∧ Aside0 (ephemerisref1_MoonError.j0 kq x30_5 a0_0 a0_1 a0_2 a0_3 a0_4 a0_5 a0_6 a0_7 a0_8 l0_9 l0_10 = some r) ∧ Aside0 (kq ≤ k) ∧ Aside0 (wc.heap[gb208]? = some (.cells #[.string a0_0, .int .i64 a0_1, .int .i64 a0_2, .int .i64 a0_3, .int .i64 a0_4, .int .i64 a0_5, .int .i64 a0_6, .int .i64 a0_7, .int .i64 a0_8, (.slice A0_9 l0_9.length c0_9), (.slice A0_10 l0_10.length c0_10)] 60 (0, 0))) ∧ Aside0 (Below w.heap.size w wc))
   case first =>
    have H := HC6.out
    clear HC6
    replace H := Option.bind_eq_some_iff.mp H
    obtain ⟨t211, A90, H⟩ := H
    replace H : (if t211 = true then ((ephemerisref1_FracOK.f k a0_4 a0_5).bind fun t212 => (if t212 = true then ((ephemerisref1_FracOK.f k a0_6 a0_7).bind fun t213 => (ephemerisref1_MoonError.j0 k (!t213) a0_0 a0_1 a0_2 a0_3 a0_4 a0_5 a0_6 a0_7 a0_8 l0_9 l0_10)) else (ephemerisref1_MoonError.j0 k true a0_0 a0_1 a0_2 a0_3 a0_4 a0_5 a0_6 a0_7 a0_8 l0_9 l0_10))) else (ephemerisref1_MoonError.j0 k true a0_0 a0_1 a0_2 a0_3 a0_4 a0_5 a0_6 a0_7 a0_8 l0_9 l0_10)) = some r := H
    have A9 := Aside0.mk A90
    clear A90
    by_cases c10 : t211 = true
    ·subst c10
     have H1 : ((ephemerisref1_FracOK.f k a0_4 a0_5).bind fun t212 => (if t212 = true then ((ephemerisref1_FracOK.f k a0_6 a0_7).bind fun t213 => (ephemerisref1_MoonError.j0 k (!t213) a0_0 a0_1 a0_2 a0_3 a0_4 a0_5 a0_6 a0_7 a0_8 l0_9 l0_10)) else (ephemerisref1_MoonError.j0 k true a0_0 a0_1 a0_2 a0_3 a0_4 a0_5 a0_6 a0_7 a0_8 l0_9 l0_10))) = some r := by rw [if_pos rfl] at H; exact H
     clear H
     have H := H1
     clear H1
     replace H := Option.bind_eq_some_iff.mp H
     obtain ⟨t212, A110, H⟩ := H
     replace H : (if t212 = true then ((ephemerisref1_FracOK.f k a0_6 a0_7).bind fun t213 => (ephemerisref1_MoonError.j0 k (!t213) a0_0 a0_1 a0_2 a0_3 a0_4 a0_5 a0_6 a0_7 a0_8 l0_9 l0_10)) else (ephemerisref1_MoonError.j0 k true a0_0 a0_1 a0_2 a0_3 a0_4 a0_5 a0_6 a0_7 a0_8 l0_9 l0_10)) = some r := H
     have A11 := Aside0.mk A110
     clear A110
     by_cases c12 : t212 = true
     ·subst c12
      have H1 : ((ephemerisref1_FracOK.f k a0_6 a0_7).bind fun t213 => (ephemerisref1_MoonError.j0 k (!t213) a0_0 a0_1 a0_2 a0_3 a0_4 a0_5 a0_6 a0_7 a0_8 l0_9 l0_10)) = some r := by rw [if_pos rfl] at H; exact H
      clear H
      have H := H1
      clear H1
      replace H := Option.bind_eq_some_iff.mp H
      obtain ⟨t213, A130, H⟩ := H
      replace H : (ephemerisref1_MoonError.j0 k (!t213) a0_0 a0_1 a0_2 a0_3 a0_4 a0_5 a0_6 a0_7 a0_8 l0_9 l0_10) = some r := H
      have A13 := Aside0.mk A130
      clear A130
      have H' := Aside0.mk H
      clear H
      obtain ⟨hcz14_0, hcz14_1, hcz14_2, hcz14_3, hcz14_4, hcz14_5, hcz14_6, hcz14_7, hcz14_8, hcz14_9, hcz14_10, hfz14_0, hfz14_1, hfz14_2, hfz14_3, hfz14_4, hfz14_5, hfz14_6, hfz14_7, hfz14_8, hfz14_9, hfz14_10⟩ := bc11 BK208
      go_wp2_with (first | ((with_reducible refine gate_callee (f := 76) rfl ?_); refine goesL_ (some 17) rfl rfl Try.func76 kx rfl #[.agg #[.int .i64 a0_2, .int .i64 a0_3]] rfl aa ?_; (with_reducible refine (ephemerisref1_FracOK.calls k a0_2 a0_3 true _ A9.out).mono ?_); rintro e w15 ⟨rfl, hb⟩; refine ⟨_, rfl, ?_⟩; have n0_ := bb BK208 hb; have n1_ := Aside0.mk (below_step be hb); clear BK208; clear HB; have BK208 := n0_; have HB := n1_; clear n0_ n1_; (try clear hb); (try clear hb2); (try clear hk); (try clear hi); obtain ⟨hcz16_0, hcz16_1, hcz16_2, hcz16_3, hcz16_4, hcz16_5, hcz16_6, hcz16_7, hcz16_8, hcz16_9, hcz16_10, hfz16_0, hfz16_1, hfz16_2, hfz16_3, hfz16_4, hfz16_5, hfz16_6, hfz16_7, hfz16_8, hfz16_9, hfz16_10⟩ := bc11 BK208) | (go_at_call 76; (with_reducible refine (ephemerisref1_FracOK.calls k a0_4 a0_5 true _ A11.out).mono ?_); rintro e w17 ⟨rfl, hb⟩; have n0_ := bb BK208 hb; have n1_ := Aside0.mk (below_step be hb); clear BK208; clear HB; have BK208 := n0_; have HB := n1_; clear n0_ n1_; (try clear hb); (try clear hb2); (try clear hk); (try clear hi); obtain ⟨hcz18_0, hcz18_1, hcz18_2, hcz18_3, hcz18_4, hcz18_5, hcz18_6, hcz18_7, hcz18_8, hcz18_9, hcz18_10, hfz18_0, hfz18_1, hfz18_2, hfz18_3, hfz18_4, hfz18_5, hfz18_6, hfz18_7, hfz18_8, hfz18_9, hfz18_10⟩ := bc11 BK208) | (go_at_call 76; (with_reducible refine (ephemerisref1_FracOK.calls k a0_6 a0_7 t213 _ A13.out).mono ?_); rintro e w19 ⟨rfl, hb⟩; have n0_ := bb BK208 hb; have n1_ := Aside0.mk (below_step be hb); clear BK208; clear HB; have BK208 := n0_; have HB := n1_; clear n0_ n1_; (try clear hb); (try clear hb2); (try clear hk); (try clear hi)))
      go_meet
      case rel => exact ⟨_, (!t213), rs, H', ⟨by first | omega | exact Nat.le_refl _⟩, ⟨bk BK208⟩, ⟨be⟩⟩
     ·replace c12 := Bool.eq_false_iff.mpr c12
      subst c12
      have H1 : (ephemerisref1_MoonError.j0 k true a0_0 a0_1 a0_2 a0_3 a0_4 a0_5 a0_6 a0_7 a0_8 l0_9 l0_10) = some r := by rw [if_neg (show ¬ (false = true) by decide)] at H; exact H
      clear H
      have H := H1
      clear H1
      have H' := Aside0.mk H
      clear H
      obtain ⟨hcz20_0, hcz20_1, hcz20_2, hcz20_3, hcz20_4, hcz20_5, hcz20_6, hcz20_7, hcz20_8, hcz20_9, hcz20_10, hfz20_0, hfz20_1, hfz20_2, hfz20_3, hfz20_4, hfz20_5, hfz20_6, hfz20_7, hfz20_8, hfz20_9, hfz20_10⟩ := bc11 BK208
      go_wp2_with (first | ((with_reducible refine gate_callee (f := 76) rfl ?_); refine goesL_ (some 17) rfl rfl Try.func76 kx rfl #[.agg #[.int .i64 a0_2, .int .i64 a0_3]] rfl aa ?_; (with_reducible refine (ephemerisref1_FracOK.calls k a0_2 a0_3 true _ A9.out).mono ?_); rintro e w21 ⟨rfl, hb⟩; refine ⟨_, rfl, ?_⟩; have n0_ := bb BK208 hb; have n1_ := Aside0.mk (below_step be hb); clear BK208; clear HB; have BK208 := n0_; have HB := n1_; clear n0_ n1_; (try clear hb); (try clear hb2); (try clear hk); (try clear hi); obtain ⟨hcz22_0, hcz22_1, hcz22_2, hcz22_3, hcz22_4, hcz22_5, hcz22_6, hcz22_7, hcz22_8, hcz22_9, hcz22_10, hfz22_0, hfz22_1, hfz22_2, hfz22_3, hfz22_4, hfz22_5, hfz22_6, hfz22_7, hfz22_8, hfz22_9, hfz22_10⟩ := bc11 BK208) | (go_at_call 76; (with_reducible refine (ephemerisref1_FracOK.calls k a0_4 a0_5 false _ A11.out).mono ?_); rintro e w23 ⟨rfl, hb⟩; have n0_ := bb BK208 hb; have n1_ := Aside0.mk (below_step be hb); clear BK208; clear HB; have BK208 := n0_; have HB := n1_; clear n0_ n1_; (try clear hb); (try clear hb2); (try clear hk); (try clear hi)))
      go_meet
      case rel => exact ⟨_, (true), rs, H', ⟨by first | omega | exact Nat.le_refl _⟩, ⟨bk BK208⟩, ⟨be⟩⟩
    ·replace c10 := Bool.eq_false_iff.mpr c10
     subst c10
     have H1 : (ephemerisref1_MoonError.j0 k true a0_0 a0_1 a0_2 a0_3 a0_4 a0_5 a0_6 a0_7 a0_8 l0_9 l0_10) = some r := by rw [if_neg (show ¬ (false = true) by decide)] at H; exact H
     clear H
     have H := H1
     clear H1
     have H' := Aside0.mk H
     clear H
     obtain ⟨hcz24_0, hcz24_1, hcz24_2, hcz24_3, hcz24_4, hcz24_5, hcz24_6, hcz24_7, hcz24_8, hcz24_9, hcz24_10, hfz24_0, hfz24_1, hfz24_2, hfz24_3, hfz24_4, hfz24_5, hfz24_6, hfz24_7, hfz24_8, hfz24_9, hfz24_10⟩ := bc11 BK208
     go_wp2_with (first | ((with_reducible refine gate_callee (f := 76) rfl ?_); refine goesL_ (some 17) rfl rfl Try.func76 kx rfl #[.agg #[.int .i64 a0_2, .int .i64 a0_3]] rfl aa ?_; (with_reducible refine (ephemerisref1_FracOK.calls k a0_2 a0_3 false _ A9.out).mono ?_); rintro e w25 ⟨rfl, hb⟩; refine ⟨_, rfl, ?_⟩; have n0_ := bb BK208 hb; have n1_ := Aside0.mk (below_step be hb); clear BK208; clear HB; have BK208 := n0_; have HB := n1_; clear n0_ n1_; (try clear hb); (try clear hb2); (try clear hk); (try clear hi)))
     go_meet
     case rel => exact ⟨_, (true), rs, H', ⟨by first | omega | exact Nat.le_refl _⟩, ⟨bk BK208⟩, ⟨be⟩⟩
   case rest =>
    clear HC6
    (try clear c1); (try clear c2); (try clear p2); (try clear c3); (try clear c5); (try clear c7); (try clear c10); (try clear c12); (try clear hcz14_0); (try clear hcz14_1); (try clear hcz14_10); (try clear hcz14_2); (try clear hcz14_3); (try clear hcz14_4); (try clear hcz14_5); (try clear hcz14_6); (try clear hcz14_7); (try clear hcz14_8); (try clear hcz14_9); (try clear hcz16_0); (try clear hcz16_1); (try clear hcz16_10); (try clear hcz16_2); (try clear hcz16_3); (try clear hcz16_4); (try clear hcz16_5); (try clear hcz16_6); (try clear hcz16_7); (try clear hcz16_8); (try clear hcz16_9); (try clear hcz18_0); (try clear hcz18_1); (try clear hcz18_10); (try clear hcz18_2); (try clear hcz18_3); (try clear hcz18_4); (try clear hcz18_5); (try clear hcz18_6); (try clear hcz18_7); (try clear hcz18_8); (try clear hcz18_9); (try clear hcz20_0); (try clear hcz20_1); (try clear hcz20_10); (try clear hcz20_2); (try clear hcz20_3); (try clear hcz20_4); (try clear hcz20_5); (try clear hcz20_6); (try clear hcz20_7); (try clear hcz20_8); (try clear hcz20_9); (try clear hcz22_0); (try clear hcz22_1); (try clear hcz22_10); (try clear hcz22_2); (try clear hcz22_3); (try clear hcz22_4); (try clear hcz22_5); (try clear hcz22_6); (try clear hcz22_7); (try clear hcz22_8); (try clear hcz22_9); (try clear hcz24_0); (try clear hcz24_1); (try clear hcz24_10); (try clear hcz24_2); (try clear hcz24_3); (try clear hcz24_4); (try clear hcz24_5); (try clear hcz24_6); (try clear hcz24_7); (try clear hcz24_8); (try clear hcz24_9); (try clear hcz8_0); (try clear hcz8_1); (try clear hcz8_10); (try clear hcz8_2); (try clear hcz8_3); (try clear hcz8_4); (try clear hcz8_5); (try clear hcz8_6); (try clear hcz8_7); (try clear hcz8_8); (try clear hcz8_9); (try clear hfz14_0); (try clear hfz14_1); (try clear hfz14_10); (try clear hfz14_2); (try clear hfz14_3); (try clear hfz14_4); (try clear hfz14_5); (try clear hfz14_6); (try clear hfz14_7); (try clear hfz14_8); (try clear hfz14_9); (try clear hfz16_0); (try clear hfz16_1); (try clear hfz16_10); (try clear hfz16_2); (try clear hfz16_3); (try clear hfz16_4); (try clear hfz16_5); (try clear hfz16_6); (try clear hfz16_7); (try clear hfz16_8); (try clear hfz16_9); (try clear hfz18_0); (try clear hfz18_1); (try clear hfz18_10); (try clear hfz18_2); (try clear hfz18_3); (try clear hfz18_4); (try clear hfz18_5); (try clear hfz18_6); (try clear hfz18_7); (try clear hfz18_8); (try clear hfz18_9); (try clear hfz20_0); (try clear hfz20_1); (try clear hfz20_10); (try clear hfz20_2); (try clear hfz20_3); (try clear hfz20_4); (try clear hfz20_5); (try clear hfz20_6); (try clear hfz20_7); (try clear hfz20_8); (try clear hfz20_9); (try clear hfz22_0); (try clear hfz22_1); (try clear hfz22_10); (try clear hfz22_2); (try clear hfz22_3); (try clear hfz22_4); (try clear hfz22_5); (try clear hfz22_6); (try clear hfz22_7); (try clear hfz22_8); (try clear hfz22_9); (try clear hfz24_0); (try clear hfz24_1); (try clear hfz24_10); (try clear hfz24_2); (try clear hfz24_3); (try clear hfz24_4); (try clear hfz24_5); (try clear hfz24_6); (try clear hfz24_7); (try clear hfz24_8); (try clear hfz24_9); (try clear hfz8_0); (try clear hfz8_1); (try clear hfz8_10); (try clear hfz8_2); (try clear hfz8_3); (try clear hfz8_4); (try clear hfz8_5); (try clear hfz8_6); (try clear hfz8_7); (try clear hfz8_8); (try clear hfz8_9)
    obtain ⟨kq, x30_5, rfl, HA, HJ5, BK208, HB⟩ := hcut
    cases kq with
    | zero => exact absurd HA.out (by simp [ephemerisref1_MoonError.j0])
    | succ kj5 =>
     have H := HA.out
     clear HA
     simp only [ephemerisref1_MoonError.j0] at H
     by_cases c26 : x30_5 = true
     ·subst c26
      have H1 : (some 8) = some r := by rw [if_pos rfl] at H; exact H
      clear H
      have H := H1
      clear H1
      obtain rfl := Option.some.inj H
      go_wp2
      go_ret
      exact ⟨by first | rfl | (simp [errW_none, errW_some] <;> rfl) | (simp [*, errW_none, errW_some] <;> rfl), be⟩
     ·replace c26 := Bool.eq_false_iff.mpr c26
      subst c26
      have H1 : (if a0_2 < 0 then (ephemerisref1_MoonError.j1 kj5 true a0_0 a0_1 a0_2 a0_3 a0_4 a0_5 a0_6 a0_7 a0_8 l0_9 l0_10) else ((ephemerisref1_Floor.f kj5 a0_2 a0_3).bind fun t214 => (if t214 > 0 then (ephemerisref1_MoonError.j1 kj5 true a0_0 a0_1 a0_2 a0_3 a0_4 a0_5 a0_6 a0_7 a0_8 l0_9 l0_10) else ((ephemerisref1_Floor.f kj5 a0_4 a0_5).bind fun t215 => (if t215 < 29 then (ephemerisref1_MoonError.j1 kj5 true a0_0 a0_1 a0_2 a0_3 a0_4 a0_5 a0_6 a0_7 a0_8 l0_9 l0_10) else ((ephemerisref1_Floor.f kj5 (wrap64 (a0_4 - 1)) a0_5).bind fun t216 => (if t216 > 29 then (ephemerisref1_MoonError.j1 kj5 true a0_0 a0_1 a0_2 a0_3 a0_4 a0_5 a0_6 a0_7 a0_8 l0_9 l0_10) else (if a0_6 ≤ 0 then (ephemerisref1_MoonError.j1 kj5 true a0_0 a0_1 a0_2 a0_3 a0_4 a0_5 a0_6 a0_7 a0_8 l0_9 l0_10) else (ephemerisref1_MoonError.j1 kj5 (decide (a0_6 > a0_7)) a0_0 a0_1 a0_2 a0_3 a0_4 a0_5 a0_6 a0_7 a0_8 l0_9 l0_10))))))))) = some r := by rw [if_neg (show ¬ (false = true) by decide)] at H; exact H
      clear H
      have H := H1
      clear H1
      have HC27 := Aside0.mk H
      clear H
      go_upto_region 7 with (fail)
      go_cut [80] (fun v80 wc => ∃ (kq : Nat) (x80_26 : Bool), v80 = .bool x80_26 ∧ Aside0 (ephemerisref1_MoonError.j1 kq x80_26 a0_0 a0_1 a0_2 a0_3 a0_4 a0_5 a0_6 a0_7 a0_8 l0_9 l0_10 = some r) ∧ Aside0 (kq ≤ kj5) ∧ Aside0 (wc.heap[gb208]? = some (.cells #[.string a0_0, .int .i64 a0_1, .int .i64 a0_2, .int .i64 a0_3, .int .i64 a0_4, .int .i64 a0_5, .int .i64 a0_6, .int .i64 a0_7, .int .i64 a0_8, (.slice A0_9 l0_9.length c0_9), (.slice A0_10 l0_10.length c0_10)] 60 (0, 0))) ∧ Aside0 (Below w.heap.size w wc))
      case first =>
       have H := HC27.out
       clear HC27
       by_cases c28 : a0_2 < 0
       ·rw [if_pos c28] at H
        have c28b0 : decide (a0_2 < 0) = true := decide_eq_true c28
        clear c28
        (first | rw [c28b0] | (simp only [i64_w, i32_w]; rw [c28b0]) | skip)
        have H' := Aside0.mk H
        clear H
        obtain ⟨hcz29_0, hcz29_1, hcz29_2, hcz29_3, hcz29_4, hcz29_5, hcz29_6, hcz29_7, hcz29_8, hcz29_9, hcz29_10, hfz29_0, hfz29_1, hfz29_2, hfz29_3, hfz29_4, hfz29_5, hfz29_6, hfz29_7, hfz29_8, hfz29_9, hfz29_10⟩ := bc11 BK208
        go_wp2
        go_meet
        case rel => exact ⟨_, (true), rs, H', ⟨by have := HJ5.out; first | omega | exact Nat.le_refl _⟩, ⟨bk BK208⟩, ⟨be⟩⟩
       ·rw [if_neg c28] at H
        have c28b0 : decide (a0_2 < 0) = false := decide_eq_false c28
        clear c28
        (first | rw [c28b0] | (simp only [i64_w, i32_w]; rw [c28b0]) | skip)
        replace H := Option.bind_eq_some_iff.mp H
        obtain ⟨t214, A300, H⟩ := H
        replace H : (if t214 > 0 then (ephemerisref1_MoonError.j1 kj5 true a0_0 a0_1 a0_2 a0_3 a0_4 a0_5 a0_6 a0_7 a0_8 l0_9 l0_10) else ((ephemerisref1_Floor.f kj5 a0_4 a0_5).bind fun t215 => (if t215 < 29 then (ephemerisref1_MoonError.j1 kj5 true a0_0 a0_1 a0_2 a0_3 a0_4 a0_5 a0_6 a0_7 a0_8 l0_9 l0_10) else ((ephemerisref1_Floor.f kj5 (wrap64 (a0_4 - 1)) a0_5).bind fun t216 => (if t216 > 29 then (ephemerisref1_MoonError.j1 kj5 true a0_0 a0_1 a0_2 a0_3 a0_4 a0_5 a0_6 a0_7 a0_8 l0_9 l0_10) else (if a0_6 ≤ 0 then (ephemerisref1_MoonError.j1 kj5 true a0_0 a0_1 a0_2 a0_3 a0_4 a0_5 a0_6 a0_7 a0_8 l0_9 l0_10) else (ephemerisref1_MoonError.j1 kj5 (decide (a0_6 > a0_7)) a0_0 a0_1 a0_2 a0_3 a0_4 a0_5 a0_6 a0_7 a0_8 l0_9 l0_10))))))) = some r := H
        have A30 := Aside0.mk A300
        clear A300
        by_cases c31 : t214 > 0
        ·rw [if_pos c31] at H
         have c31b0 : decide (0 < t214) = true := decide_eq_true c31
         clear c31
         have H' := Aside0.mk H
         clear H
         obtain ⟨hcz32_0, hcz32_1, hcz32_2, hcz32_3, hcz32_4, hcz32_5, hcz32_6, hcz32_7, hcz32_8, hcz32_9, hcz32_10, hfz32_0, hfz32_1, hfz32_2, hfz32_3, hfz32_4, hfz32_5, hfz32_6, hfz32_7, hfz32_8, hfz32_9, hfz32_10⟩ := bc11 BK208
         go_wp2_with (first | (go_at_call 77; (with_reducible refine (ephemerisref1_Floor.calls kj5 a0_2 a0_3 t214 _ A30.out).mono ?_); rintro e w' ⟨rfl, ⟨nd, rfl⟩⟩))
         go_meet
         case rel => exact ⟨_, (true), rs, H', ⟨by have := HJ5.out; first | omega | exact Nat.le_refl _⟩, ⟨bk BK208⟩, ⟨be⟩⟩
        ·rw [if_neg c31] at H
         have c31b0 : decide (0 < t214) = false := decide_eq_false c31
         clear c31
         replace H := Option.bind_eq_some_iff.mp H
         obtain ⟨t215, A330, H⟩ := H
         replace H : (if t215 < 29 then (ephemerisref1_MoonError.j1 kj5 true a0_0 a0_1 a0_2 a0_3 a0_4 a0_5 a0_6 a0_7 a0_8 l0_9 l0_10) else ((ephemerisref1_Floor.f kj5 (wrap64 (a0_4 - 1)) a0_5).bind fun t216 => (if t216 > 29 then (ephemerisref1_MoonError.j1 kj5 true a0_0 a0_1 a0_2 a0_3 a0_4 a0_5 a0_6 a0_7 a0_8 l0_9 l0_10) else (if a0_6 ≤ 0 then (ephemerisref1_MoonError.j1 kj5 true a0_0 a0_1 a0_2 a0_3 a0_4 a0_5 a0_6 a0_7 a0_8 l0_9 l0_10) else (ephemerisref1_MoonError.j1 kj5 (decide (a0_6 > a0_7)) a0_0 a0_1 a0_2 a0_3 a0_4 a0_5 a0_6 a0_7 a0_8 l0_9 l0_10))))) = some r := H
         have A33 := Aside0.mk A330
         clear A330
         by_cases c34 : t215 < 29
         ·rw [if_pos c34] at H
          have c34b0 : decide (t215 < 29) = true := decide_eq_true c34
          clear c34
          have H' := Aside0.mk H
          clear H
          obtain ⟨hcz35_0, hcz35_1, hcz35_2, hcz35_3, hcz35_4, hcz35_5, hcz35_6, hcz35_7, hcz35_8, hcz35_9, hcz35_10, hfz35_0, hfz35_1, hfz35_2, hfz35_3, hfz35_4, hfz35_5, hfz35_6, hfz35_7, hfz35_8, hfz35_9, hfz35_10⟩ := bc11 BK208
          go_wp2_with (first | (go_at_call 77; (with_reducible refine (ephemerisref1_Floor.calls kj5 a0_2 a0_3 t214 _ A30.out).mono ?_); rintro e w' ⟨rfl, ⟨nd, rfl⟩⟩) | (go_at_call 77; (with_reducible refine (ephemerisref1_Floor.calls kj5 a0_4 a0_5 t215 _ A33.out).mono ?_); rintro e w' ⟨rfl, ⟨nd, rfl⟩⟩))
          go_meet
          case rel => exact ⟨_, (true), rs, H', ⟨by have := HJ5.out; first | omega | exact Nat.le_refl _⟩, ⟨bk BK208⟩, ⟨be⟩⟩
         ·rw [if_neg c34] at H
          have c34b0 : decide (t215 < 29) = false := decide_eq_false c34
          clear c34
          replace H := Option.bind_eq_some_iff.mp H
          obtain ⟨t216, A360, H⟩ := H
          replace H : (if t216 > 29 then (ephemerisref1_MoonError.j1 kj5 true a0_0 a0_1 a0_2 a0_3 a0_4 a0_5 a0_6 a0_7 a0_8 l0_9 l0_10) else (if a0_6 ≤ 0 then (ephemerisref1_MoonError.j1 kj5 true a0_0 a0_1 a0_2 a0_3 a0_4 a0_5 a0_6 a0_7 a0_8 l0_9 l0_10) else (ephemerisref1_MoonError.j1 kj5 (decide (a0_6 > a0_7)) a0_0 a0_1 a0_2 a0_3 a0_4 a0_5 a0_6 a0_7 a0_8 l0_9 l0_10))) = some r := H
          have A36 := Aside0.mk A360
          clear A360
          by_cases c37 : t216 > 29
          ·rw [if_pos c37] at H
           have c37b0 : decide (29 < t216) = true := decide_eq_true c37
           clear c37
           have H' := Aside0.mk H
           clear H
           obtain ⟨hcz38_0, hcz38_1, hcz38_2, hcz38_3, hcz38_4, hcz38_5, hcz38_6, hcz38_7, hcz38_8, hcz38_9, hcz38_10, hfz38_0, hfz38_1, hfz38_2, hfz38_3, hfz38_4, hfz38_5, hfz38_6, hfz38_7, hfz38_8, hfz38_9, hfz38_10⟩ := bc11 BK208
           go_wp2_with (first | (go_at_call 77; (with_reducible refine (ephemerisref1_Floor.calls kj5 a0_2 a0_3 t214 _ A30.out).mono ?_); rintro e w' ⟨rfl, ⟨nd, rfl⟩⟩) | (go_at_call 77; (with_reducible refine (ephemerisref1_Floor.calls kj5 a0_4 a0_5 t215 _ A33.out).mono ?_); rintro e w' ⟨rfl, ⟨nd, rfl⟩⟩) | (go_at_call 77; (with_reducible refine (ephemerisref1_Floor.calls kj5 (wrap64 (a0_4 - 1)) a0_5 t216 _ A36.out).mono ?_); rintro e w' ⟨rfl, ⟨nd, rfl⟩⟩))
           go_meet
           case rel => exact ⟨_, (true), rs, H', ⟨by have := HJ5.out; first | omega | exact Nat.le_refl _⟩, ⟨bk BK208⟩, ⟨be⟩⟩
          ·rw [if_neg c37] at H
           have c37b0 : decide (29 < t216) = false := decide_eq_false c37
           clear c37
           by_cases c39 : a0_6 ≤ 0
           ·rw [if_pos c39] at H
            have c39b0 : decide (a0_6 ≤ 0) = true := decide_eq_true c39
            clear c39
            have H' := Aside0.mk H
            clear H
            obtain ⟨hcz40_0, hcz40_1, hcz40_2, hcz40_3, hcz40_4, hcz40_5, hcz40_6, hcz40_7, hcz40_8, hcz40_9, hcz40_10, hfz40_0, hfz40_1, hfz40_2, hfz40_3, hfz40_4, hfz40_5, hfz40_6, hfz40_7, hfz40_8, hfz40_9, hfz40_10⟩ := bc11 BK208
            go_wp2_with (first | (go_at_call 77; (with_reducible refine (ephemerisref1_Floor.calls kj5 a0_2 a0_3 t214 _ A30.out).mono ?_); rintro e w' ⟨rfl, ⟨nd, rfl⟩⟩) | (go_at_call 77; (with_reducible refine (ephemerisref1_Floor.calls kj5 a0_4 a0_5 t215 _ A33.out).mono ?_); rintro e w' ⟨rfl, ⟨nd, rfl⟩⟩) | (go_at_call 77; (with_reducible refine (ephemerisref1_Floor.calls kj5 (wrap64 (a0_4 - 1)) a0_5 t216 _ A36.out).mono ?_); rintro e w' ⟨rfl, ⟨nd, rfl⟩⟩))
            go_meet
            case rel => exact ⟨_, (true), rs, H', ⟨by have := HJ5.out; first | omega | exact Nat.le_refl _⟩, ⟨bk BK208⟩, ⟨be⟩⟩
           ·rw [if_neg c39] at H
            have c39b0 : decide (a0_6 ≤ 0) = false := decide_eq_false c39
            clear c39
            have H' := Aside0.mk H
            clear H
            obtain ⟨hcz41_0, hcz41_1, hcz41_2, hcz41_3, hcz41_4, hcz41_5, hcz41_6, hcz41_7, hcz41_8, hcz41_9, hcz41_10, hfz41_0, hfz41_1, hfz41_2, hfz41_3, hfz41_4, hfz41_5, hfz41_6, hfz41_7, hfz41_8, hfz41_9, hfz41_10⟩ := bc11 BK208
            go_wp2_with (first | (go_at_call 77; (with_reducible refine (ephemerisref1_Floor.calls kj5 a0_2 a0_3 t214 _ A30.out).mono ?_); rintro e w' ⟨rfl, ⟨nd, rfl⟩⟩) | (go_at_call 77; (with_reducible refine (ephemerisref1_Floor.calls kj5 a0_4 a0_5 t215 _ A33.out).mono ?_); rintro e w' ⟨rfl, ⟨nd, rfl⟩⟩) | (go_at_call 77; (with_reducible refine (ephemerisref1_Floor.calls kj5 (wrap64 (a0_4 - 1)) a0_5 t216 _ A36.out).mono ?_); rintro e w' ⟨rfl, ⟨nd, rfl⟩⟩))
            go_meet
            case rel => exact ⟨_, (decide (a0_6 > a0_7)), rs, H', ⟨by have := HJ5.out; first | omega | exact Nat.le_refl _⟩, ⟨bk BK208⟩, ⟨be⟩⟩
      case rest =>
       clear HC27
       (try clear c1); (try clear c2); (try clear p2); (try clear c3); (try clear c5); (try clear p6); (try clear c7); (try clear c10); (try clear c12); (try clear c26); (try clear c27); (try clear c28); (try clear c28b0); (try clear c30); (try clear c31); (try clear c31b0); (try clear c34); (try clear c34b0); (try clear c36); (try clear c37); (try clear c37b0); (try clear c39); (try clear c39b0); (try clear hcz14_0); (try clear hcz14_1); (try clear hcz14_10); (try clear hcz14_2); (try clear hcz14_3); (try clear hcz14_4); (try clear hcz14_5); (try clear hcz14_6); (try clear hcz14_7); (try clear hcz14_8); (try clear hcz14_9); (try clear hcz16_0); (try clear hcz16_1); (try clear hcz16_10); (try clear hcz16_2); (try clear hcz16_3); (try clear hcz16_4); (try clear hcz16_5); (try clear hcz16_6); (try clear hcz16_7); (try clear hcz16_8); (try clear hcz16_9); (try clear hcz18_0); (try clear hcz18_1); (try clear hcz18_10); (try clear hcz18_2); (try clear hcz18_3); (try clear hcz18_4); (try clear hcz18_5); (try clear hcz18_6); (try clear hcz18_7); (try clear hcz18_8); (try clear hcz18_9); (try clear hcz20_0); (try clear hcz20_1); (try clear hcz20_10); (try clear hcz20_2); (try clear hcz20_3); (try clear hcz20_4); (try clear hcz20_5); (try clear hcz20_6); (try clear hcz20_7); (try clear hcz20_8); (try clear hcz20_9); (try clear hcz22_0); (try clear hcz22_1); (try clear hcz22_10); (try clear hcz22_2); (try clear hcz22_3); (try clear hcz22_4); (try clear hcz22_5); (try clear hcz22_6); (try clear hcz22_7); (try clear hcz22_8); (try clear hcz22_9); (try clear hcz24_0); (try clear hcz24_1); (try clear hcz24_10); (try clear hcz24_2); (try clear hcz24_3); (try clear hcz24_4); (try clear hcz24_5); (try clear hcz24_6); (try clear hcz24_7); (try clear hcz24_8); (try clear hcz24_9); (try clear hcz29_0); (try clear hcz29_1); (try clear hcz29_10); (try clear hcz29_2); (try clear hcz29_3); (try clear hcz29_4); (try clear hcz29_5); (try clear hcz29_6); (try clear hcz29_7); (try clear hcz29_8); (try clear hcz29_9); (try clear hcz32_0); (try clear hcz32_1); (try clear hcz32_10); (try clear hcz32_2); (try clear hcz32_3); (try clear hcz32_4); (try clear hcz32_5); (try clear hcz32_6); (try clear hcz32_7); (try clear hcz32_8); (try clear hcz32_9); (try clear hcz35_0); (try clear hcz35_1); (try clear hcz35_10); (try clear hcz35_2); (try clear hcz35_3); (try clear hcz35_4); (try clear hcz35_5); (try clear hcz35_6); (try clear hcz35_7); (try clear hcz35_8); (try clear hcz35_9); (try clear hcz38_0); (try clear hcz38_1); (try clear hcz38_10); (try clear hcz38_2); (try clear hcz38_3); (try clear hcz38_4); (try clear hcz38_5); (try clear hcz38_6); (try clear hcz38_7); (try clear hcz38_8); (try clear hcz38_9); (try clear hcz40_0); (try clear hcz40_1); (try clear hcz40_10); (try clear hcz40_2); (try clear hcz40_3); (try clear hcz40_4); (try clear hcz40_5); (try clear hcz40_6); (try clear hcz40_7); (try clear hcz40_8); (try clear hcz40_9); (try clear hcz41_0); (try clear hcz41_1); (try clear hcz41_10); (try clear hcz41_2); (try clear hcz41_3); (try clear hcz41_4); (try clear hcz41_5); (try clear hcz41_6); (try clear hcz41_7); (try clear hcz41_8); (try clear hcz41_9); (try clear hcz8_0); (try clear hcz8_1); (try clear hcz8_10); (try clear hcz8_2); (try clear hcz8_3); (try clear hcz8_4); (try clear hcz8_5); (try clear hcz8_6); (try clear hcz8_7); (try clear hcz8_8); (try clear hcz8_9); (try clear hfz14_0); (try clear hfz14_1); (try clear hfz14_10); (try clear hfz14_2); (try clear hfz14_3); (try clear hfz14_4); (try clear hfz14_5); (try clear hfz14_6); (try clear hfz14_7); (try clear hfz14_8); (try clear hfz14_9); (try clear hfz16_0); (try clear hfz16_1); (try clear hfz16_10); (try clear hfz16_2); (try clear hfz16_3); (try clear hfz16_4); (try clear hfz16_5); (try clear hfz16_6); (try clear hfz16_7); (try clear hfz16_8); (try clear hfz16_9); (try clear hfz18_0); (try clear hfz18_1); (try clear hfz18_10); (try clear hfz18_2); (try clear hfz18_3); (try clear hfz18_4); (try clear hfz18_5); (try clear hfz18_6); (try clear hfz18_7); (try clear hfz18_8); (try clear hfz18_9); (try clear hfz20_0); (try clear hfz20_1); (try clear hfz20_10); (try clear hfz20_2); (try clear hfz20_3); (try clear hfz20_4); (try clear hfz20_5); (try clear hfz20_6); (try clear hfz20_7); (try clear hfz20_8); (try clear hfz20_9); (try clear hfz22_0); (try clear hfz22_1); (try clear hfz22_10); (try clear hfz22_2); (try clear hfz22_3); (try clear hfz22_4); (try clear hfz22_5); (try clear hfz22_6); (try clear hfz22_7); (try clear hfz22_8); (try clear hfz22_9); (try clear hfz24_0); (try clear hfz24_1); (try clear hfz24_10); (try clear hfz24_2); (try clear hfz24_3); (try clear hfz24_4); (try clear hfz24_5); (try clear hfz24_6); (try clear hfz24_7); (try clear hfz24_8); (try clear hfz24_9); (try clear hfz29_0); (try clear hfz29_1); (try clear hfz29_10); (try clear hfz29_2); (try clear hfz29_3); (try clear hfz29_4); (try clear hfz29_5); (try clear hfz29_6); (try clear hfz29_7); (try clear hfz29_8); (try clear hfz29_9); (try clear hfz32_0); (try clear hfz32_1); (try clear hfz32_10); (try clear hfz32_2); (try clear hfz32_3); (try clear hfz32_4); (try clear hfz32_5); (try clear hfz32_6); (try clear hfz32_7); (try clear hfz32_8); (try clear hfz32_9); (try clear hfz35_0); (try clear hfz35_1); (try clear hfz35_10); (try clear hfz35_2); (try clear hfz35_3); (try clear hfz35_4); (try clear hfz35_5); (try clear hfz35_6); (try clear hfz35_7); (try clear hfz35_8); (try clear hfz35_9); (try clear hfz38_0); (try clear hfz38_1); (try clear hfz38_10); (try clear hfz38_2); (try clear hfz38_3); (try clear hfz38_4); (try clear hfz38_5); (try clear hfz38_6); (try clear hfz38_7); (try clear hfz38_8); (try clear hfz38_9); (try clear hfz40_0); (try clear hfz40_1); (try clear hfz40_10); (try clear hfz40_2); (try clear hfz40_3); (try clear hfz40_4); (try clear hfz40_5); (try clear hfz40_6); (try clear hfz40_7); (try clear hfz40_8); (try clear hfz40_9); (try clear hfz41_0); (try clear hfz41_1); (try clear hfz41_10); (try clear hfz41_2); (try clear hfz41_3); (try clear hfz41_4); (try clear hfz41_5); (try clear hfz41_6); (try clear hfz41_7); (try clear hfz41_8); (try clear hfz41_9); (try clear hfz8_0); (try clear hfz8_1); (try clear hfz8_10); (try clear hfz8_2); (try clear hfz8_3); (try clear hfz8_4); (try clear hfz8_5); (try clear hfz8_6); (try clear hfz8_7); (try clear hfz8_8); (try clear hfz8_9); (try clear p2)
       obtain ⟨kq, x80_26, rfl, HA, HJ26, BK208, HB⟩ := hcut
       cases kq with
       | zero => exact absurd HA.out (by simp [ephemerisref1_MoonError.j1])
       | succ kj26 =>
        have H := HA.out
        clear HA
        simp only [ephemerisref1_MoonError.j1] at H
        by_cases c42 : x80_26 = true
        ·subst c42
         have H1 : (some 3) = some r := by rw [if_pos rfl] at H; exact H
         clear H
         have H := H1
         clear H1
         obtain rfl := Option.some.inj H
         go_wp2
         go_ret
         exact ⟨by first | rfl | (simp [errW_none, errW_some] <;> rfl) | (simp [*, errW_none, errW_some] <;> rfl), be⟩
        ·replace c42 := Bool.eq_false_iff.mpr c42
         subst c42
         have H1 : ((ephemerisref1_Parts.f kj26 a0_0 a0_1 a0_2 a0_3 a0_4 a0_5 a0_6 a0_7 a0_8 l0_9 l0_10).bind fun t217 => (if t217 = 0 then (some 14) else ((ephemerisref1_In.f a0_8 1 100).bind fun t218 => (if t218 = true then (ephemerisref1_MoonError.l0 kj26 l0_9 (l0_9.length : Int) 0 a0_0 a0_1 a0_2 a0_3 a0_4 a0_5 a0_6 a0_7 a0_8 l0_9 l0_10) else (some 3))))) = some r := by rw [if_neg (show ¬ (false = true) by decide)] at H; exact H
         clear H
         have H := H1
         clear H1
         replace H := Option.bind_eq_some_iff.mp H
         obtain ⟨t217, A430, H⟩ := H
         replace H : (if t217 = 0 then (some 14) else ((ephemerisref1_In.f a0_8 1 100).bind fun t218 => (if t218 = true then (ephemerisref1_MoonError.l0 kj26 l0_9 (l0_9.length : Int) 0 a0_0 a0_1 a0_2 a0_3 a0_4 a0_5 a0_6 a0_7 a0_8 l0_9 l0_10) else (some 3)))) = some r := H
         have A43 := Aside0.mk A430
         clear A430
         by_cases c44 : t217 = 0
         ·rw [if_pos c44] at H
          have c44b0 : (t217 == 0) = true := beq_iff_eq.mpr c44
          have c44b1 : (t217 != 0) = false := bne_eq_false_iff_eq.mpr c44
          clear c44
          obtain rfl := Option.some.inj H
          obtain ⟨hcz45_0, hcz45_1, hcz45_2, hcz45_3, hcz45_4, hcz45_5, hcz45_6, hcz45_7, hcz45_8, hcz45_9, hcz45_10, hfz45_0, hfz45_1, hfz45_2, hfz45_3, hfz45_4, hfz45_5, hfz45_6, hfz45_7, hfz45_8, hfz45_9, hfz45_10⟩ := bc11 BK208
          go_wp2_with (first | ((with_reducible refine gate_callee (f := 78) rfl ?_); refine goesL_ (some 82) rfl rfl Try.func78 kx rfl #[.agg #[.string a0_0, .int .i64 a0_1, .int .i64 a0_2, .int .i64 a0_3, .int .i64 a0_4, .int .i64 a0_5, .int .i64 a0_6, .int .i64 a0_7, .int .i64 a0_8, .slice A0_9 l0_9.length c0_9, .slice A0_10 l0_10.length c0_10]] rfl aa ?_; (with_reducible refine (ephemerisref1_Parts.calls kj26 a0_0 a0_1 a0_2 a0_3 a0_4 a0_5 a0_6 a0_7 a0_8 _ _ l0_9 _ _ l0_10 t217 _ ?side1 ?side2 ?side3 ?side4 A43.out).mono ?_); (case side1 => exact kc (Kd.C_below HR0_9.out HB.out)); (case side2 => exact HC0_9.out); (case side3 => exact kc (Kd.C_below HR0_10.out HB.out)); (case side4 => exact HC0_10.out); rintro e w46 ⟨rfl, hb⟩; refine ⟨_, rfl, ?_⟩; have n0_ := bb BK208 hb; have n1_ := Aside0.mk (below_step be hb); clear BK208; clear HB; have BK208 := n0_; have HB := n1_; clear n0_ n1_; (try clear hb); (try clear hb2); (try clear hk); (try clear hi)))
          go_ret
          exact ⟨by first | rfl | (simp [errW_none, errW_some] <;> rfl) | (simp [*, errW_none, errW_some] <;> rfl), be⟩
         ·rw [if_neg c44] at H
          have c44b0 : (t217 == 0) = false := beq_eq_false_iff_ne.mpr c44
          have c44b1 : (t217 != 0) = true := bne_iff_ne.mpr c44
          replace H := Option.bind_eq_some_iff.mp H
          obtain ⟨t218, A470, H⟩ := H
          replace H : (if t218 = true then (ephemerisref1_MoonError.l0 kj26 l0_9 (l0_9.length : Int) 0 a0_0 a0_1 a0_2 a0_3 a0_4 a0_5 a0_6 a0_7 a0_8 l0_9 l0_10) else (some 3)) = some r := H
          have A47 := Aside0.mk A470
          clear A470
          by_cases c48 : t218 = true
          ·subst c48
           have H1 : (ephemerisref1_MoonError.l0 kj26 l0_9 (l0_9.length : Int) 0 a0_0 a0_1 a0_2 a0_3 a0_4 a0_5 a0_6 a0_7 a0_8 l0_9 l0_10) = some r := by rw [if_pos rfl] at H; exact H
           clear H
           have H := H1
           clear H1
           have H' := Aside0.mk H
           clear H
           obtain ⟨hcz49_0, hcz49_1, hcz49_2, hcz49_3, hcz49_4, hcz49_5, hcz49_6, hcz49_7, hcz49_8, hcz49_9, hcz49_10, hfz49_0, hfz49_1, hfz49_2, hfz49_3, hfz49_4, hfz49_5, hfz49_6, hfz49_7, hfz49_8, hfz49_9, hfz49_10⟩ := bc11 BK208
           go_wp2_with (first | ((with_reducible refine gate_callee (f := 78) rfl ?_); refine goesL_ (some 82) rfl rfl Try.func78 kx rfl #[.agg #[.string a0_0, .int .i64 a0_1, .int .i64 a0_2, .int .i64 a0_3, .int .i64 a0_4, .int .i64 a0_5, .int .i64 a0_6, .int .i64 a0_7, .int .i64 a0_8, .slice A0_9 l0_9.length c0_9, .slice A0_10 l0_10.length c0_10]] rfl aa ?_; (with_reducible refine (ephemerisref1_Parts.calls kj26 a0_0 a0_1 a0_2 a0_3 a0_4 a0_5 a0_6 a0_7 a0_8 _ _ l0_9 _ _ l0_10 t217 _ ?side1 ?side2 ?side3 ?side4 A43.out).mono ?_); (case side1 => exact kc (Kd.C_below HR0_9.out HB.out)); (case side2 => exact HC0_9.out); (case side3 => exact kc (Kd.C_below HR0_10.out HB.out)); (case side4 => exact HC0_10.out); rintro e w50 ⟨rfl, hb⟩; refine ⟨_, rfl, ?_⟩; have n0_ := bb BK208 hb; have n1_ := Aside0.mk (below_step be hb); clear BK208; clear HB; have BK208 := n0_; have HB := n1_; clear n0_ n1_; (try clear hb); (try clear hb2); (try clear hk); (try clear hi); obtain ⟨hcz51_0, hcz51_1, hcz51_2, hcz51_3, hcz51_4, hcz51_5, hcz51_6, hcz51_7, hcz51_8, hcz51_9, hcz51_10, hfz51_0, hfz51_1, hfz51_2, hfz51_3, hfz51_4, hfz51_5, hfz51_6, hfz51_7, hfz51_8, hfz51_9, hfz51_10⟩ := bc11 BK208) | ((with_reducible refine gate_callee (f := 21) rfl ?_); refine goesL_ (some 86) rfl rfl Try.func21 kx rfl #[.int .i64 a0_8, .int .i64 1, .int .i64 100] rfl aa ?_; (with_reducible refine (ephemerisref1_In.calls a0_8 1 100 true _ A47.out).mono ?_); rintro e w' ⟨rfl, ⟨nd, rfl⟩⟩; refine ⟨_, rfl, ?_⟩))
           go_loopg [91] kj26 (fun kq v91 w' => ∃ (x91_3 : Int), v91 = .int .i64 x91_3 ∧ Aside0 (ephemerisref1_MoonError.l0 kq l0_9 (l0_9.length : Int) x91_3 a0_0 a0_1 a0_2 a0_3 a0_4 a0_5 a0_6 a0_7 a0_8 l0_9 l0_10 = some r) ∧ Aside0 (kq ≤ kj26) ∧ Aside0 (w'.heap[gb208]? = some (.cells #[.string a0_0, .int .i64 a0_1, .int .i64 a0_2, .int .i64 a0_3, .int .i64 a0_4, .int .i64 a0_5, .int .i64 a0_6, .int .i64 a0_7, .int .i64 a0_8, (.slice A0_9 l0_9.length c0_9), (.slice A0_10 l0_10.length c0_10)] 60 (0, 0))) ∧ Aside0 (Below w.heap.size w w'))
           case atStart => exact ⟨(0), rs, H', ⟨Nat.le_refl _⟩, ⟨bk BK208⟩, ⟨be⟩⟩
           case round =>
            clear H'
            (try clear c1); (try clear c2); (try clear p2); (try clear c3); (try clear c4); (try clear c5); (try clear p6); (try clear c7); (try clear c10); (try clear c12); (try clear c21); (try clear c26); (try clear c27); (try clear c28); (try clear c28b0); (try clear c30); (try clear c31); (try clear c31b0); (try clear c34); (try clear c34b0); (try clear c36); (try clear c37); (try clear c37b0); (try clear c39); (try clear c39b0); (try clear c42); (try clear c44); (try clear c44b0); (try clear c44b1); (try clear c48); (try clear hcz14_0); (try clear hcz14_1); (try clear hcz14_10); (try clear hcz14_2); (try clear hcz14_3); (try clear hcz14_4); (try clear hcz14_5); (try clear hcz14_6); (try clear hcz14_7); (try clear hcz14_8); (try clear hcz14_9); (try clear hcz16_0); (try clear hcz16_1); (try clear hcz16_10); (try clear hcz16_2); (try clear hcz16_3); (try clear hcz16_4); (try clear hcz16_5); (try clear hcz16_6); (try clear hcz16_7); (try clear hcz16_8); (try clear hcz16_9); (try clear hcz18_0); (try clear hcz18_1); (try clear hcz18_10); (try clear hcz18_2); (try clear hcz18_3); (try clear hcz18_4); (try clear hcz18_5); (try clear hcz18_6); (try clear hcz18_7); (try clear hcz18_8); (try clear hcz18_9); (try clear hcz20_0); (try clear hcz20_1); (try clear hcz20_10); (try clear hcz20_2); (try clear hcz20_3); (try clear hcz20_4); (try clear hcz20_5); (try clear hcz20_6); (try clear hcz20_7); (try clear hcz20_8); (try clear hcz20_9); (try clear hcz22_0); (try clear hcz22_1); (try clear hcz22_10); (try clear hcz22_2); (try clear hcz22_3); (try clear hcz22_4); (try clear hcz22_5); (try clear hcz22_6); (try clear hcz22_7); (try clear hcz22_8); (try clear hcz22_9); (try clear hcz24_0); (try clear hcz24_1); (try clear hcz24_10); (try clear hcz24_2); (try clear hcz24_3); (try clear hcz24_4); (try clear hcz24_5); (try clear hcz24_6); (try clear hcz24_7); (try clear hcz24_8); (try clear hcz24_9); (try clear hcz29_0); (try clear hcz29_1); (try clear hcz29_10); (try clear hcz29_2); (try clear hcz29_3); (try clear hcz29_4); (try clear hcz29_5); (try clear hcz29_6); (try clear hcz29_7); (try clear hcz29_8); (try clear hcz29_9); (try clear hcz32_0); (try clear hcz32_1); (try clear hcz32_10); (try clear hcz32_2); (try clear hcz32_3); (try clear hcz32_4); (try clear hcz32_5); (try clear hcz32_6); (try clear hcz32_7); (try clear hcz32_8); (try clear hcz32_9); (try clear hcz35_0); (try clear hcz35_1); (try clear hcz35_10); (try clear hcz35_2); (try clear hcz35_3); (try clear hcz35_4); (try clear hcz35_5); (try clear hcz35_6); (try clear hcz35_7); (try clear hcz35_8); (try clear hcz35_9); (try clear hcz38_0); (try clear hcz38_1); (try clear hcz38_10); (try clear hcz38_2); (try clear hcz38_3); (try clear hcz38_4); (try clear hcz38_5); (try clear hcz38_6); (try clear hcz38_7); (try clear hcz38_8); (try clear hcz38_9); (try clear hcz40_0); (try clear hcz40_1); (try clear hcz40_10); (try clear hcz40_2); (try clear hcz40_3); (try clear hcz40_4); (try clear hcz40_5); (try clear hcz40_6); (try clear hcz40_7); (try clear hcz40_8); (try clear hcz40_9); (try clear hcz41_0); (try clear hcz41_1); (try clear hcz41_10); (try clear hcz41_2); (try clear hcz41_3); (try clear hcz41_4); (try clear hcz41_5); (try clear hcz41_6); (try clear hcz41_7); (try clear hcz41_8); (try clear hcz41_9); (try clear hcz45_0); (try clear hcz45_1); (try clear hcz45_10); (try clear hcz45_2); (try clear hcz45_3); (try clear hcz45_4); (try clear hcz45_5); (try clear hcz45_6); (try clear hcz45_7); (try clear hcz45_8); (try clear hcz45_9); (try clear hcz49_0); (try clear hcz49_1); (try clear hcz49_10); (try clear hcz49_2); (try clear hcz49_3); (try clear hcz49_4); (try clear hcz49_5); (try clear hcz49_6); (try clear hcz49_7); (try clear hcz49_8); (try clear hcz49_9); (try clear hcz51_0); (try clear hcz51_1); (try clear hcz51_10); (try clear hcz51_2); (try clear hcz51_3); (try clear hcz51_4); (try clear hcz51_5); (try clear hcz51_6); (try clear hcz51_7); (try clear hcz51_8); (try clear hcz51_9); (try clear hcz8_0); (try clear hcz8_1); (try clear hcz8_10); (try clear hcz8_2); (try clear hcz8_3); (try clear hcz8_4); (try clear hcz8_5); (try clear hcz8_6); (try clear hcz8_7); (try clear hcz8_8); (try clear hcz8_9); (try clear hfz14_0); (try clear hfz14_1); (try clear hfz14_10); (try clear hfz14_2); (try clear hfz14_3); (try clear hfz14_4); (try clear hfz14_5); (try clear hfz14_6); (try clear hfz14_7); (try clear hfz14_8); (try clear hfz14_9); (try clear hfz16_0); (try clear hfz16_1); (try clear hfz16_10); (try clear hfz16_2); (try clear hfz16_3); (try clear hfz16_4); (try clear hfz16_5); (try clear hfz16_6); (try clear hfz16_7); (try clear hfz16_8); (try clear hfz16_9); (try clear hfz18_0); (try clear hfz18_1); (try clear hfz18_10); (try clear hfz18_2); (try clear hfz18_3); (try clear hfz18_4); (try clear hfz18_5); (try clear hfz18_6); (try clear hfz18_7); (try clear hfz18_8); (try clear hfz18_9); (try clear hfz20_0); (try clear hfz20_1); (try clear hfz20_10); (try clear hfz20_2); (try clear hfz20_3); (try clear hfz20_4); (try clear hfz20_5); (try clear hfz20_6); (try clear hfz20_7); (try clear hfz20_8); (try clear hfz20_9); (try clear hfz22_0); (try clear hfz22_1); (try clear hfz22_10); (try clear hfz22_2); (try clear hfz22_3); (try clear hfz22_4); (try clear hfz22_5); (try clear hfz22_6); (try clear hfz22_7); (try clear hfz22_8); (try clear hfz22_9); (try clear hfz24_0); (try clear hfz24_1); (try clear hfz24_10); (try clear hfz24_2); (try clear hfz24_3); (try clear hfz24_4); (try clear hfz24_5); (try clear hfz24_6); (try clear hfz24_7); (try clear hfz24_8); (try clear hfz24_9); (try clear hfz29_0); (try clear hfz29_1); (try clear hfz29_10); (try clear hfz29_2); (try clear hfz29_3); (try clear hfz29_4); (try clear hfz29_5); (try clear hfz29_6); (try clear hfz29_7); (try clear hfz29_8); (try clear hfz29_9); (try clear hfz32_0); (try clear hfz32_1); (try clear hfz32_10); (try clear hfz32_2); (try clear hfz32_3); (try clear hfz32_4); (try clear hfz32_5); (try clear hfz32_6); (try clear hfz32_7); (try clear hfz32_8); (try clear hfz32_9); (try clear hfz35_0); (try clear hfz35_1); (try clear hfz35_10); (try clear hfz35_2); (try clear hfz35_3); (try clear hfz35_4); (try clear hfz35_5); (try clear hfz35_6); (try clear hfz35_7); (try clear hfz35_8); (try clear hfz35_9); (try clear hfz38_0); (try clear hfz38_1); (try clear hfz38_10); (try clear hfz38_2); (try clear hfz38_3); (try clear hfz38_4); (try clear hfz38_5); (try clear hfz38_6); (try clear hfz38_7); (try clear hfz38_8); (try clear hfz38_9); (try clear hfz40_0); (try clear hfz40_1); (try clear hfz40_10); (try clear hfz40_2); (try clear hfz40_3); (try clear hfz40_4); (try clear hfz40_5); (try clear hfz40_6); (try clear hfz40_7); (try clear hfz40_8); (try clear hfz40_9); (try clear hfz41_0); (try clear hfz41_1); (try clear hfz41_10); (try clear hfz41_2); (try clear hfz41_3); (try clear hfz41_4); (try clear hfz41_5); (try clear hfz41_6); (try clear hfz41_7); (try clear hfz41_8); (try clear hfz41_9); (try clear hfz45_0); (try clear hfz45_1); (try clear hfz45_10); (try clear hfz45_2); (try clear hfz45_3); (try clear hfz45_4); (try clear hfz45_5); (try clear hfz45_6); (try clear hfz45_7); (try clear hfz45_8); (try clear hfz45_9); (try clear hfz49_0); (try clear hfz49_1); (try clear hfz49_10); (try clear hfz49_2); (try clear hfz49_3); (try clear hfz49_4); (try clear hfz49_5); (try clear hfz49_6); (try clear hfz49_7); (try clear hfz49_8); (try clear hfz49_9); (try clear hfz51_0); (try clear hfz51_1); (try clear hfz51_10); (try clear hfz51_2); (try clear hfz51_3); (try clear hfz51_4); (try clear hfz51_5); (try clear hfz51_6); (try clear hfz51_7); (try clear hfz51_8); (try clear hfz51_9); (try clear hfz8_0); (try clear hfz8_1); (try clear hfz8_10); (try clear hfz8_2); (try clear hfz8_3); (try clear hfz8_4); (try clear hfz8_5); (try clear hfz8_6); (try clear hfz8_7); (try clear hfz8_8); (try clear hfz8_9); (try clear p2); (try clear p6)
            obtain ⟨x91_3, rfl, HA, HK3, BK208, HB⟩ := hrel
            cases gk with
            | zero => exact absurd HA.out (by simp [ephemerisref1_MoonError.l0])
            | succ k3 =>
             have H := HA.out
             clear HA
             simp only [ephemerisref1_MoonError.l0] at H
             by_cases c52 : x91_3 < (l0_9.length : Int)
             ·rw [if_pos c52] at H
              have c52b0 : decide (x91_3 < (l0_9.length : Int)) = true := decide_eq_true c52
              clear c52
              by_cases c53 : 0 ≤ x91_3
              ·rw [if_pos c53] at H
               have c53b0 : decide (0 ≤ x91_3) = true := decide_eq_true c53
               clear c53
               by_cases c54 : x91_3 < (l0_9.length : Int)
               ·rw [if_pos c54] at H
                have c54b0 : decide (x91_3 < (l0_9.length : Int)) = true := decide_eq_true c54
                clear c54
                replace H := Option.bind_eq_some_iff.mp H
                obtain ⟨t220, A550, H⟩ := H
                replace H : (if t220 = true then (if x91_3 > 0 then (if 0 ≤ (wrap64 (x91_3 - 1)) then (if (wrap64 (x91_3 - 1)) < (l0_9.length : Int) then (if (rd l0_9 (wrap64 (x91_3 - 1))) ≥ (rd l0_9 x91_3) then (some 9) else (ephemerisref1_MoonError.l0 k3 l0_9 (l0_9.length : Int) (wrap64 (x91_3 + 1)) a0_0 a0_1 a0_2 a0_3 a0_4 a0_5 a0_6 a0_7 a0_8 l0_9 l0_10)) else (none)) else (none)) else (ephemerisref1_MoonError.l0 k3 l0_9 (l0_9.length : Int) (wrap64 (x91_3 + 1)) a0_0 a0_1 a0_2 a0_3 a0_4 a0_5 a0_6 a0_7 a0_8 l0_9 l0_10)) else (some 3)) = some r := H
                have A55 := Aside0.mk A550
                clear A550
                by_cases c56 : t220 = true
                ·subst c56
                 have H1 : (if x91_3 > 0 then (if 0 ≤ (wrap64 (x91_3 - 1)) then (if (wrap64 (x91_3 - 1)) < (l0_9.length : Int) then (if (rd l0_9 (wrap64 (x91_3 - 1))) ≥ (rd l0_9 x91_3) then (some 9) else (ephemerisref1_MoonError.l0 k3 l0_9 (l0_9.length : Int) (wrap64 (x91_3 + 1)) a0_0 a0_1 a0_2 a0_3 a0_4 a0_5 a0_6 a0_7 a0_8 l0_9 l0_10)) else (none)) else (none)) else (ephemerisref1_MoonError.l0 k3 l0_9 (l0_9.length : Int) (wrap64 (x91_3 + 1)) a0_0 a0_1 a0_2 a0_3 a0_4 a0_5 a0_6 a0_7 a0_8 l0_9 l0_10)) = some r := by rw [if_pos rfl] at H; exact H
                 clear H
                 have H := H1
                 clear H1
                 by_cases c57 : x91_3 > 0
                 ·rw [if_pos c57] at H
                  have c57b0 : decide (0 < x91_3) = true := decide_eq_true c57
                  clear c57
                  obtain ⟨ji58, hji58⟩ : ∃ j_ : Int, (wrap64 (x91_3 - 1)) = j_ := ⟨_, rfl⟩
                  replace H : (if 0 ≤ (ji58) then (if (ji58) < (l0_9.length : Int) then (if (rd l0_9 (ji58)) ≥ (rd l0_9 x91_3) then (some 9) else (ephemerisref1_MoonError.l0 k3 l0_9 (l0_9.length : Int) (wrap64 (x91_3 + 1)) a0_0 a0_1 a0_2 a0_3 a0_4 a0_5 a0_6 a0_7 a0_8 l0_9 l0_10)) else (none)) else (none)) = some r := by first | (rw [hji58] at H; exact H) | (simp only [hji58] at H ⊢; exact H)
                  (try rw [hji58] at A55)
                  have hji58w : (IntKind.i64.wrap (x91_3 - 1)) = ji58 := (i64_w _).trans hji58
                  by_cases c59 : 0 ≤ (ji58)
                  ·rw [if_pos c59] at H
                   have c59b0 : decide (0 ≤ (ji58)) = true := decide_eq_true c59
                   clear c59
                   by_cases c60 : (ji58) < (l0_9.length : Int)
                   ·rw [if_pos c60] at H
                    have c60b0 : decide ((ji58) < (l0_9.length : Int)) = true := decide_eq_true c60
                    clear c60
                    by_cases c61 : (rd l0_9 (ji58)) ≥ (rd l0_9 x91_3)
                    ·rw [if_pos c61] at H
                     have c61b0 : decide ((rd l0_9 x91_3) ≤ (rd l0_9 (ji58))) = true := decide_eq_true c61
                     clear c61
                     obtain rfl := Option.some.inj H
                     have p219 : 0 ≤ (x91_3 : Int) := of_decide_eq_true ka
                     have q219 : x91_3 < (l0_9.length : Int) := of_decide_eq_true ka
                     obtain ⟨ad219, e219, hx219_0⟩ := Kd.at_int HR0_9.out x91_3 p219 q219
                     cases e219
                     replace hx219_0 := (HB.out.cell (World.block_lt_of_cell? w _ hx219_0)).trans hx219_0
                     replace p219 := eq_true p219
                     replace q219 := eq_true q219
                     obtain ⟨hcz62_0, hcz62_1, hcz62_2, hcz62_3, hcz62_4, hcz62_5, hcz62_6, hcz62_7, hcz62_8, hcz62_9, hcz62_10, hfz62_0, hfz62_1, hfz62_2, hfz62_3, hfz62_4, hfz62_5, hfz62_6, hfz62_7, hfz62_8, hfz62_9, hfz62_10⟩ := bc11 BK208
                     go_wp2_with (first | ((with_reducible refine gate_callee (f := 21) rfl ?_); refine goesL_ (some 99) rfl rfl Try.func21 kx rfl #[.int .i64 (rd l0_9 x91_3), .int .i64 1, .int .i64 a0_8] rfl aa ?_; (with_reducible refine (ephemerisref1_In.calls (rd l0_9 x91_3) 1 a0_8 true _ A55.out).mono ?_); rintro e w' ⟨rfl, ⟨nd, rfl⟩⟩; refine ⟨_, rfl, ?_⟩; have p221 : 0 ≤ ((ji58) : Int) := of_decide_eq_true ka; have q221 : (ji58) < (l0_9.length : Int) := of_decide_eq_true ka; obtain ⟨ad221, e221, hx221_0⟩ := Kd.at_int HR0_9.out (ji58) p221 q221; obtain rfl : ad219 = ad221 := (by injection e221); replace hx221_0 := (HB.out.cell (World.block_lt_of_cell? w _ hx221_0)).trans hx221_0; replace p221 := eq_true p221; replace q221 := eq_true q221))
                     go_ret
                     exact ⟨by first | rfl | (simp [errW_none, errW_some] <;> rfl) | (simp only [← hji58]; first | rfl | (simp [errW_none, errW_some] <;> rfl)) | (simp [*, errW_none, errW_some] <;> rfl), be⟩
                    ·rw [if_neg c61] at H
                     have c61b0 : decide ((rd l0_9 x91_3) ≤ (rd l0_9 (ji58))) = false := decide_eq_false c61
                     clear c61
                     have H' := Aside0.mk H
                     clear H
                     have p219 : 0 ≤ (x91_3 : Int) := of_decide_eq_true ka
                     have q219 : x91_3 < (l0_9.length : Int) := of_decide_eq_true ka
                     obtain ⟨ad219, e219, hx219_0⟩ := Kd.at_int HR0_9.out x91_3 p219 q219
                     cases e219
                     replace hx219_0 := (HB.out.cell (World.block_lt_of_cell? w _ hx219_0)).trans hx219_0
                     replace p219 := eq_true p219
                     replace q219 := eq_true q219
                     obtain ⟨hcz63_0, hcz63_1, hcz63_2, hcz63_3, hcz63_4, hcz63_5, hcz63_6, hcz63_7, hcz63_8, hcz63_9, hcz63_10, hfz63_0, hfz63_1, hfz63_2, hfz63_3, hfz63_4, hfz63_5, hfz63_6, hfz63_7, hfz63_8, hfz63_9, hfz63_10⟩ := bc11 BK208
                     go_wp2_with (first | ((with_reducible refine gate_callee (f := 21) rfl ?_); refine goesL_ (some 99) rfl rfl Try.func21 kx rfl #[.int .i64 (rd l0_9 x91_3), .int .i64 1, .int .i64 a0_8] rfl aa ?_; (with_reducible refine (ephemerisref1_In.calls (rd l0_9 x91_3) 1 a0_8 true _ A55.out).mono ?_); rintro e w' ⟨rfl, ⟨nd, rfl⟩⟩; refine ⟨_, rfl, ?_⟩; have p221 : 0 ≤ ((ji58) : Int) := of_decide_eq_true ka; have q221 : (ji58) < (l0_9.length : Int) := of_decide_eq_true ka; obtain ⟨ad221, e221, hx221_0⟩ := Kd.at_int HR0_9.out (ji58) p221 q221; obtain rfl : ad219 = ad221 := (by injection e221); replace hx221_0 := (HB.out.cell (World.block_lt_of_cell? w _ hx221_0)).trans hx221_0; replace p221 := eq_true p221; replace q221 := eq_true q221))
                     go_roundg k3
                     case measure => have := HJ5.out; have := HJ26.out; have := HK3.out; omega
                     case rel => exact ⟨(wrap64 (x91_3 + 1)), rs, H', ⟨by have := HJ5.out; have := HJ26.out; have := HK3.out; omega⟩, ⟨bk BK208⟩, ⟨be⟩⟩
                   ·rw [if_neg c60] at H
                    exact absurd H (by simp)
                  ·rw [if_neg c59] at H
                   exact absurd H (by simp)
                 ·rw [if_neg c57] at H
                  have c57b0 : decide (0 < x91_3) = false := decide_eq_false c57
                  clear c57
                  have H' := Aside0.mk H
                  clear H
                  have p219 : 0 ≤ (x91_3 : Int) := of_decide_eq_true ka
                  have q219 : x91_3 < (l0_9.length : Int) := of_decide_eq_true ka
                  obtain ⟨ad219, e219, hx219_0⟩ := Kd.at_int HR0_9.out x91_3 p219 q219
                  cases e219
                  replace hx219_0 := (HB.out.cell (World.block_lt_of_cell? w _ hx219_0)).trans hx219_0
                  replace p219 := eq_true p219
                  replace q219 := eq_true q219
                  obtain ⟨hcz64_0, hcz64_1, hcz64_2, hcz64_3, hcz64_4, hcz64_5, hcz64_6, hcz64_7, hcz64_8, hcz64_9, hcz64_10, hfz64_0, hfz64_1, hfz64_2, hfz64_3, hfz64_4, hfz64_5, hfz64_6, hfz64_7, hfz64_8, hfz64_9, hfz64_10⟩ := bc11 BK208
                  go_wp2_with (first | ((with_reducible refine gate_callee (f := 21) rfl ?_); refine goesL_ (some 99) rfl rfl Try.func21 kx rfl #[.int .i64 (rd l0_9 x91_3), .int .i64 1, .int .i64 a0_8] rfl aa ?_; (with_reducible refine (ephemerisref1_In.calls (rd l0_9 x91_3) 1 a0_8 true _ A55.out).mono ?_); rintro e w' ⟨rfl, ⟨nd, rfl⟩⟩; refine ⟨_, rfl, ?_⟩))
                  go_roundg k3
                  case measure => have := HJ5.out; have := HJ26.out; have := HK3.out; omega
                  case rel => exact ⟨(wrap64 (x91_3 + 1)), rs, H', ⟨by have := HJ5.out; have := HJ26.out; have := HK3.out; omega⟩, ⟨bk BK208⟩, ⟨be⟩⟩
                ·replace c56 := Bool.eq_false_iff.mpr c56
                 subst c56
                 have H1 : (some 3) = some r := by rw [if_neg (show ¬ (false = true) by decide)] at H; exact H
                 clear H
                 have H := H1
                 clear H1
                 obtain rfl := Option.some.inj H
                 have p219 : 0 ≤ (x91_3 : Int) := of_decide_eq_true ka
                 have q219 : x91_3 < (l0_9.length : Int) := of_decide_eq_true ka
                 obtain ⟨ad219, e219, hx219_0⟩ := Kd.at_int HR0_9.out x91_3 p219 q219
                 cases e219
                 replace hx219_0 := (HB.out.cell (World.block_lt_of_cell? w _ hx219_0)).trans hx219_0
                 replace p219 := eq_true p219
                 replace q219 := eq_true q219
                 obtain ⟨hcz65_0, hcz65_1, hcz65_2, hcz65_3, hcz65_4, hcz65_5, hcz65_6, hcz65_7, hcz65_8, hcz65_9, hcz65_10, hfz65_0, hfz65_1, hfz65_2, hfz65_3, hfz65_4, hfz65_5, hfz65_6, hfz65_7, hfz65_8, hfz65_9, hfz65_10⟩ := bc11 BK208
                 go_wp2_with (first | ((with_reducible refine gate_callee (f := 21) rfl ?_); refine goesL_ (some 99) rfl rfl Try.func21 kx rfl #[.int .i64 (rd l0_9 x91_3), .int .i64 1, .int .i64 a0_8] rfl aa ?_; (with_reducible refine (ephemerisref1_In.calls (rd l0_9 x91_3) 1 a0_8 false _ A55.out).mono ?_); rintro e w' ⟨rfl, ⟨nd, rfl⟩⟩; refine ⟨_, rfl, ?_⟩))
                 go_ret
                 exact ⟨by first | rfl | (simp [errW_none, errW_some] <;> rfl) | (simp [*, errW_none, errW_some] <;> rfl), be⟩
               ·rw [if_neg c54] at H
                exact absurd H (by simp)
              ·rw [if_neg c53] at H
               exact absurd H (by simp)
             ·rw [if_neg c52] at H
              have c52b0 : decide (x91_3 < (l0_9.length : Int)) = false := decide_eq_false c52
              clear c52
              by_cases c66 : (l0_10.length : Int) > 3
              ·rw [if_pos c66] at H
               have c66b0 : decide (3 < (l0_10.length : Int)) = true := decide_eq_true c66
               have c66b1 : decide (3 < l0_10.length) = true := decide_eq_true (by omega)
               clear c66
               obtain rfl := Option.some.inj H
               obtain ⟨hcz67_0, hcz67_1, hcz67_2, hcz67_3, hcz67_4, hcz67_5, hcz67_6, hcz67_7, hcz67_8, hcz67_9, hcz67_10, hfz67_0, hfz67_1, hfz67_2, hfz67_3, hfz67_4, hfz67_5, hfz67_6, hfz67_7, hfz67_8, hfz67_9, hfz67_10⟩ := bc11 BK208
               go_wp2
               go_ret
               exact ⟨by first | rfl | (simp [errW_none, errW_some] <;> rfl) | (simp [*, errW_none, errW_some] <;> rfl), be⟩
              ·rw [if_neg c66] at H
               have c66b0 : decide (3 < (l0_10.length : Int)) = false := decide_eq_false c66
               have c66b1 : decide (3 < l0_10.length) = false := decide_eq_false (by omega)
               clear c66
               have H' := Aside0.mk H
               clear H
               obtain ⟨hcz68_0, hcz68_1, hcz68_2, hcz68_3, hcz68_4, hcz68_5, hcz68_6, hcz68_7, hcz68_8, hcz68_9, hcz68_10, hfz68_0, hfz68_1, hfz68_2, hfz68_3, hfz68_4, hfz68_5, hfz68_6, hfz68_7, hfz68_8, hfz68_9, hfz68_10⟩ := bc11 BK208
               go_wp2
               go_loopg [121] k3 (fun kq v121 w' => ∃ (x121_4 : Int), v121 = .int .i64 x121_4 ∧ Aside0 (ephemerisref1_MoonError.l1 kq l0_10 (l0_10.length : Int) x121_4 a0_0 a0_1 a0_2 a0_3 a0_4 a0_5 a0_6 a0_7 a0_8 l0_9 l0_10 = some r) ∧ Aside0 (kq ≤ k3) ∧ Aside0 (w'.heap[gb208]? = some (.cells #[.string a0_0, .int .i64 a0_1, .int .i64 a0_2, .int .i64 a0_3, .int .i64 a0_4, .int .i64 a0_5, .int .i64 a0_6, .int .i64 a0_7, .int .i64 a0_8, (.slice A0_9 l0_9.length c0_9), (.slice A0_10 l0_10.length c0_10)] 60 (0, 0))) ∧ Aside0 (Below w.heap.size w w'))
               case atStart => exact ⟨(0), rs, H', ⟨Nat.le_refl _⟩, ⟨bk BK208⟩, ⟨be⟩⟩
               case round =>
                clear H'
                (try clear c2); (try clear p2); (try clear q2); (try clear hx2); (try clear c5); (try clear c6); (try clear p6); (try clear c21); (try clear p21); (try clear q21); (try clear hx21); (try clear p22); (try clear q22); (try clear hx22); (try clear c52); (try clear c52b0); (try clear c53); (try clear c53b0); (try clear c54); (try clear c54b0); (try clear c56); (try clear c57); (try clear c57b0); (try clear c59); (try clear c59b0); (try clear c60); (try clear c60b0); (try clear c61); (try clear c61b0); (try clear p64); (try clear c66); (try clear c66b0); (try clear c66b1); (try clear hcz18_4); (try clear hcz18_5); (try clear hcz18_6); (try clear hcz18_7); (try clear hcz18_8); (try clear hcz18_9); (try clear hcz20_0); (try clear hcz20_1); (try clear hcz20_10); (try clear hcz20_2); (try clear hcz20_3); (try clear hcz20_4); (try clear hcz20_5); (try clear hcz20_6); (try clear hcz20_7); (try clear hcz20_8); (try clear hcz20_9); (try clear hcz22_0); (try clear hcz22_1); (try clear hcz22_10); (try clear hcz22_2); (try clear hcz22_3); (try clear hcz22_4); (try clear hcz22_5); (try clear hcz22_6); (try clear hcz22_7); (try clear hcz22_8); (try clear hcz22_9); (try clear hcz24_0); (try clear hcz24_1); (try clear hcz24_10); (try clear hcz24_2); (try clear hcz24_3); (try clear hcz24_4); (try clear hcz24_5); (try clear hcz24_6); (try clear hcz24_7); (try clear hcz24_8); (try clear hcz24_9); (try clear hcz29_0); (try clear hcz29_1); (try clear hcz29_10); (try clear hcz29_2); (try clear hcz29_3); (try clear hcz29_4); (try clear hcz29_5); (try clear hcz29_6); (try clear hcz29_7); (try clear hcz29_8); (try clear hcz29_9); (try clear hcz32_0); (try clear hcz32_1); (try clear hcz32_10); (try clear hcz32_2); (try clear hcz32_3); (try clear hcz32_4); (try clear hcz32_5); (try clear hcz32_6); (try clear hcz32_7); (try clear hcz32_8); (try clear hcz32_9); (try clear hcz35_0); (try clear hcz35_1); (try clear hcz35_10); (try clear hcz35_2); (try clear hcz35_3); (try clear hcz35_4); (try clear hcz35_5); (try clear hcz35_6); (try clear hcz35_7); (try clear hcz35_8); (try clear hcz35_9); (try clear hcz38_0); (try clear hcz38_1); (try clear hcz38_10); (try clear hcz38_2); (try clear hcz38_3); (try clear hcz38_4); (try clear hcz38_5); (try clear hcz38_6); (try clear hcz38_7); (try clear hcz38_8); (try clear hcz38_9); (try clear hcz40_0); (try clear hcz40_1); (try clear hcz40_10); (try clear hcz40_2); (try clear hcz40_3); (try clear hcz40_4); (try clear hcz40_5); (try clear hcz40_6); (try clear hcz40_7); (try clear hcz40_8); (try clear hcz40_9); (try clear hcz41_0); (try clear hcz41_1); (try clear hcz41_10); (try clear hcz41_2); (try clear hcz41_3); (try clear hcz41_4); (try clear hcz41_5); (try clear hcz41_6); (try clear hcz41_7); (try clear hcz41_8); (try clear hcz41_9); (try clear hcz45_0); (try clear hcz45_1); (try clear hcz45_10); (try clear hcz45_2); (try clear hcz45_3); (try clear hcz45_4); (try clear hcz45_5); (try clear hcz45_6); (try clear hcz45_7); (try clear hcz45_8); (try clear hcz45_9); (try clear hcz49_0); (try clear hcz49_1); (try clear hcz49_10); (try clear hcz49_2); (try clear hcz49_3); (try clear hcz49_4); (try clear hcz49_5); (try clear hcz49_6); (try clear hcz49_7); (try clear hcz49_8); (try clear hcz49_9); (try clear hcz51_0); (try clear hcz51_1); (try clear hcz51_10); (try clear hcz51_2); (try clear hcz51_3); (try clear hcz51_4); (try clear hcz51_5); (try clear hcz51_6); (try clear hcz51_7); (try clear hcz51_8); (try clear hcz51_9); (try clear hcz62_0); (try clear hcz62_1); (try clear hcz62_10); (try clear hcz62_2); (try clear hcz62_3); (try clear hcz62_4); (try clear hcz62_5); (try clear hcz62_6); (try clear hcz62_7); (try clear hcz62_8); (try clear hcz62_9); (try clear hcz63_0); (try clear hcz63_1); (try clear hcz63_10); (try clear hcz63_2); (try clear hcz63_3); (try clear hcz63_4); (try clear hcz63_5); (try clear hcz63_6); (try clear hcz63_7); (try clear hcz63_8); (try clear hcz63_9); (try clear hcz64_0); (try clear hcz64_1); (try clear hcz64_10); (try clear hcz64_2); (try clear hcz64_3); (try clear hcz64_4); (try clear hcz64_5); (try clear hcz64_6); (try clear hcz64_7); (try clear hcz64_8); (try clear hcz64_9); (try clear hcz65_0); (try clear hcz65_1); (try clear hcz65_10); (try clear hcz65_2); (try clear hcz65_3); (try clear hcz65_4); (try clear hcz65_5); (try clear hcz65_6); (try clear hcz65_7); (try clear hcz65_8); (try clear hcz65_9); (try clear hcz67_0); (try clear hcz67_1); (try clear hcz67_10); (try clear hcz67_2); (try clear hcz67_3); (try clear hcz67_4); (try clear hcz67_5); (try clear hcz67_6); (try clear hcz67_7); (try clear hcz67_8); (try clear hcz67_9); (try clear hcz68_0); (try clear hcz68_1); (try clear hcz68_10); (try clear hcz68_2); (try clear hcz68_3); (try clear hcz68_4); (try clear hcz68_5); (try clear hcz68_6); (try clear hcz68_7); (try clear hcz68_8); (try clear hcz68_9); (try clear hcz8_0); (try clear hcz8_1); (try clear hcz8_10); (try clear hcz8_2); (try clear hcz8_3); (try clear hcz8_4); (try clear hcz8_5); (try clear hcz8_6); (try clear hcz8_7); (try clear hcz8_8); (try clear hcz8_9); (try clear hfz14_0); (try clear hfz14_1); (try clear hfz14_10); (try clear hfz14_2); (try clear hfz14_3); (try clear hfz14_4); (try clear hfz14_5); (try clear hfz14_6); (try clear hfz14_7); (try clear hfz14_8); (try clear hfz14_9); (try clear hfz16_0); (try clear hfz16_1); (try clear hfz16_10); (try clear hfz16_2); (try clear hfz16_3); (try clear hfz16_4); (try clear hfz16_5); (try clear hfz16_6); (try clear hfz16_7); (try clear hfz16_8); (try clear hfz16_9); (try clear hfz18_0); (try clear hfz18_1); (try clear hfz18_10); (try clear hfz18_2); (try clear hfz18_3); (try clear hfz18_4); (try clear hfz18_5); (try clear hfz18_6); (try clear hfz18_7); (try clear hfz18_8); (try clear hfz18_9); (try clear hfz20_0); (try clear hfz20_1); (try clear hfz20_10); (try clear hfz20_2); (try clear hfz20_3); (try clear hfz20_4); (try clear hfz20_5); (try clear hfz20_6); (try clear hfz20_7); (try clear hfz20_8); (try clear hfz20_9); (try clear hfz22_0); (try clear hfz22_1); (try clear hfz22_10); (try clear hfz22_2); (try clear hfz22_3); (try clear hfz22_4); (try clear hfz22_5); (try clear hfz22_6); (try clear hfz22_7); (try clear hfz22_8); (try clear hfz22_9); (try clear hfz24_0); (try clear hfz24_1); (try clear hfz24_10); (try clear hfz24_2); (try clear hfz24_3); (try clear hfz24_4); (try clear hfz24_5); (try clear hfz24_6); (try clear hfz24_7); (try clear hfz24_8); (try clear hfz24_9); (try clear hfz29_0); (try clear hfz29_1); (try clear hfz29_10); (try clear hfz29_2); (try clear hfz29_3); (try clear hfz29_4); (try clear hfz29_5); (try clear hfz29_6); (try clear hfz29_7); (try clear hfz29_8); (try clear hfz29_9); (try clear hfz32_0); (try clear hfz32_1); (try clear hfz32_10); (try clear hfz32_2); (try clear hfz32_3); (try clear hfz32_4); (try clear hfz32_5); (try clear hfz32_6); (try clear hfz32_7); (try clear hfz32_8); (try clear hfz32_9); (try clear hfz35_0); (try clear hfz35_1); (try clear hfz35_10); (try clear hfz35_2); (try clear hfz35_3); (try clear hfz35_4); (try clear hfz35_5); (try clear hfz35_6); (try clear hfz35_7); (try clear hfz35_8); (try clear hfz35_9); (try clear hfz38_0); (try clear hfz38_1); (try clear hfz38_10); (try clear hfz38_2); (try clear hfz38_3); (try clear hfz38_4); (try clear hfz38_5); (try clear hfz38_6); (try clear hfz38_7); (try clear hfz38_8); (try clear hfz38_9); (try clear hfz40_0); (try clear hfz40_1); (try clear hfz40_10); (try clear hfz40_2); (try clear hfz40_3); (try clear hfz40_4); (try clear hfz40_5); (try clear hfz40_6); (try clear hfz40_7); (try clear hfz40_8); (try clear hfz40_9); (try clear hfz41_0); (try clear hfz41_1); (try clear hfz41_10); (try clear hfz41_2); (try clear hfz41_3); (try clear hfz41_4); (try clear hfz41_5); (try clear hfz41_6); (try clear hfz41_7); (try clear hfz41_8); (try clear hfz41_9); (try clear hfz45_0); (try clear hfz45_1); (try clear hfz45_10); (try clear hfz45_2); (try clear hfz45_3); (try clear hfz45_4); (try clear hfz45_5); (try clear hfz45_6); (try clear hfz45_7); (try clear hfz45_8); (try clear hfz45_9); (try clear hfz49_0); (try clear hfz49_1); (try clear hfz49_10); (try clear hfz49_2); (try clear hfz49_3); (try clear hfz49_4); (try clear hfz49_5); (try clear hfz49_6); (try clear hfz49_7); (try clear hfz49_8); (try clear hfz49_9); (try clear hfz51_0); (try clear hfz51_1); (try clear hfz51_10); (try clear hfz51_2); (try clear hfz51_3); (try clear hfz51_4); (try clear hfz51_5); (try clear hfz51_6); (try clear hfz51_7); (try clear hfz51_8); (try clear hfz51_9); (try clear hfz62_0); (try clear hfz62_1); (try clear hfz62_10); (try clear hfz62_2); (try clear hfz62_3); (try clear hfz62_4); (try clear hfz62_5); (try clear hfz62_6); (try clear hfz62_7); (try clear hfz62_8); (try clear hfz62_9); (try clear hfz63_0); (try clear hfz63_1); (try clear hfz63_10); (try clear hfz63_2); (try clear hfz63_3); (try clear hfz63_4); (try clear hfz63_5); (try clear hfz63_6); (try clear hfz63_7); (try clear hfz63_8); (try clear hfz63_9); (try clear hfz64_0); (try clear hfz64_1); (try clear hfz64_10); (try clear hfz64_2); (try clear hfz64_3); (try clear hfz64_4); (try clear hfz64_5); (try clear hfz64_6); (try clear hfz64_7); (try clear hfz64_8); (try clear hfz64_9); (try clear hfz65_0); (try clear hfz65_1); (try clear hfz65_10); (try clear hfz65_2); (try clear hfz65_3); (try clear hfz65_4); (try clear hfz65_5); (try clear hfz65_6); (try clear hfz65_7); (try clear hfz65_8); (try clear hfz65_9); (try clear hfz67_0); (try clear hfz67_1); (try clear hfz67_10); (try clear hfz67_2); (try clear hfz67_3); (try clear hfz67_4); (try clear hfz67_5); (try clear hfz67_6); (try clear hfz67_7); (try clear hfz67_8); (try clear hfz67_9); (try clear hfz68_0); (try clear hfz68_1); (try clear hfz68_10); (try clear hfz68_2); (try clear hfz68_3); (try clear hfz68_4); (try clear hfz68_5); (try clear hfz68_6); (try clear hfz68_7); (try clear hfz68_8); (try clear hfz68_9); (try clear hfz8_0); (try clear hfz8_1); (try clear hfz8_10); (try clear hfz8_2); (try clear hfz8_3); (try clear hfz8_4); (try clear hfz8_5); (try clear hfz8_6); (try clear hfz8_7); (try clear hfz8_8); (try clear hfz8_9); (try clear hx219_0); (try clear hx221_0); (try clear p2); (try clear p219); (try clear p221); (try clear p6); (try clear q219); (try clear q221)
                obtain ⟨x121_4, rfl, HA, HK4, BK208, HB⟩ := hrel
                cases gk with
                | zero => exact absurd HA.out (by simp [ephemerisref1_MoonError.l1])
                | succ k4 =>
                 have H := HA.out
                 clear HA
                 simp only [ephemerisref1_MoonError.l1] at H
                 by_cases c69 : x121_4 < (l0_10.length : Int)
                 ·rw [if_pos c69] at H
                  have c69b0 : decide (x121_4 < (l0_10.length : Int)) = true := decide_eq_true c69
                  clear c69
                  by_cases c70 : 0 ≤ x121_4
                  ·rw [if_pos c70] at H
                   have c70b0 : decide (0 ≤ x121_4) = true := decide_eq_true c70
                   clear c70
                   by_cases c71 : x121_4 < (l0_10.length : Int)
                   ·rw [if_pos c71] at H
                    have c71b0 : decide (x121_4 < (l0_10.length : Int)) = true := decide_eq_true c71
                    clear c71
                    replace H := Option.bind_eq_some_iff.mp H
                    obtain ⟨t223, A720, H⟩ := H
                    replace H : (if t223 = true then (if x121_4 > 0 then (if 0 ≤ (wrap64 (x121_4 - 1)) then (if (wrap64 (x121_4 - 1)) < (l0_10.length : Int) then (if (rd l0_10 (wrap64 (x121_4 - 1))) ≥ (rd l0_10 x121_4) then (some 9) else (ephemerisref1_MoonError.l1 k4 l0_10 (l0_10.length : Int) (wrap64 (x121_4 + 1)) a0_0 a0_1 a0_2 a0_3 a0_4 a0_5 a0_6 a0_7 a0_8 l0_9 l0_10)) else (none)) else (none)) else (ephemerisref1_MoonError.l1 k4 l0_10 (l0_10.length : Int) (wrap64 (x121_4 + 1)) a0_0 a0_1 a0_2 a0_3 a0_4 a0_5 a0_6 a0_7 a0_8 l0_9 l0_10)) else (some 3)) = some r := H
                    have A72 := Aside0.mk A720
                    clear A720
                    by_cases c73 : t223 = true
                    ·subst c73
                     have H1 : (if x121_4 > 0 then (if 0 ≤ (wrap64 (x121_4 - 1)) then (if (wrap64 (x121_4 - 1)) < (l0_10.length : Int) then (if (rd l0_10 (wrap64 (x121_4 - 1))) ≥ (rd l0_10 x121_4) then (some 9) else (ephemerisref1_MoonError.l1 k4 l0_10 (l0_10.length : Int) (wrap64 (x121_4 + 1)) a0_0 a0_1 a0_2 a0_3 a0_4 a0_5 a0_6 a0_7 a0_8 l0_9 l0_10)) else (none)) else (none)) else (ephemerisref1_MoonError.l1 k4 l0_10 (l0_10.length : Int) (wrap64 (x121_4 + 1)) a0_0 a0_1 a0_2 a0_3 a0_4 a0_5 a0_6 a0_7 a0_8 l0_9 l0_10)) = some r := by rw [if_pos rfl] at H; exact H
                     clear H
                     have H := H1
                     clear H1
                     by_cases c74 : x121_4 > 0
                     ·rw [if_pos c74] at H
                      have c74b0 : decide (0 < x121_4) = true := decide_eq_true c74
                      clear c74
                      obtain ⟨ji75, hji75⟩ : ∃ j_ : Int, (wrap64 (x121_4 - 1)) = j_ := ⟨_, rfl⟩
                      replace H : (if 0 ≤ (ji75) then (if (ji75) < (l0_10.length : Int) then (if (rd l0_10 (ji75)) ≥ (rd l0_10 x121_4) then (some 9) else (ephemerisref1_MoonError.l1 k4 l0_10 (l0_10.length : Int) (wrap64 (x121_4 + 1)) a0_0 a0_1 a0_2 a0_3 a0_4 a0_5 a0_6 a0_7 a0_8 l0_9 l0_10)) else (none)) else (none)) = some r := by first | (rw [hji75] at H; exact H) | (simp only [hji75] at H ⊢; exact H)
                      (try rw [hji75] at A72)
                      have hji75w : (IntKind.i64.wrap (x121_4 - 1)) = ji75 := (i64_w _).trans hji75
                      by_cases c76 : 0 ≤ (ji75)
                      ·rw [if_pos c76] at H
                       have c76b0 : decide (0 ≤ (ji75)) = true := decide_eq_true c76
                       clear c76
                       by_cases c77 : (ji75) < (l0_10.length : Int)
                       ·rw [if_pos c77] at H
                        have c77b0 : decide ((ji75) < (l0_10.length : Int)) = true := decide_eq_true c77
                        clear c77
                        by_cases c78 : (rd l0_10 (ji75)) ≥ (rd l0_10 x121_4)
                        ·rw [if_pos c78] at H
                         have c78b0 : decide ((rd l0_10 x121_4) ≤ (rd l0_10 (ji75))) = true := decide_eq_true c78
                         clear c78
                         obtain rfl := Option.some.inj H
                         have p222 : 0 ≤ (x121_4 : Int) := of_decide_eq_true ka
                         have q222 : x121_4 < (l0_10.length : Int) := of_decide_eq_true ka
                         obtain ⟨ad222, e222, hx222_0⟩ := Kd.at_int HR0_10.out x121_4 p222 q222
                         cases e222
                         replace hx222_0 := (HB.out.cell (World.block_lt_of_cell? w _ hx222_0)).trans hx222_0
                         replace p222 := eq_true p222
                         replace q222 := eq_true q222
                         go_wp2_with (first | ((with_reducible refine gate_callee (f := 21) rfl ?_); refine goesL_ (some 127) rfl rfl Try.func21 kx rfl #[.int .i64 (rd l0_10 x121_4), .int .i64 0, .int .i64 6] rfl aa ?_; (with_reducible refine (ephemerisref1_In.calls (rd l0_10 x121_4) 0 6 true _ A72.out).mono ?_); rintro e w' ⟨rfl, ⟨nd, rfl⟩⟩; refine ⟨_, rfl, ?_⟩; obtain ⟨hcz79_0, hcz79_1, hcz79_2, hcz79_3, hcz79_4, hcz79_5, hcz79_6, hcz79_7, hcz79_8, hcz79_9, hcz79_10, hfz79_0, hfz79_1, hfz79_2, hfz79_3, hfz79_4, hfz79_5, hfz79_6, hfz79_7, hfz79_8, hfz79_9, hfz79_10⟩ := bc11 BK208; have p224 : 0 ≤ ((ji75) : Int) := of_decide_eq_true ka; have q224 : (ji75) < (l0_10.length : Int) := of_decide_eq_true ka; obtain ⟨ad224, e224, hx224_0⟩ := Kd.at_int HR0_10.out (ji75) p224 q224; obtain rfl : ad222 = ad224 := (by injection e224); replace hx224_0 := (HB.out.cell (World.block_lt_of_cell? w _ hx224_0)).trans hx224_0; replace p224 := eq_true p224; replace q224 := eq_true q224))
                         go_ret
                         exact ⟨by first | rfl | (simp [errW_none, errW_some] <;> rfl) | (simp only [← hji75]; first | rfl | (simp [errW_none, errW_some] <;> rfl)) | (simp [*, errW_none, errW_some] <;> rfl), be⟩
                        ·rw [if_neg c78] at H
                         have c78b0 : decide ((rd l0_10 x121_4) ≤ (rd l0_10 (ji75))) = false := decide_eq_false c78
                         clear c78
                         have H' := Aside0.mk H
                         clear H
                         have p222 : 0 ≤ (x121_4 : Int) := of_decide_eq_true ka
                         have q222 : x121_4 < (l0_10.length : Int) := of_decide_eq_true ka
                         obtain ⟨ad222, e222, hx222_0⟩ := Kd.at_int HR0_10.out x121_4 p222 q222
                         cases e222
                         replace hx222_0 := (HB.out.cell (World.block_lt_of_cell? w _ hx222_0)).trans hx222_0
                         replace p222 := eq_true p222
                         replace q222 := eq_true q222
                         go_wp2_with (first | ((with_reducible refine gate_callee (f := 21) rfl ?_); refine goesL_ (some 127) rfl rfl Try.func21 kx rfl #[.int .i64 (rd l0_10 x121_4), .int .i64 0, .int .i64 6] rfl aa ?_; (with_reducible refine (ephemerisref1_In.calls (rd l0_10 x121_4) 0 6 true _ A72.out).mono ?_); rintro e w' ⟨rfl, ⟨nd, rfl⟩⟩; refine ⟨_, rfl, ?_⟩; obtain ⟨hcz80_0, hcz80_1, hcz80_2, hcz80_3, hcz80_4, hcz80_5, hcz80_6, hcz80_7, hcz80_8, hcz80_9, hcz80_10, hfz80_0, hfz80_1, hfz80_2, hfz80_3, hfz80_4, hfz80_5, hfz80_6, hfz80_7, hfz80_8, hfz80_9, hfz80_10⟩ := bc11 BK208; have p224 : 0 ≤ ((ji75) : Int) := of_decide_eq_true ka; have q224 : (ji75) < (l0_10.length : Int) := of_decide_eq_true ka; obtain ⟨ad224, e224, hx224_0⟩ := Kd.at_int HR0_10.out (ji75) p224 q224; obtain rfl : ad222 = ad224 := (by injection e224); replace hx224_0 := (HB.out.cell (World.block_lt_of_cell? w _ hx224_0)).trans hx224_0; replace p224 := eq_true p224; replace q224 := eq_true q224))
                         go_roundg k4
                         case measure => have := HJ5.out; have := HJ26.out; have := HK3.out; have := HK4.out; omega
                         case rel => exact ⟨(wrap64 (x121_4 + 1)), rs, H', ⟨by have := HJ5.out; have := HJ26.out; have := HK3.out; have := HK4.out; omega⟩, ⟨bk BK208⟩, ⟨be⟩⟩
                       ·rw [if_neg c77] at H
                        exact absurd H (by simp)
                      ·rw [if_neg c76] at H
                       exact absurd H (by simp)
                     ·rw [if_neg c74] at H
                      have c74b0 : decide (0 < x121_4) = false := decide_eq_false c74
                      clear c74
                      have H' := Aside0.mk H
                      clear H
                      have p222 : 0 ≤ (x121_4 : Int) := of_decide_eq_true ka
                      have q222 : x121_4 < (l0_10.length : Int) := of_decide_eq_true ka
                      obtain ⟨ad222, e222, hx222_0⟩ := Kd.at_int HR0_10.out x121_4 p222 q222
                      cases e222
                      replace hx222_0 := (HB.out.cell (World.block_lt_of_cell? w _ hx222_0)).trans hx222_0
                      replace p222 := eq_true p222
                      replace q222 := eq_true q222
                      go_wp2_with (first | ((with_reducible refine gate_callee (f := 21) rfl ?_); refine goesL_ (some 127) rfl rfl Try.func21 kx rfl #[.int .i64 (rd l0_10 x121_4), .int .i64 0, .int .i64 6] rfl aa ?_; (with_reducible refine (ephemerisref1_In.calls (rd l0_10 x121_4) 0 6 true _ A72.out).mono ?_); rintro e w' ⟨rfl, ⟨nd, rfl⟩⟩; refine ⟨_, rfl, ?_⟩))
                      go_roundg k4
                      case measure => have := HJ5.out; have := HJ26.out; have := HK3.out; have := HK4.out; omega
                      case rel => exact ⟨(wrap64 (x121_4 + 1)), rs, H', ⟨by have := HJ5.out; have := HJ26.out; have := HK3.out; have := HK4.out; omega⟩, ⟨bk BK208⟩, ⟨be⟩⟩
                    ·replace c73 := Bool.eq_false_iff.mpr c73
                     subst c73
                     have H1 : (some 3) = some r := by rw [if_neg (show ¬ (false = true) by decide)] at H; exact H
                     clear H
                     have H := H1
                     clear H1
                     obtain rfl := Option.some.inj H
                     have p222 : 0 ≤ (x121_4 : Int) := of_decide_eq_true ka
                     have q222 : x121_4 < (l0_10.length : Int) := of_decide_eq_true ka
                     obtain ⟨ad222, e222, hx222_0⟩ := Kd.at_int HR0_10.out x121_4 p222 q222
                     cases e222
                     replace hx222_0 := (HB.out.cell (World.block_lt_of_cell? w _ hx222_0)).trans hx222_0
                     replace p222 := eq_true p222
                     replace q222 := eq_true q222
                     go_wp2_with (first | ((with_reducible refine gate_callee (f := 21) rfl ?_); refine goesL_ (some 127) rfl rfl Try.func21 kx rfl #[.int .i64 (rd l0_10 x121_4), .int .i64 0, .int .i64 6] rfl aa ?_; (with_reducible refine (ephemerisref1_In.calls (rd l0_10 x121_4) 0 6 false _ A72.out).mono ?_); rintro e w' ⟨rfl, ⟨nd, rfl⟩⟩; refine ⟨_, rfl, ?_⟩))
                     go_ret
                     exact ⟨by first | rfl | (simp [errW_none, errW_some] <;> rfl) | (simp [*, errW_none, errW_some] <;> rfl), be⟩
                   ·rw [if_neg c71] at H
                    exact absurd H (by simp)
                  ·rw [if_neg c70] at H
                   exact absurd H (by simp)
                 ·rw [if_neg c69] at H
                  have c69b0 : decide (x121_4 < (l0_10.length : Int)) = false := decide_eq_false c69
                  clear c69
                  obtain rfl := Option.some.inj H
                  go_wp2
                  go_ret
                  exact ⟨by first | rfl | (simp [errW_none, errW_some] <;> rfl) | (simp [*, errW_none, errW_some] <;> rfl), be⟩
          ·replace c48 := Bool.eq_false_iff.mpr c48
           subst c48
           have H1 : (some 3) = some r := by rw [if_neg (show ¬ (false = true) by decide)] at H; exact H
           clear H
           have H := H1
           clear H1
           obtain rfl := Option.some.inj H
           obtain ⟨hcz81_0, hcz81_1, hcz81_2, hcz81_3, hcz81_4, hcz81_5, hcz81_6, hcz81_7, hcz81_8, hcz81_9, hcz81_10, hfz81_0, hfz81_1, hfz81_2, hfz81_3, hfz81_4, hfz81_5, hfz81_6, hfz81_7, hfz81_8, hfz81_9, hfz81_10⟩ := bc11 BK208
           go_wp2_with (first | ((with_reducible refine gate_callee (f := 78) rfl ?_); refine goesL_ (some 82) rfl rfl Try.func78 kx rfl #[.agg #[.string a0_0, .int .i64 a0_1, .int .i64 a0_2, .int .i64 a0_3, .int .i64 a0_4, .int .i64 a0_5, .int .i64 a0_6, .int .i64 a0_7, .int .i64 a0_8, .slice A0_9 l0_9.length c0_9, .slice A0_10 l0_10.length c0_10]] rfl aa ?_; (with_reducible refine (ephemerisref1_Parts.calls kj26 a0_0 a0_1 a0_2 a0_3 a0_4 a0_5 a0_6 a0_7 a0_8 _ _ l0_9 _ _ l0_10 t217 _ ?side1 ?side2 ?side3 ?side4 A43.out).mono ?_); (case side1 => exact kc (Kd.C_below HR0_9.out HB.out)); (case side2 => exact HC0_9.out); (case side3 => exact kc (Kd.C_below HR0_10.out HB.out)); (case side4 => exact HC0_10.out); rintro e w82 ⟨rfl, hb⟩; refine ⟨_, rfl, ?_⟩; have n0_ := bb BK208 hb; have n1_ := Aside0.mk (below_step be hb); clear BK208; clear HB; have BK208 := n0_; have HB := n1_; clear n0_ n1_; (try clear hb); (try clear hb2); (try clear hk); (try clear hi); obtain ⟨hcz83_0, hcz83_1, hcz83_2, hcz83_3, hcz83_4, hcz83_5, hcz83_6, hcz83_7, hcz83_8, hcz83_9, hcz83_10, hfz83_0, hfz83_1, hfz83_2, hfz83_3, hfz83_4, hfz83_5, hfz83_6, hfz83_7, hfz83_8, hfz83_9, hfz83_10⟩ := bc11 BK208) | ((with_reducible refine gate_callee (f := 21) rfl ?_); refine goesL_ (some 86) rfl rfl Try.func21 kx rfl #[.int .i64 a0_8, .int .i64 1, .int .i64 100] rfl aa ?_; (with_reducible refine (ephemerisref1_In.calls a0_8 1 100 false _ A47.out).mono ?_); rintro e w' ⟨rfl, ⟨nd, rfl⟩⟩; refine ⟨_, rfl, ?_⟩))
           go_ret
           exact ⟨by first | rfl | (simp [errW_none, errW_some] <;> rfl) | (simp [*, errW_none, errW_some] <;> rfl), be⟩
  ·replace c5 := Bool.eq_false_iff.mpr c5
   subst c5
   have H1 : (some 3) = some r := by rw [if_neg (show ¬ (false = true) by decide)] at H; exact H
   clear H
   have H := H1
   clear H1
   obtain rfl := Option.some.inj H
   go_enter Try.func27, Try.ntmps27
   go_wp2_with (first | ((with_reducible refine gate_dst (N := 1) rfl ?_); refine box_event ?hg (N := 1) ?hd (cs := #[.string a0_0, .int .i64 a0_1, .int .i64 a0_2, .int .i64 a0_3, .int .i64 a0_4, .int .i64 a0_5, .int .i64 a0_6, .int .i64 a0_7, .int .i64 a0_8, .slice A0_9 l0_9.length c0_9, .slice A0_10 l0_10.length c0_10]) (t := 60) ?hr ?_; (case hd => rfl); (case hg => rfl); (case hr => first | (go_simp; done) | (go_simp; rfl)); intro gb208 hg w84 hbox hb; have n0_ := Aside0.mk (below_step be hb); have n1_ := Aside0.mk (hbox); have n2_ := gs hg HB; have n3_ := n2_; clear HB; have HB := n0_; have BK208 := n1_; have GW208 := n2_; have GE208 := n3_; clear n0_ n1_ n2_ n3_; clear hb hbox hg; obtain ⟨hcz85_0, hcz85_1, hcz85_2, hcz85_3, hcz85_4, hcz85_5, hcz85_6, hcz85_7, hcz85_8, hcz85_9, hcz85_10, hfz85_0, hfz85_1, hfz85_2, hfz85_3, hfz85_4, hfz85_5, hfz85_6, hfz85_7, hfz85_8, hfz85_9, hfz85_10⟩ := bc11 BK208) | ((with_reducible refine gate_callee (f := 36) rfl ?_); refine goesL_ (some 9) rfl rfl Try.func36 kx rfl #[.string a0_0] rfl aa ?_; (with_reducible refine (ephemerisref1_Name.calls k a0_0 true _ A2.out).mono ?_); rintro e w' ⟨rfl, ⟨nd, rfl⟩⟩; refine ⟨_, rfl, ?_⟩) | ((with_reducible refine gate_callee (f := 30) rfl ?_); refine goesL_ (some 13) rfl rfl Try.func30 kx rfl #[.int .i64 a0_1] rfl aa ?_; (with_reducible refine (ephemerisref1_Day.calls a0_1 false _ A4.out).mono ?_); rintro e w' ⟨rfl, ⟨nd, rfl⟩⟩; refine ⟨_, rfl, ?_⟩))
   go_ret
   exact ⟨by first | rfl | (simp [errW_none, errW_some] <;> rfl) | (simp [*, errW_none, errW_some] <;> rfl), be⟩
 ·replace c3 := Bool.eq_false_iff.mpr c3
  subst c3
  have H1 : (some 5) = some r := by rw [if_neg (show ¬ (false = true) by decide)] at H; exact H
  clear H
  have H := H1
  clear H1
  obtain rfl := Option.some.inj H
  go_enter Try.func27, Try.ntmps27
  go_wp2_with (first | ((with_reducible refine gate_dst (N := 1) rfl ?_); refine box_event ?hg (N := 1) ?hd (cs := #[.string a0_0, .int .i64 a0_1, .int .i64 a0_2, .int .i64 a0_3, .int .i64 a0_4, .int .i64 a0_5, .int .i64 a0_6, .int .i64 a0_7, .int .i64 a0_8, .slice A0_9 l0_9.length c0_9, .slice A0_10 l0_10.length c0_10]) (t := 60) ?hr ?_; (case hd => rfl); (case hg => rfl); (case hr => first | (go_simp; done) | (go_simp; rfl)); intro gb208 hg w86 hbox hb; have n0_ := Aside0.mk (below_step be hb); have n1_ := Aside0.mk (hbox); have n2_ := gs hg HB; have n3_ := n2_; clear HB; have HB := n0_; have BK208 := n1_; have GW208 := n2_; have GE208 := n3_; clear n0_ n1_ n2_ n3_; clear hb hbox hg; obtain ⟨hcz87_0, hcz87_1, hcz87_2, hcz87_3, hcz87_4, hcz87_5, hcz87_6, hcz87_7, hcz87_8, hcz87_9, hcz87_10, hfz87_0, hfz87_1, hfz87_2, hfz87_3, hfz87_4, hfz87_5, hfz87_6, hfz87_7, hfz87_8, hfz87_9, hfz87_10⟩ := bc11 BK208) | ((with_reducible refine gate_callee (f := 36) rfl ?_); refine goesL_ (some 9) rfl rfl Try.func36 kx rfl #[.string a0_0] rfl aa ?_; (with_reducible refine (ephemerisref1_Name.calls k a0_0 false _ A2.out).mono ?_); rintro e w' ⟨rfl, ⟨nd, rfl⟩⟩; refine ⟨_, rfl, ?_⟩))
  go_ret
  exact ⟨by first | rfl | (simp [errW_none, errW_some] <;> rfl) | (simp [*, errW_none, errW_some] <;> rfl), be⟩

end Go.Proofs.Ytlfammlboncmeaa.PObservedOfs
