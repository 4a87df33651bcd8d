/- The walks of the functions of this part. The proof of ephemerisref1_RecurError (in part) is written by hand; the other ones are as the kit's print tells them. -/
-- The walks of the law's functions, told by a program.
import Derived.Test.YtgcmclnjnimolaaY
import Derived.Test.YtgcmclnjnimolaaPRecurNormalsx0
import Derived.Test.YtgcmclnjnimolaaPRecurNormalsx5
namespace Go.Proofs.Ytgcmclnjnimolaa.PRecurNormals
open Go.RowKit Go.Proofs.YtgcmclnjnimolaaW.PrintWords Go.Proofs.YtgcmclnjnimolaaW.PrintLast Go.Proofs.YtgcmclnjnimolaaW.PrintMore Go.Proofs.Ytgcmclnjnimolaa.Y
attribute [local go_sem] max2_int min2_int max_two min_two max_three min_three max_four min_four   -- for this text's walks alone
set_option linter.unusedVariables false
set_option linter.unusedSimpArgs false

/-! ### ephemerisref1_RecurError: function 30 -/
mutual
def ephemerisref1_RecurError.j0 : Nat → Bool → Int → Int → Int → Int → Int → List Int → List Int → List Int → Option (Int)
 | 0, _, _, _, _, _, _, _, _, _ => none
 | k + 1, x43, x200000, x200001, x200002, x200003, x200004, x200005, x200006, x200007 => if x43 = true then (some 3) else ((some (([x200005, x200006, x200007] : List (List Int)) : List (List Int))).bind fun y205 => (ephemerisref1_RecurError.l0 k y205 (y205.length : Int) 0))
def ephemerisref1_RecurError.l0 : Nat → List (List Int) → Int → Int → Option (Int)
 | 0, _, _, _ => none
 | k + 1, x50, x51, x52 => if x52 < x51 then (if 0 ≤ x52 then (if x52 < (x50.length : Int) then (if ((rd_L1 x50 x52).length : Int) > 31 then (some 2) else ((some (([0, (-31), 1] : List Int) : List Int)).bind fun y209 => (if x52 < (y209.length : Int) then ((some (([6, 31, 12] : List Int) : List Int)).bind fun y213 => (if x52 < (y213.length : Int) then (ephemerisref1_RecurError.l1 k x52 (rd_L1 x50 x52) (rd y209 x52) (rd y213 x52) x50 x51 x52 (rd_L1 x50 x52) ((rd_L1 x50 x52).length : Int) 0) else (none))) else (none)))) else (none)) else (none)) else (some 0)
def ephemerisref1_RecurError.l1 : Nat → Int → List Int → Int → Int → List (List Int) → Int → Int → List Int → Int → Int → Option (Int)
 | 0, _, _, _, _, _, _, _, _, _, _ => none
 | k + 1, x3, x4, x5, x6, x50, x51, x52, x68, x69, x70 => if x70 < x69 then (if 0 ≤ x70 then (if x70 < (x68.length : Int) then ((ephemerisref1_In.f (rd x68 x70) x5 x6).bind fun t218 => (if t218 = true then (if x3 = 1 then (ephemerisref1_RecurError.j3 k x3 x4 x5 x6 x70 (rd x68 x70) x50 x51 x52 x68 x69 x70 ((rd x68 x70) == 0)) else (ephemerisref1_RecurError.j3 k x3 x4 x5 x6 x70 (rd x68 x70) x50 x51 x52 x68 x69 x70 false)) else (ephemerisref1_RecurError.j3 k x3 x4 x5 x6 x70 (rd x68 x70) x50 x51 x52 x68 x69 x70 true))) else (none)) else (none)) else (ephemerisref1_RecurError.l0 k x50 x51 (wrap64 (x52 + 1)))
def ephemerisref1_RecurError.j3 : Nat → Int → List Int → Int → Int → Int → Int → List (List Int) → Int → Int → List Int → Int → Int → Bool → Option (Int)
 | 0, _, _, _, _, _, _, _, _, _, _, _, _, _ => none
 | k + 1, x3, x4, x5, x6, x7, x8, x50, x51, x52, x68, x69, x70, x87 => if x87 = true then (some 3) else (if 0 ≤ x7 then (if x7 ≤ (x4.length : Int) then (ephemerisref1_RecurError.l2 k x3 x4 x5 x6 x8 x50 x51 x52 x68 x69 x70 (x4.take (x7 : Int).toNat) ((x4.take (x7 : Int).toNat).length : Int) 0) else (none)) else (none))
def ephemerisref1_RecurError.l2 : Nat → Int → List Int → Int → Int → Int → List (List Int) → Int → Int → List Int → Int → Int → List Int → Int → Int → Option (Int)
 | 0, _, _, _, _, _, _, _, _, _, _, _, _, _, _ => none
 | k + 1, x3, x4, x5, x6, x8, x50, x51, x52, x68, x69, x70, x90, x91, x92 => if x92 < x91 then (if 0 ≤ x92 then (if x92 < (x90.length : Int) then (if (rd x90 x92) = x8 then (some 7) else (ephemerisref1_RecurError.l2 k x3 x4 x5 x6 x8 x50 x51 x52 x68 x69 x70 x90 x91 (wrap64 (x92 + 1)))) else (none)) else (none)) else (ephemerisref1_RecurError.l1 k x3 x4 x5 x6 x50 x51 x52 x68 x69 (wrap64 (x70 + 1)))
end
def ephemerisref1_RecurError.f (k : Nat) (a0_0 : Int) (a0_1 : Int) (a0_2 : Int) (a0_3 : Int) (a0_4 : Int) (l0_5 : List Int) (l0_6 : List Int) (l0_7 : List Int) : Option (Int) := (ephemerisref1_In.f a0_0 1 4).bind fun t200 => (if t200 = true then ((ephemerisref1_In.f a0_1 1 1000).bind fun t201 => (if t201 = true then ((ephemerisref1_Day.f a0_2).bind fun t202 => (if t202 = true then ((ephemerisref1_Day.f a0_4).bind fun t203 => (if t203 = true then (if a0_4 < a0_2 then (ephemerisref1_RecurError.j0 k true a0_0 a0_1 a0_2 a0_3 a0_4 l0_5 l0_6 l0_7) else ((ephemerisref1_In.f a0_3 0 1000).bind fun t204 => (ephemerisref1_RecurError.j0 k (!t204) a0_0 a0_1 a0_2 a0_3 a0_4 l0_5 l0_6 l0_7))) else (ephemerisref1_RecurError.j0 k true a0_0 a0_1 a0_2 a0_3 a0_4 l0_5 l0_6 l0_7))) else (ephemerisref1_RecurError.j0 k true a0_0 a0_1 a0_2 a0_3 a0_4 l0_5 l0_6 l0_7))) else (ephemerisref1_RecurError.j0 k true a0_0 a0_1 a0_2 a0_3 a0_4 l0_5 l0_6 l0_7))) else (some 1))
theorem ephemerisref1_RecurError.mono_l : ∀ k, (∀ y0 y1 y2 y3 y4 y5 y6 y7 y8, LeO (ephemerisref1_RecurError.j0 k y0 y1 y2 y3 y4 y5 y6 y7 y8) (ephemerisref1_RecurError.j0 (k + 1) y0 y1 y2 y3 y4 y5 y6 y7 y8)) ∧ (∀ y0 y1 y2, LeO (ephemerisref1_RecurError.l0 k y0 y1 y2) (ephemerisref1_RecurError.l0 (k + 1) y0 y1 y2)) ∧ (∀ y0 y1 y2 y3 y4 y5 y6 y7 y8 y9, LeO (ephemerisref1_RecurError.l1 k y0 y1 y2 y3 y4 y5 y6 y7 y8 y9) (ephemerisref1_RecurError.l1 (k + 1) y0 y1 y2 y3 y4 y5 y6 y7 y8 y9)) ∧ (∀ y0 y1 y2 y3 y4 y5 y6 y7 y8 y9 y10 y11 y12, LeO (ephemerisref1_RecurError.j3 k y0 y1 y2 y3 y4 y5 y6 y7 y8 y9 y10 y11 y12) (ephemerisref1_RecurError.j3 (k + 1) y0 y1 y2 y3 y4 y5 y6 y7 y8 y9 y10 y11 y12)) ∧ (∀ y0 y1 y2 y3 y4 y5 y6 y7 y8 y9 y10 y11 y12 y13, LeO (ephemerisref1_RecurError.l2 k y0 y1 y2 y3 y4 y5 y6 y7 y8 y9 y10 y11 y12 y13) (ephemerisref1_RecurError.l2 (k + 1) y0 y1 y2 y3 y4 y5 y6 y7 y8 y9 y10 y11 y12 y13))
 | 0 => ⟨fun _ _ _ _ _ _ _ _ _ r h => by simp [ephemerisref1_RecurError.j0] at h, fun _ _ _ r h => by simp [ephemerisref1_RecurError.l0] at h, fun _ _ _ _ _ _ _ _ _ _ r h => by simp [ephemerisref1_RecurError.l1] at h, fun _ _ _ _ _ _ _ _ _ _ _ _ _ r h => by simp [ephemerisref1_RecurError.j3] at h, fun _ _ _ _ _ _ _ _ _ _ _ _ _ _ r h => by simp [ephemerisref1_RecurError.l2] at h⟩
 | k + 1 => by
  obtain ⟨ih0, ih1, ih2, ih3, ih4⟩ := ephemerisref1_RecurError.mono_l k
  refine ⟨?_, ?_, ?_, ?_, ?_⟩
  ·intro y0 y1 y2 y3 y4 y5 y6 y7 y8
   unfold ephemerisref1_RecurError.j0
   repeat' first
   | (with_reducible exact ih0 _ _ _ _ _ _ _ _ _)
   | (with_reducible exact ih1 _ _ _)
   | (with_reducible exact ih2 _ _ _ _ _ _ _ _ _ _)
   | (with_reducible exact ih3 _ _ _ _ _ _ _ _ _ _ _ _ _)
   | (with_reducible exact ih4 _ _ _ _ _ _ _ _ _ _ _ _ _ _)
   | (with_reducible exact LeO.refl _)
   | (with_reducible exact LeO.none _)
   | (with_reducible refine LeO.ite ?_ ?_)
   | (with_reducible refine LeO.bind ?_ (fun _ => ?_))
   | exact ih0 _ _ _ _ _ _ _ _ _
   | exact ih1 _ _ _
   | exact ih2 _ _ _ _ _ _ _ _ _ _
   | exact ih3 _ _ _ _ _ _ _ _ _ _ _ _ _
   | exact ih4 _ _ _ _ _ _ _ _ _ _ _ _ _ _
   | exact LeO.none _
   | refine LeO.ite ?_ ?_
   | refine LeO.bind ?_ (fun _ => ?_)
  ·intro y0 y1 y2
   unfold ephemerisref1_RecurError.l0
   repeat' first
   | (with_reducible exact ih0 _ _ _ _ _ _ _ _ _)
   | (with_reducible exact ih1 _ _ _)
   | (with_reducible exact ih2 _ _ _ _ _ _ _ _ _ _)
   | (with_reducible exact ih3 _ _ _ _ _ _ _ _ _ _ _ _ _)
   | (with_reducible exact ih4 _ _ _ _ _ _ _ _ _ _ _ _ _ _)
   | (with_reducible exact LeO.refl _)
   | (with_reducible exact LeO.none _)
   | (with_reducible refine LeO.ite ?_ ?_)
   | (with_reducible refine LeO.bind ?_ (fun _ => ?_))
   | exact ih0 _ _ _ _ _ _ _ _ _
   | exact ih1 _ _ _
   | exact ih2 _ _ _ _ _ _ _ _ _ _
   | exact ih3 _ _ _ _ _ _ _ _ _ _ _ _ _
   | exact ih4 _ _ _ _ _ _ _ _ _ _ _ _ _ _
   | exact LeO.none _
   | refine LeO.ite ?_ ?_
   | refine LeO.bind ?_ (fun _ => ?_)
  ·intro y0 y1 y2 y3 y4 y5 y6 y7 y8 y9
   unfold ephemerisref1_RecurError.l1
   repeat' first
   | (with_reducible exact ih0 _ _ _ _ _ _ _ _ _)
   | (with_reducible exact ih1 _ _ _)
   | (with_reducible exact ih2 _ _ _ _ _ _ _ _ _ _)
   | (with_reducible exact ih3 _ _ _ _ _ _ _ _ _ _ _ _ _)
   | (with_reducible exact ih4 _ _ _ _ _ _ _ _ _ _ _ _ _ _)
   | (with_reducible exact LeO.refl _)
   | (with_reducible exact LeO.none _)
   | (with_reducible refine LeO.ite ?_ ?_)
   | (with_reducible refine LeO.bind ?_ (fun _ => ?_))
   | exact ih0 _ _ _ _ _ _ _ _ _
   | exact ih1 _ _ _
   | exact ih2 _ _ _ _ _ _ _ _ _ _
   | exact ih3 _ _ _ _ _ _ _ _ _ _ _ _ _
   | exact ih4 _ _ _ _ _ _ _ _ _ _ _ _ _ _
   | exact LeO.none _
   | refine LeO.ite ?_ ?_
   | refine LeO.bind ?_ (fun _ => ?_)
  ·intro y0 y1 y2 y3 y4 y5 y6 y7 y8 y9 y10 y11 y12
   unfold ephemerisref1_RecurError.j3
   repeat' first
   | (with_reducible exact ih0 _ _ _ _ _ _ _ _ _)
   | (with_reducible exact ih1 _ _ _)
   | (with_reducible exact ih2 _ _ _ _ _ _ _ _ _ _)
   | (with_reducible exact ih3 _ _ _ _ _ _ _ _ _ _ _ _ _)
   | (with_reducible exact ih4 _ _ _ _ _ _ _ _ _ _ _ _ _ _)
   | (with_reducible exact LeO.refl _)
   | (with_reducible exact LeO.none _)
   | (with_reducible refine LeO.ite ?_ ?_)
   | (with_reducible refine LeO.bind ?_ (fun _ => ?_))
   | exact ih0 _ _ _ _ _ _ _ _ _
   | exact ih1 _ _ _
   | exact ih2 _ _ _ _ _ _ _ _ _ _
   | exact ih3 _ _ _ _ _ _ _ _ _ _ _ _ _
   | exact ih4 _ _ _ _ _ _ _ _ _ _ _ _ _ _
   | exact LeO.none _
   | refine LeO.ite ?_ ?_
   | refine LeO.bind ?_ (fun _ => ?_)
  ·intro y0 y1 y2 y3 y4 y5 y6 y7 y8 y9 y10 y11 y12 y13
   unfold ephemerisref1_RecurError.l2
   repeat' first
   | (with_reducible exact ih0 _ _ _ _ _ _ _ _ _)
   | (with_reducible exact ih1 _ _ _)
   | (with_reducible exact ih2 _ _ _ _ _ _ _ _ _ _)
   | (with_reducible exact ih3 _ _ _ _ _ _ _ _ _ _ _ _ _)
   | (with_reducible exact ih4 _ _ _ _ _ _ _ _ _ _ _ _ _ _)
   | (with_reducible exact LeO.refl _)
   | (with_reducible exact LeO.none _)
   | (with_reducible refine LeO.ite ?_ ?_)
   | (with_reducible refine LeO.bind ?_ (fun _ => ?_))
   | exact ih0 _ _ _ _ _ _ _ _ _
   | exact ih1 _ _ _
   | exact ih2 _ _ _ _ _ _ _ _ _ _
   | exact ih3 _ _ _ _ _ _ _ _ _ _ _ _ _
   | exact ih4 _ _ _ _ _ _ _ _ _ _ _ _ _ _
   | exact LeO.none _
   | refine LeO.ite ?_ ?_
   | refine LeO.bind ?_ (fun _ => ?_)
theorem ephemerisref1_RecurError.mono : ∀ a0 a1 a2 a3 a4 a5 a6 a7 k, LeO (ephemerisref1_RecurError.f k a0 a1 a2 a3 a4 a5 a6 a7) (ephemerisref1_RecurError.f (k + 1) a0 a1 a2 a3 a4 a5 a6 a7) := by
 intro a0 a1 a2 a3 a4 a5 a6 a7 k
 obtain ⟨ih0, ih1, ih2, ih3, ih4⟩ := ephemerisref1_RecurError.mono_l k
 unfold ephemerisref1_RecurError.f
 repeat' first
   | (with_reducible exact ih0 _ _ _ _ _ _ _ _ _)
   | (with_reducible exact ih1 _ _ _)
   | (with_reducible exact ih2 _ _ _ _ _ _ _ _ _ _)
   | (with_reducible exact ih3 _ _ _ _ _ _ _ _ _ _ _ _ _)
   | (with_reducible exact ih4 _ _ _ _ _ _ _ _ _ _ _ _ _ _)
   | (with_reducible exact LeO.refl _)
   | (with_reducible exact LeO.none _)
   | (with_reducible refine LeO.ite ?_ ?_)
   | (with_reducible refine LeO.bind ?_ (fun _ => ?_))
   | exact ih0 _ _ _ _ _ _ _ _ _
   | exact ih1 _ _ _
   | exact ih2 _ _ _ _ _ _ _ _ _ _
   | exact ih3 _ _ _ _ _ _ _ _ _ _ _ _ _
   | exact ih4 _ _ _ _ _ _ _ _ _ _ _ _ _ _
   | exact LeO.none _
   | refine LeO.ite ?_ ?_
   | refine LeO.bind ?_ (fun _ => ?_)
def ephemerisref1_RecurError.T10 : Bool × List (List Nat × List Nat) := (true, [([], []), ([], []), ([0, 1], [0, 1]), ([2], [2]), ([], []), ([], []), ([4, 5], [4, 5]), ([6], [6]), ([3, 0, 1, 2, 3], [3]), ([7, 8, 0, 1, 2, 3, 4, 5, 6, 7, 8], [7])])
def ephemerisref1_RecurError.B10 : List Nat := [0, 0, 3, 7, 0, 0, 48, 112, 15, 511]
theorem ephemerisref1_RecurError.tab10 : rtab .any (opsOf Try.f30 10) = ephemerisref1_RecurError.T10 := by kernel_rfl
theorem ephemerisref1_RecurError.bits10 : waitsOk ephemerisref1_RecurError.T10.2 ephemerisref1_RecurError.B10 = true := by kernel_rfl
set_option maxHeartbeats 8000000 in
set_option maxRecDepth 100000 in
theorem ephemerisref1_RecurError.calls (k : Nat) (a0_0 : Int) (a0_1 : Int) (a0_2 : Int) (a0_3 : Int) (a0_4 : Int) (P0_5_ : Nat → Prop) (A0_5 : Option Addr) (c0_5 : Nat) (l0_5 : List Int) (P0_6_ : Nat → Prop) (A0_6 : Option Addr) (c0_6 : Nat) (l0_6 : List Int) (P0_7_ : Nat → Prop) (A0_7 : Option Addr) (c0_7 : Nat) (l0_7 : List Int) (r : Int) (w : World) (hs0_5 : Kd.V (Kd.int .i64) 3 w w.heap.size (fun k_ => P0_5_ k_) (.slice A0_5 l0_5.length c0_5) l0_5) (hs0_6 : Kd.V (Kd.int .i64) 3 w w.heap.size (fun k_ => P0_6_ k_) (.slice A0_6 l0_6.length c0_6) l0_6) (hs0_7 : Kd.V (Kd.int .i64) 3 w w.heap.size (fun k_ => P0_7_ k_) (.slice A0_7 l0_7.length c0_7) l0_7) (h : ephemerisref1_RecurError.f k a0_0 a0_1 a0_2 a0_3 a0_4 l0_5 l0_6 l0_7 = some r) :
  Calls Try.prog 30 #[.agg #[.int .i64 a0_0, .int .i64 a0_1, .int .i64 a0_2, .int .i64 a0_3, .int .i64 a0_4, .slice A0_5 l0_5.length c0_5, .slice A0_6 l0_6.length c0_6, .slice A0_7 l0_7.length c0_7]] w fun e w' => e = .returned (.int .i64 r) ∧ Below w.heap.size w w' := by
 have hu64 := Try.underlying64
 have HO0_5 := Aside0.mk (show Kd.V (Kd.int .i64) 3 w w.heap.size (fun k_ => ((P0_5_ k_ ∨ P0_6_ k_ ∨ P0_7_ k_) ∨ w.heap.size ≤ k_)) (.slice A0_5 l0_5.length c0_5) l0_5 from Kd.V_mono hs0_5 (fun k_ hk => .inl (.inl hk)))
 have HO0_6 := Aside0.mk (show Kd.V (Kd.int .i64) 3 w w.heap.size (fun k_ => ((P0_5_ k_ ∨ P0_6_ k_ ∨ P0_7_ k_) ∨ w.heap.size ≤ k_)) (.slice A0_6 l0_6.length c0_6) l0_6 from Kd.V_mono hs0_6 (fun k_ hk => .inl (.inr (.inl hk))))
 have HO0_7 := Aside0.mk (show Kd.V (Kd.int .i64) 3 w w.heap.size (fun k_ => ((P0_5_ k_ ∨ P0_6_ k_ ∨ P0_7_ k_) ∨ w.heap.size ≤ k_)) (.slice A0_7 l0_7.length c0_7) l0_7 from Kd.V_mono hs0_7 (fun k_ hk => .inl (.inr (.inr hk))))
 have HB := Aside0.mk (Below.refl w.heap.size w)
 have H : ((ephemerisref1_In.f a0_0 1 4).bind fun t200 => (if t200 = true then ((ephemerisref1_In.f a0_1 1 1000).bind fun t201 => (if t201 = true then ((ephemerisref1_Day.f a0_2).bind fun t202 => (if t202 = true then ((ephemerisref1_Day.f a0_4).bind fun t203 => (if t203 = true then (if a0_4 < a0_2 then (ephemerisref1_RecurError.j0 k true a0_0 a0_1 a0_2 a0_3 a0_4 l0_5 l0_6 l0_7) else ((ephemerisref1_In.f a0_3 0 1000).bind fun t204 => (ephemerisref1_RecurError.j0 k (!t204) a0_0 a0_1 a0_2 a0_3 a0_4 l0_5 l0_6 l0_7))) else (ephemerisref1_RecurError.j0 k true a0_0 a0_1 a0_2 a0_3 a0_4 l0_5 l0_6 l0_7))) else (ephemerisref1_RecurError.j0 k true a0_0 a0_1 a0_2 a0_3 a0_4 l0_5 l0_6 l0_7))) else (ephemerisref1_RecurError.j0 k true a0_0 a0_1 a0_2 a0_3 a0_4 l0_5 l0_6 l0_7))) else (some 1))) = some r := h
 clear h
 replace H := Option.bind_eq_some_iff.mp H
 obtain ⟨t200, A20, H⟩ := H
 replace H : (if t200 = true then ((ephemerisref1_In.f a0_1 1 1000).bind fun t201 => (if t201 = true then ((ephemerisref1_Day.f a0_2).bind fun t202 => (if t202 = true then ((ephemerisref1_Day.f a0_4).bind fun t203 => (if t203 = true then (if a0_4 < a0_2 then (ephemerisref1_RecurError.j0 k true a0_0 a0_1 a0_2 a0_3 a0_4 l0_5 l0_6 l0_7) else ((ephemerisref1_In.f a0_3 0 1000).bind fun t204 => (ephemerisref1_RecurError.j0 k (!t204) a0_0 a0_1 a0_2 a0_3 a0_4 l0_5 l0_6 l0_7))) else (ephemerisref1_RecurError.j0 k true a0_0 a0_1 a0_2 a0_3 a0_4 l0_5 l0_6 l0_7))) else (ephemerisref1_RecurError.j0 k true a0_0 a0_1 a0_2 a0_3 a0_4 l0_5 l0_6 l0_7))) else (ephemerisref1_RecurError.j0 k true a0_0 a0_1 a0_2 a0_3 a0_4 l0_5 l0_6 l0_7))) else (some 1)) = some r := H
 have A2 := Aside0.mk A20
 clear A20
 by_cases c3 : t200 = true
 ·subst c3
  have H1 : ((ephemerisref1_In.f a0_1 1 1000).bind fun t201 => (if t201 = true then ((ephemerisref1_Day.f a0_2).bind fun t202 => (if t202 = true then ((ephemerisref1_Day.f a0_4).bind fun t203 => (if t203 = true then (if a0_4 < a0_2 then (ephemerisref1_RecurError.j0 k true a0_0 a0_1 a0_2 a0_3 a0_4 l0_5 l0_6 l0_7) else ((ephemerisref1_In.f a0_3 0 1000).bind fun t204 => (ephemerisref1_RecurError.j0 k (!t204) a0_0 a0_1 a0_2 a0_3 a0_4 l0_5 l0_6 l0_7))) else (ephemerisref1_RecurError.j0 k true a0_0 a0_1 a0_2 a0_3 a0_4 l0_5 l0_6 l0_7))) else (ephemerisref1_RecurError.j0 k true a0_0 a0_1 a0_2 a0_3 a0_4 l0_5 l0_6 l0_7))) else (ephemerisref1_RecurError.j0 k true a0_0 a0_1 a0_2 a0_3 a0_4 l0_5 l0_6 l0_7))) = some r := by rw [if_pos rfl] at H; exact H
  clear H
  have H := H1
  clear H1
  have HC4 := Aside0.mk H
  clear H
  go_enter Try.func30, Try.ntmps30
  go_upto_region 3 with (first | ((with_reducible refine gate_dst (N := 1) rfl ?_); refine box_event ?hg (N := 1) ?hd (cs := #[.int .i64 a0_0, .int .i64 a0_1, .int .i64 a0_2, .int .i64 a0_3, .int .i64 a0_4, .slice A0_5 l0_5.length c0_5, .slice A0_6 l0_6.length c0_6, .slice A0_7 l0_7.length c0_7]) (t := 64) ?hr ?_; (case hd => rfl); (case hg => rfl); (case hr => first | (go_simp; done) | (go_simp; rfl)); intro gb199 hg w5 hbox hb; have n0_ := Aside0.mk (Kd.V_below (Kd.V_elderB (by (with_reducible repeat (first | apply Kd.V_alloc | apply Kd.V_drewN | apply Kd.V_drew)); exact HO0_5.out) gb199 (Nat.le_of_eq hg.symm)) hb); have n1_ := Aside0.mk (Kd.V_below (Kd.V_elderB (by (with_reducible repeat (first | apply Kd.V_alloc | apply Kd.V_drewN | apply Kd.V_drew)); exact HO0_6.out) gb199 (Nat.le_of_eq hg.symm)) hb); have n2_ := Aside0.mk (Kd.V_below (Kd.V_elderB (by (with_reducible repeat (first | apply Kd.V_alloc | apply Kd.V_drewN | apply Kd.V_drew)); exact HO0_7.out) gb199 (Nat.le_of_eq hg.symm)) hb); have n3_ := Aside0.mk (below_step be hb); have n4_ := Aside0.mk (hbox); have n5_ := gs hg HB; have n6_ := n5_; clear HO0_5; clear HO0_6; clear HO0_7; clear HB; have HO0_5 := n0_; have HO0_6 := n1_; have HO0_7 := n2_; have HB := n3_; have BK199 := n4_; have GW199 := n5_; have GE199 := n6_; clear n0_ n1_ n2_ n3_ n4_ n5_ n6_; clear hb hbox hg; obtain ⟨hcz6_0, hcz6_1, hcz6_2, hcz6_3, hcz6_4, hcz6_5, hcz6_6, hcz6_7, hfz6_0, hfz6_1, hfz6_2, hfz6_3, hfz6_4, hfz6_5, hfz6_6, hfz6_7⟩ := bc8 BK199) | ((with_reducible refine gate_callee (f := 8) rfl ?_); refine goesL_ (some 13) rfl rfl Try.func8 kx rfl #[.int .i64 a0_0, .int .i64 1, .int .i64 4] rfl aa ?_; (with_reducible refine (ephemerisref1_In.calls a0_0 1 4 true _ A2.out).mono ?_); rintro e w' ⟨rfl, ⟨nd, rfl⟩⟩; refine ⟨_, rfl, ?_⟩))
  (try simp only [Act.put, List.setIfInBounds_toArray, List.set_cons_zero, List.set_cons_succ])
  go_cut [43] (fun v43 wc => ∃ (kq : Nat) (x43_3 : Bool), v43 = .bool x43_3 ∧ Aside0 (ephemerisref1_RecurError.j0 kq x43_3 a0_0 a0_1 a0_2 a0_3 a0_4 l0_5 l0_6 l0_7 = some r) ∧ Aside0 (kq ≤ k) ∧ Aside0 (Kd.V (Kd.int .i64) 3 wc w.heap.size (fun k_ => ((P0_5_ k_ ∨ P0_6_ k_ ∨ P0_7_ k_) ∨ w.heap.size ≤ k_) ∧ k_ ≠ gb199) (.slice A0_5 l0_5.length c0_5) l0_5) ∧ Aside0 (Kd.V (Kd.int .i64) 3 wc w.heap.size (fun k_ => ((P0_5_ k_ ∨ P0_6_ k_ ∨ P0_7_ k_) ∨ w.heap.size ≤ k_) ∧ k_ ≠ gb199) (.slice A0_6 l0_6.length c0_6) l0_6) ∧ Aside0 (Kd.V (Kd.int .i64) 3 wc w.heap.size (fun k_ => ((P0_5_ k_ ∨ P0_6_ k_ ∨ P0_7_ k_) ∨ w.heap.size ≤ k_) ∧ k_ ≠ gb199) (.slice A0_7 l0_7.length c0_7) l0_7) ∧ Aside0 (wc.heap[gb199]? = some (.cells #[.int .i64 a0_0, .int .i64 a0_1, .int .i64 a0_2, .int .i64 a0_3, .int .i64 a0_4, (.slice A0_5 l0_5.length c0_5), (.slice A0_6 l0_6.length c0_6), (.slice A0_7 l0_7.length c0_7)] 64 (0, 0))) ∧ Aside0 (Below w.heap.size w wc))
  case first =>
   have H := HC4.out
   clear HC4
   replace H := Option.bind_eq_some_iff.mp H
   obtain ⟨t201, A70, H⟩ := H
   replace H : (if t201 = true then ((ephemerisref1_Day.f a0_2).bind fun t202 => (if t202 = true then ((ephemerisref1_Day.f a0_4).bind fun t203 => (if t203 = true then (if a0_4 < a0_2 then (ephemerisref1_RecurError.j0 k true a0_0 a0_1 a0_2 a0_3 a0_4 l0_5 l0_6 l0_7) else ((ephemerisref1_In.f a0_3 0 1000).bind fun t204 => (ephemerisref1_RecurError.j0 k (!t204) a0_0 a0_1 a0_2 a0_3 a0_4 l0_5 l0_6 l0_7))) else (ephemerisref1_RecurError.j0 k true a0_0 a0_1 a0_2 a0_3 a0_4 l0_5 l0_6 l0_7))) else (ephemerisref1_RecurError.j0 k true a0_0 a0_1 a0_2 a0_3 a0_4 l0_5 l0_6 l0_7))) else (ephemerisref1_RecurError.j0 k true a0_0 a0_1 a0_2 a0_3 a0_4 l0_5 l0_6 l0_7)) = some r := H
   have A7 := Aside0.mk A70
   clear A70
   by_cases c8 : t201 = true
   ·subst c8
    have H1 : ((ephemerisref1_Day.f a0_2).bind fun t202 => (if t202 = true then ((ephemerisref1_Day.f a0_4).bind fun t203 => (if t203 = true then (if a0_4 < a0_2 then (ephemerisref1_RecurError.j0 k true a0_0 a0_1 a0_2 a0_3 a0_4 l0_5 l0_6 l0_7) else ((ephemerisref1_In.f a0_3 0 1000).bind fun t204 => (ephemerisref1_RecurError.j0 k (!t204) a0_0 a0_1 a0_2 a0_3 a0_4 l0_5 l0_6 l0_7))) else (ephemerisref1_RecurError.j0 k true a0_0 a0_1 a0_2 a0_3 a0_4 l0_5 l0_6 l0_7))) else (ephemerisref1_RecurError.j0 k true a0_0 a0_1 a0_2 a0_3 a0_4 l0_5 l0_6 l0_7))) = some r := by rw [if_pos rfl] at H; exact H
    clear H
    have H := H1
    clear H1
    replace H := Option.bind_eq_some_iff.mp H
    obtain ⟨t202, A90, H⟩ := H
    replace H : (if t202 = true then ((ephemerisref1_Day.f a0_4).bind fun t203 => (if t203 = true then (if a0_4 < a0_2 then (ephemerisref1_RecurError.j0 k true a0_0 a0_1 a0_2 a0_3 a0_4 l0_5 l0_6 l0_7) else ((ephemerisref1_In.f a0_3 0 1000).bind fun t204 => (ephemerisref1_RecurError.j0 k (!t204) a0_0 a0_1 a0_2 a0_3 a0_4 l0_5 l0_6 l0_7))) else (ephemerisref1_RecurError.j0 k true a0_0 a0_1 a0_2 a0_3 a0_4 l0_5 l0_6 l0_7))) else (ephemerisref1_RecurError.j0 k true a0_0 a0_1 a0_2 a0_3 a0_4 l0_5 l0_6 l0_7)) = some r := H
    have A9 := Aside0.mk A90
    clear A90
    by_cases c10 : t202 = true
    ·subst c10
     have H1 : ((ephemerisref1_Day.f a0_4).bind fun t203 => (if t203 = true then (if a0_4 < a0_2 then (ephemerisref1_RecurError.j0 k true a0_0 a0_1 a0_2 a0_3 a0_4 l0_5 l0_6 l0_7) else ((ephemerisref1_In.f a0_3 0 1000).bind fun t204 => (ephemerisref1_RecurError.j0 k (!t204) a0_0 a0_1 a0_2 a0_3 a0_4 l0_5 l0_6 l0_7))) else (ephemerisref1_RecurError.j0 k true a0_0 a0_1 a0_2 a0_3 a0_4 l0_5 l0_6 l0_7))) = some r := by rw [if_pos rfl] at H; exact H
     clear H
     have H := H1
     clear H1
     replace H := Option.bind_eq_some_iff.mp H
     obtain ⟨t203, A110, H⟩ := H
     replace H : (if t203 = true then (if a0_4 < a0_2 then (ephemerisref1_RecurError.j0 k true a0_0 a0_1 a0_2 a0_3 a0_4 l0_5 l0_6 l0_7) else ((ephemerisref1_In.f a0_3 0 1000).bind fun t204 => (ephemerisref1_RecurError.j0 k (!t204) a0_0 a0_1 a0_2 a0_3 a0_4 l0_5 l0_6 l0_7))) else (ephemerisref1_RecurError.j0 k true a0_0 a0_1 a0_2 a0_3 a0_4 l0_5 l0_6 l0_7)) = some r := H
     have A11 := Aside0.mk A110
     clear A110
     by_cases c12 : t203 = true
     ·subst c12
      have H1 : (if a0_4 < a0_2 then (ephemerisref1_RecurError.j0 k true a0_0 a0_1 a0_2 a0_3 a0_4 l0_5 l0_6 l0_7) else ((ephemerisref1_In.f a0_3 0 1000).bind fun t204 => (ephemerisref1_RecurError.j0 k (!t204) a0_0 a0_1 a0_2 a0_3 a0_4 l0_5 l0_6 l0_7))) = some r := by rw [if_pos rfl] at H; exact H
      clear H
      have H := H1
      clear H1
      by_cases c13 : a0_4 < a0_2
      ·rw [if_pos c13] at H
       have c13b0 : decide (a0_4 < a0_2) = true := decide_eq_true c13
       clear c13
       (first | rw [c13b0] | (simp only [i64_w, i32_w]; rw [c13b0]) | skip)
       have H' := Aside0.mk H
       clear H
       obtain ⟨hcz14_0, hcz14_1, hcz14_2, hcz14_3, hcz14_4, hcz14_5, hcz14_6, hcz14_7, hfz14_0, hfz14_1, hfz14_2, hfz14_3, hfz14_4, hfz14_5, hfz14_6, hfz14_7⟩ := bc8 BK199
       go_wp2_with (first | ((with_reducible refine gate_callee (f := 8) rfl ?_); refine goesL_ (some 17) rfl rfl Try.func8 kx rfl #[.int .i64 a0_1, .int .i64 1, .int .i64 1000] rfl aa ?_; (with_reducible refine (ephemerisref1_In.calls a0_1 1 1000 true _ A7.out).mono ?_); rintro e w' ⟨rfl, ⟨nd, rfl⟩⟩; refine ⟨_, rfl, ?_⟩) | (go_at_call 46; (with_reducible refine (ephemerisref1_Day.calls a0_2 true _ A9.out).mono ?_); rintro e w' ⟨rfl, ⟨nd, rfl⟩⟩) | (go_at_call 46; (with_reducible refine (ephemerisref1_Day.calls a0_4 true _ A11.out).mono ?_); rintro e w' ⟨rfl, ⟨nd, rfl⟩⟩))
       go_meet
       case rel => exact ⟨_, (true), rs, H', ⟨by first | omega | exact Nat.le_refl _⟩, ⟨by (with_reducible repeat (first | apply Kd.V_alloc | apply Kd.V_drewN | apply Kd.V_drew)); exact HO0_5.out⟩, ⟨by (with_reducible repeat (first | apply Kd.V_alloc | apply Kd.V_drewN | apply Kd.V_drew)); exact HO0_6.out⟩, ⟨by (with_reducible repeat (first | apply Kd.V_alloc | apply Kd.V_drewN | apply Kd.V_drew)); exact HO0_7.out⟩, ⟨bk BK199⟩, ⟨be⟩⟩
      ·rw [if_neg c13] at H
       have c13b0 : decide (a0_4 < a0_2) = false := decide_eq_false c13
       clear c13
       (first | rw [c13b0] | (simp only [i64_w, i32_w]; rw [c13b0]) | skip)
       replace H := Option.bind_eq_some_iff.mp H
       obtain ⟨t204, A150, H⟩ := H
       replace H : (ephemerisref1_RecurError.j0 k (!t204) a0_0 a0_1 a0_2 a0_3 a0_4 l0_5 l0_6 l0_7) = some r := H
       have A15 := Aside0.mk A150
       clear A150
       have H' := Aside0.mk H
       clear H
       obtain ⟨hcz16_0, hcz16_1, hcz16_2, hcz16_3, hcz16_4, hcz16_5, hcz16_6, hcz16_7, hfz16_0, hfz16_1, hfz16_2, hfz16_3, hfz16_4, hfz16_5, hfz16_6, hfz16_7⟩ := bc8 BK199
       go_wp2_with (first | ((with_reducible refine gate_callee (f := 8) rfl ?_); refine goesL_ (some 17) rfl rfl Try.func8 kx rfl #[.int .i64 a0_1, .int .i64 1, .int .i64 1000] rfl aa ?_; (with_reducible refine (ephemerisref1_In.calls a0_1 1 1000 true _ A7.out).mono ?_); rintro e w' ⟨rfl, ⟨nd, rfl⟩⟩; refine ⟨_, rfl, ?_⟩) | (go_at_call 46; (with_reducible refine (ephemerisref1_Day.calls a0_2 true _ A9.out).mono ?_); rintro e w' ⟨rfl, ⟨nd, rfl⟩⟩) | (go_at_call 46; (with_reducible refine (ephemerisref1_Day.calls a0_4 true _ A11.out).mono ?_); rintro e w' ⟨rfl, ⟨nd, rfl⟩⟩) | (go_at_call 8; (with_reducible refine (ephemerisref1_In.calls a0_3 0 1000 t204 _ A15.out).mono ?_); rintro e w' ⟨rfl, ⟨nd, rfl⟩⟩))
       go_meet
       case rel => exact ⟨_, (!t204), rs, H', ⟨by first | omega | exact Nat.le_refl _⟩, ⟨by (with_reducible repeat (first | apply Kd.V_alloc | apply Kd.V_drewN | apply Kd.V_drew)); exact HO0_5.out⟩, ⟨by (with_reducible repeat (first | apply Kd.V_alloc | apply Kd.V_drewN | apply Kd.V_drew)); exact HO0_6.out⟩, ⟨by (with_reducible repeat (first | apply Kd.V_alloc | apply Kd.V_drewN | apply Kd.V_drew)); exact HO0_7.out⟩, ⟨bk BK199⟩, ⟨be⟩⟩
     ·replace c12 := Bool.eq_false_iff.mpr c12
      subst c12
      have H1 : (ephemerisref1_RecurError.j0 k true a0_0 a0_1 a0_2 a0_3 a0_4 l0_5 l0_6 l0_7) = some r := by rw [if_neg (show ¬ (false = true) by decide)] at H; exact H
      clear H
      have H := H1
      clear H1
      have H' := Aside0.mk H
      clear H
      obtain ⟨hcz17_0, hcz17_1, hcz17_2, hcz17_3, hcz17_4, hcz17_5, hcz17_6, hcz17_7, hfz17_0, hfz17_1, hfz17_2, hfz17_3, hfz17_4, hfz17_5, hfz17_6, hfz17_7⟩ := bc8 BK199
      go_wp2_with (first | ((with_reducible refine gate_callee (f := 8) rfl ?_); refine goesL_ (some 17) rfl rfl Try.func8 kx rfl #[.int .i64 a0_1, .int .i64 1, .int .i64 1000] rfl aa ?_; (with_reducible refine (ephemerisref1_In.calls a0_1 1 1000 true _ A7.out).mono ?_); rintro e w' ⟨rfl, ⟨nd, rfl⟩⟩; refine ⟨_, rfl, ?_⟩) | (go_at_call 46; (with_reducible refine (ephemerisref1_Day.calls a0_2 true _ A9.out).mono ?_); rintro e w' ⟨rfl, ⟨nd, rfl⟩⟩) | (go_at_call 46; (with_reducible refine (ephemerisref1_Day.calls a0_4 false _ A11.out).mono ?_); rintro e w' ⟨rfl, ⟨nd, rfl⟩⟩))
      go_meet
      case rel => exact ⟨_, (true), rs, H', ⟨by first | omega | exact Nat.le_refl _⟩, ⟨by (with_reducible repeat (first | apply Kd.V_alloc | apply Kd.V_drewN | apply Kd.V_drew)); exact HO0_5.out⟩, ⟨by (with_reducible repeat (first | apply Kd.V_alloc | apply Kd.V_drewN | apply Kd.V_drew)); exact HO0_6.out⟩, ⟨by (with_reducible repeat (first | apply Kd.V_alloc | apply Kd.V_drewN | apply Kd.V_drew)); exact HO0_7.out⟩, ⟨bk BK199⟩, ⟨be⟩⟩
    ·replace c10 := Bool.eq_false_iff.mpr c10
     subst c10
     have H1 : (ephemerisref1_RecurError.j0 k true a0_0 a0_1 a0_2 a0_3 a0_4 l0_5 l0_6 l0_7) = some r := by rw [if_neg (show ¬ (false = true) by decide)] at H; exact H
     clear H
     have H := H1
     clear H1
     have H' := Aside0.mk H
     clear H
     obtain ⟨hcz18_0, hcz18_1, hcz18_2, hcz18_3, hcz18_4, hcz18_5, hcz18_6, hcz18_7, hfz18_0, hfz18_1, hfz18_2, hfz18_3, hfz18_4, hfz18_5, hfz18_6, hfz18_7⟩ := bc8 BK199
     go_wp2_with (first | ((with_reducible refine gate_callee (f := 8) rfl ?_); refine goesL_ (some 17) rfl rfl Try.func8 kx rfl #[.int .i64 a0_1, .int .i64 1, .int .i64 1000] rfl aa ?_; (with_reducible refine (ephemerisref1_In.calls a0_1 1 1000 true _ A7.out).mono ?_); rintro e w' ⟨rfl, ⟨nd, rfl⟩⟩; refine ⟨_, rfl, ?_⟩) | (go_at_call 46; (with_reducible refine (ephemerisref1_Day.calls a0_2 false _ A9.out).mono ?_); rintro e w' ⟨rfl, ⟨nd, rfl⟩⟩))
     go_meet
     case rel => exact ⟨_, (true), rs, H', ⟨by first | omega | exact Nat.le_refl _⟩, ⟨by (with_reducible repeat (first | apply Kd.V_alloc | apply Kd.V_drewN | apply Kd.V_drew)); exact HO0_5.out⟩, ⟨by (with_reducible repeat (first | apply Kd.V_alloc | apply Kd.V_drewN | apply Kd.V_drew)); exact HO0_6.out⟩, ⟨by (with_reducible repeat (first | apply Kd.V_alloc | apply Kd.V_drewN | apply Kd.V_drew)); exact HO0_7.out⟩, ⟨bk BK199⟩, ⟨be⟩⟩
   ·replace c8 := Bool.eq_false_iff.mpr c8
    subst c8
    have H1 : (ephemerisref1_RecurError.j0 k true a0_0 a0_1 a0_2 a0_3 a0_4 l0_5 l0_6 l0_7) = some r := by rw [if_neg (show ¬ (false = true) by decide)] at H; exact H
    clear H
    have H := H1
    clear H1
    have H' := Aside0.mk H
    clear H
    obtain ⟨hcz19_0, hcz19_1, hcz19_2, hcz19_3, hcz19_4, hcz19_5, hcz19_6, hcz19_7, hfz19_0, hfz19_1, hfz19_2, hfz19_3, hfz19_4, hfz19_5, hfz19_6, hfz19_7⟩ := bc8 BK199
    go_wp2_with (first | ((with_reducible refine gate_callee (f := 8) rfl ?_); refine goesL_ (some 17) rfl rfl Try.func8 kx rfl #[.int .i64 a0_1, .int .i64 1, .int .i64 1000] rfl aa ?_; (with_reducible refine (ephemerisref1_In.calls a0_1 1 1000 false _ A7.out).mono ?_); rintro e w' ⟨rfl, ⟨nd, rfl⟩⟩; refine ⟨_, rfl, ?_⟩))
    go_meet
    case rel => exact ⟨_, (true), rs, H', ⟨by first | omega | exact Nat.le_refl _⟩, ⟨by (with_reducible repeat (first | apply Kd.V_alloc | apply Kd.V_drewN | apply Kd.V_drew)); exact HO0_5.out⟩, ⟨by (with_reducible repeat (first | apply Kd.V_alloc | apply Kd.V_drewN | apply Kd.V_drew)); exact HO0_6.out⟩, ⟨by (with_reducible repeat (first | apply Kd.V_alloc | apply Kd.V_drewN | apply Kd.V_drew)); exact HO0_7.out⟩, ⟨bk BK199⟩, ⟨be⟩⟩
  case rest =>
   clear HC4
   (try clear c1); (try clear p2); (try clear c3); (try clear c8); (try clear c10); (try clear c12); (try clear c13); (try clear c13b0); (try clear hcz14_0); (try clear hcz14_1); (try clear hcz14_2); (try clear hcz14_3); (try clear hcz14_4); (try clear hcz14_5); (try clear hcz14_6); (try clear hcz14_7); (try clear hcz16_0); (try clear hcz16_1); (try clear hcz16_2); (try clear hcz16_3); (try clear hcz16_4); (try clear hcz16_5); (try clear hcz16_6); (try clear hcz16_7); (try clear hcz17_0); (try clear hcz17_1); (try clear hcz17_2); (try clear hcz17_3); (try clear hcz17_4); (try clear hcz17_5); (try clear hcz17_6); (try clear hcz17_7); (try clear hcz18_0); (try clear hcz18_1); (try clear hcz18_2); (try clear hcz18_3); (try clear hcz18_4); (try clear hcz18_5); (try clear hcz18_6); (try clear hcz18_7); (try clear hcz19_0); (try clear hcz19_1); (try clear hcz19_2); (try clear hcz19_3); (try clear hcz19_4); (try clear hcz19_5); (try clear hcz19_6); (try clear hcz19_7); (try clear hcz6_0); (try clear hcz6_1); (try clear hcz6_2); (try clear hcz6_3); (try clear hcz6_4); (try clear hcz6_5); (try clear hcz6_6); (try clear hcz6_7); (try clear hfz14_0); (try clear hfz14_1); (try clear hfz14_2); (try clear hfz14_3); (try clear hfz14_4); (try clear hfz14_5); (try clear hfz14_6); (try clear hfz14_7); (try clear hfz16_0); (try clear hfz16_1); (try clear hfz16_2); (try clear hfz16_3); (try clear hfz16_4); (try clear hfz16_5); (try clear hfz16_6); (try clear hfz16_7); (try clear hfz17_0); (try clear hfz17_1); (try clear hfz17_2); (try clear hfz17_3); (try clear hfz17_4); (try clear hfz17_5); (try clear hfz17_6); (try clear hfz17_7); (try clear hfz18_0); (try clear hfz18_1); (try clear hfz18_2); (try clear hfz18_3); (try clear hfz18_4); (try clear hfz18_5); (try clear hfz18_6); (try clear hfz18_7); (try clear hfz19_0); (try clear hfz19_1); (try clear hfz19_2); (try clear hfz19_3); (try clear hfz19_4); (try clear hfz19_5); (try clear hfz19_6); (try clear hfz19_7); (try clear hfz6_0); (try clear hfz6_1); (try clear hfz6_2); (try clear hfz6_3); (try clear hfz6_4); (try clear hfz6_5); (try clear hfz6_6); (try clear hfz6_7)
   obtain ⟨kq, x43_3, rfl, HA, HJ3, HO_200005, HO_200006, HO_200007, BK199, HB⟩ := hcut
   cases kq with
   | zero => exact absurd HA.out (by simp [ephemerisref1_RecurError.j0])
   | succ kj3 =>
    have H := HA.out
    clear HA
    simp only [ephemerisref1_RecurError.j0] at H
    by_cases c20 : x43_3 = true
    ·subst c20
     have H1 : (some 3) = some r := by rw [if_pos rfl] at H; exact H
     clear H
     have H := H1
     clear H1
     obtain rfl := Option.some.inj H
     go_wp2
     go_ret
     exact ⟨by first | rfl | (simp [errW_none, errW_some] <;> rfl) | (simp [*, errW_none, errW_some] <;> rfl), be⟩
    ·replace c20 := Bool.eq_false_iff.mpr c20
     subst c20
     have H1 : ((some (([l0_5, l0_6, l0_7] : List (List Int)) : List (List Int))).bind fun y205 => (ephemerisref1_RecurError.l0 kj3 y205 (y205.length : Int) 0)) = some r := by rw [if_neg (show ¬ (false = true) by decide)] at H; exact H
     clear H
     have H := H1
     clear H1
     obtain ⟨y205, hy205⟩ : ∃ y_ : List (List Int), y_ = (([l0_5, l0_6, l0_7] : List (List Int))) := ⟨_, rfl⟩
     replace H : (ephemerisref1_RecurError.l0 kj3 y205 (y205.length : Int) 0) = some r := rp hy205 H
     have Ny205 := Aside0.mk hy205
     clear hy205
     have H' := Aside0.mk H
     clear H
     obtain ⟨hcz21_0, hcz21_1, hcz21_2, hcz21_3, hcz21_4, hcz21_5, hcz21_6, hcz21_7, hfz21_0, hfz21_1, hfz21_2, hfz21_3, hfz21_4, hfz21_5, hfz21_6, hfz21_7⟩ := bc8 BK199
     go_wp2_with (first | ((with_reducible refine gate_dst (N := 50) rfl ?_); refine Kd.N_lit (Kd.slice 3 (Kd.int .i64)) _ 53 ?hg (N' := 50) ?hd (xs := ([l0_5, l0_6, l0_7] : List (List Int))) (inner := [.slice A0_5 l0_5.length c0_5, .slice A0_6 l0_6.length c0_6, .slice A0_7 l0_7.length c0_7]) (ok := (fun k_ => ((P0_5_ k_ ∨ P0_6_ k_ ∨ P0_7_ k_) ∨ w.heap.size ≤ k_) ∧ k_ ≠ gb199)) (okp := (fun k_ => ((P0_5_ k_ ∨ P0_6_ k_ ∨ P0_7_ k_) ∨ w.heap.size ≤ k_) ∧ k_ ≠ gb199)) ?hr ?hp (fun _ hk => hk) ((show ∀ k_, wc.heap.size ≤ k_ → (fun k_ => ((P0_5_ k_ ∨ P0_6_ k_ ∨ P0_7_ k_) ∨ w.heap.size ≤ k_) ∧ k_ ≠ gb199) k_ from fun k_ hk => ⟨(.inr (Nat.le_trans (below_size be) hk)), Kd.freshB (g := gb199) (o := .cells #[.int .i64 a0_0, .int .i64 a0_1, .int .i64 a0_2, .int .i64 a0_3, .int .i64 a0_4, .slice A0_5 l0_5.length c0_5, .slice A0_6 l0_6.length c0_6, .slice A0_7 l0_7.length c0_7] 64 (0, 0)) (bk BK199) k_ hk⟩) _ (Nat.le_refl _)) (Below.refl _ _) (Nat.le_refl _) (by simp) ?_; (case hd => rfl); (case hg => rfl); (case hr => first | (go_simp; done) | (go_simp; rfl)); (case hp => exact (Reps.one (show Kd.FK (Kd.slice 3 (Kd.int .i64)) _ _ l0_5 [.slice A0_5 l0_5.length c0_5] from (Kd.FK_slice_mk (Kd.V_reads' (Kd.V_mono (ok' := (fun k_ => ((P0_5_ k_ ∨ P0_6_ k_ ∨ P0_7_ k_) ∨ w.heap.size ≤ k_) ∧ k_ ≠ gb199)) (HO_200005.out) (fun k_ hk => ⟨hk.1, hk.2⟩))).2.1 (Kd.V_F (Kd.V_mono (ok' := (fun k_ => ((P0_5_ k_ ∨ P0_6_ k_ ∨ P0_7_ k_) ∨ w.heap.size ≤ k_) ∧ k_ ≠ gb199)) (HO_200005.out) (fun k_ hk => ⟨hk.1, hk.2⟩))))) (Reps.one (show Kd.FK (Kd.slice 3 (Kd.int .i64)) _ _ l0_6 [.slice A0_6 l0_6.length c0_6] from (Kd.FK_slice_mk (Kd.V_reads' (Kd.V_mono (ok' := (fun k_ => ((P0_5_ k_ ∨ P0_6_ k_ ∨ P0_7_ k_) ∨ w.heap.size ≤ k_) ∧ k_ ≠ gb199)) (HO_200006.out) (fun k_ hk => ⟨hk.1, hk.2⟩))).2.1 (Kd.V_F (Kd.V_mono (ok' := (fun k_ => ((P0_5_ k_ ∨ P0_6_ k_ ∨ P0_7_ k_) ∨ w.heap.size ≤ k_) ∧ k_ ≠ gb199)) (HO_200006.out) (fun k_ hk => ⟨hk.1, hk.2⟩))))) (Reps.one (show Kd.FK (Kd.slice 3 (Kd.int .i64)) _ _ l0_7 [.slice A0_7 l0_7.length c0_7] from (Kd.FK_slice_mk (Kd.V_reads' (Kd.V_mono (ok' := (fun k_ => ((P0_5_ k_ ∨ P0_6_ k_ ∨ P0_7_ k_) ∨ w.heap.size ≤ k_) ∧ k_ ≠ gb199)) (HO_200007.out) (fun k_ hk => ⟨hk.1, hk.2⟩))).2.1 (Kd.V_F (Kd.V_mono (ok' := (fun k_ => ((P0_5_ k_ ∨ P0_6_ k_ ∨ P0_7_ k_) ∨ w.heap.size ≤ k_) ∧ k_ ≠ gb199)) (HO_200007.out) (fun k_ hk => ⟨hk.1, hk.2⟩))))) (Reps.none _ _))))); intro v206 w22 ho23 hb hg_ hnew_; clear hg_ hnew_; (first | rw [← Ny205.out] at ho23 | (simp only [Int.reduceToNat] at ho23; rw [← Ny205.out] at ho23)); have n0_ := Aside0.mk (Kd.V_elder' (by (with_reducible repeat (first | apply Kd.V_alloc | apply Kd.V_drewN | apply Kd.V_drew)); exact HO_200005.out) (Kd.N_base ho23) hb); have n1_ := Aside0.mk (Kd.V_elder' (by (with_reducible repeat (first | apply Kd.V_alloc | apply Kd.V_drewN | apply Kd.V_drew)); exact HO_200006.out) (Kd.N_base ho23) hb); have n2_ := Aside0.mk (Kd.V_elder' (by (with_reducible repeat (first | apply Kd.V_alloc | apply Kd.V_drewN | apply Kd.V_drew)); exact HO_200007.out) (Kd.N_base ho23) hb); have n3_ := Aside0.mk (Kd.N_lower ho23 (below_size be)); have n4_ := bb BK199 hb; have n5_ := Aside0.mk (below_step be hb); clear HO_200005; clear HO_200006; clear HO_200007; clear BK199; clear HB; have HO_200005 := n0_; have HO_200006 := n1_; have HO_200007 := n2_; have HO207 := n3_; have BK199 := n4_; have HB := n5_; clear n0_ n1_ n2_ n3_ n4_ n5_; clear hb ho23; obtain ⟨Ao24, co24, eo24⟩ := Kd.N_slice HO207.out; subst eo24))
     go_loopg [52] kj3 (fun kq v52 w' => ∃ (x52_2 : Int), v52 = .int .i64 x52_2 ∧ Aside0 (ephemerisref1_RecurError.l0 kq y205 (y205.length : Int) x52_2 = some r) ∧ Aside0 (kq ≤ kj3) ∧ Aside0 (Kd.N (Kd.slice 3 (Kd.int .i64)) 53 w' w.heap.size (fun k_ => ((P0_5_ k_ ∨ P0_6_ k_ ∨ P0_7_ k_) ∨ w.heap.size ≤ k_) ∧ k_ ≠ gb199) (.slice Ao24 y205.length co24) y205) ∧ Aside0 (Kd.V (Kd.int .i64) 3 w' w.heap.size (fun k_ => ((P0_5_ k_ ∨ P0_6_ k_ ∨ P0_7_ k_) ∨ w.heap.size ≤ k_) ∧ some k_ ≠ ((.slice Ao24 y205.length co24) : Value).ownBlock ∧ k_ ≠ gb199) (.slice A0_5 l0_5.length c0_5) l0_5) ∧ Aside0 (Kd.V (Kd.int .i64) 3 w' w.heap.size (fun k_ => ((P0_5_ k_ ∨ P0_6_ k_ ∨ P0_7_ k_) ∨ w.heap.size ≤ k_) ∧ some k_ ≠ ((.slice Ao24 y205.length co24) : Value).ownBlock ∧ k_ ≠ gb199) (.slice A0_6 l0_6.length c0_6) l0_6) ∧ Aside0 (Kd.V (Kd.int .i64) 3 w' w.heap.size (fun k_ => ((P0_5_ k_ ∨ P0_6_ k_ ∨ P0_7_ k_) ∨ w.heap.size ≤ k_) ∧ some k_ ≠ ((.slice Ao24 y205.length co24) : Value).ownBlock ∧ k_ ≠ gb199) (.slice A0_7 l0_7.length c0_7) l0_7) ∧ Aside0 (w'.heap[gb199]? = some (.cells #[.int .i64 a0_0, .int .i64 a0_1, .int .i64 a0_2, .int .i64 a0_3, .int .i64 a0_4, (.slice A0_5 l0_5.length c0_5), (.slice A0_6 l0_6.length c0_6), (.slice A0_7 l0_7.length c0_7)] 64 (0, 0))) ∧ Aside0 (Below w.heap.size w w'))
     case atStart => exact ⟨(0), rs, H', ⟨Nat.le_refl _⟩, ⟨by (with_reducible repeat (first | apply Kd.N_alloc | apply Kd.N_drewN | apply Kd.N_drew)); exact HO207.out⟩, ⟨by (with_reducible repeat (first | apply Kd.V_alloc | apply Kd.V_drewN | apply Kd.V_drew)); exact Kd.V_mono HO_200005.out (fun _ hk => ⟨hk.1.1, ⟨hk.2, hk.1.2⟩⟩)⟩, ⟨by (with_reducible repeat (first | apply Kd.V_alloc | apply Kd.V_drewN | apply Kd.V_drew)); exact Kd.V_mono HO_200006.out (fun _ hk => ⟨hk.1.1, ⟨hk.2, hk.1.2⟩⟩)⟩, ⟨by (with_reducible repeat (first | apply Kd.V_alloc | apply Kd.V_drewN | apply Kd.V_drew)); exact Kd.V_mono HO_200007.out (fun _ hk => ⟨hk.1.1, ⟨hk.2, hk.1.2⟩⟩)⟩, ⟨bk BK199⟩, ⟨be⟩⟩
     case round =>
      clear H'
      (try clear c1); (try clear c2); (try clear p2); (try clear c3); (try clear c8); (try clear c10); (try clear c12); (try clear c13); (try clear c13b0); (try clear c20); (try clear hcz14_0); (try clear hcz14_1); (try clear hcz14_2); (try clear hcz14_3); (try clear hcz14_4); (try clear hcz14_5); (try clear hcz14_6); (try clear hcz14_7); (try clear hcz16_0); (try clear hcz16_1); (try clear hcz16_2); (try clear hcz16_3); (try clear hcz16_4); (try clear hcz16_5); (try clear hcz16_6); (try clear hcz16_7); (try clear hcz17_0); (try clear hcz17_1); (try clear hcz17_2); (try clear hcz17_3); (try clear hcz17_4); (try clear hcz17_5); (try clear hcz17_6); (try clear hcz17_7); (try clear hcz18_0); (try clear hcz18_1); (try clear hcz18_2); (try clear hcz18_3); (try clear hcz18_4); (try clear hcz18_5); (try clear hcz18_6); (try clear hcz18_7); (try clear hcz19_0); (try clear hcz19_1); (try clear hcz19_2); (try clear hcz19_3); (try clear hcz19_4); (try clear hcz19_5); (try clear hcz19_6); (try clear hcz19_7); (try clear hcz21_0); (try clear hcz21_1); (try clear hcz21_2); (try clear hcz21_3); (try clear hcz21_4); (try clear hcz21_5); (try clear hcz21_6); (try clear hcz21_7); (try clear hcz6_0); (try clear hcz6_1); (try clear hcz6_2); (try clear hcz6_3); (try clear hcz6_4); (try clear hcz6_5); (try clear hcz6_6); (try clear hcz6_7); (try clear hfz14_0); (try clear hfz14_1); (try clear hfz14_2); (try clear hfz14_3); (try clear hfz14_4); (try clear hfz14_5); (try clear hfz14_6); (try clear hfz14_7); (try clear hfz16_0); (try clear hfz16_1); (try clear hfz16_2); (try clear hfz16_3); (try clear hfz16_4); (try clear hfz16_5); (try clear hfz16_6); (try clear hfz16_7); (try clear hfz17_0); (try clear hfz17_1); (try clear hfz17_2); (try clear hfz17_3); (try clear hfz17_4); (try clear hfz17_5); (try clear hfz17_6); (try clear hfz17_7); (try clear hfz18_0); (try clear hfz18_1); (try clear hfz18_2); (try clear hfz18_3); (try clear hfz18_4); (try clear hfz18_5); (try clear hfz18_6); (try clear hfz18_7); (try clear hfz19_0); (try clear hfz19_1); (try clear hfz19_2); (try clear hfz19_3); (try clear hfz19_4); (try clear hfz19_5); (try clear hfz19_6); (try clear hfz19_7); (try clear hfz21_0); (try clear hfz21_1); (try clear hfz21_2); (try clear hfz21_3); (try clear hfz21_4); (try clear hfz21_5); (try clear hfz21_6); (try clear hfz21_7); (try clear hfz6_0); (try clear hfz6_1); (try clear hfz6_2); (try clear hfz6_3); (try clear hfz6_4); (try clear hfz6_5); (try clear hfz6_6); (try clear hfz6_7); (try clear p2)
      obtain ⟨x52_2, rfl, HA, HK2, HO_50, HO_200005, HO_200006, HO_200007, BK199, HB⟩ := hrel
      cases gk with
      | zero => exact absurd HA.out (by simp [ephemerisref1_RecurError.l0])
      | succ k2 =>
       have H := HA.out
       clear HA
       simp only [ephemerisref1_RecurError.l0] at H
       by_cases c25 : x52_2 < (y205.length : Int)
       ·rw [if_pos c25] at H
        have c25b0 : decide (x52_2 < (y205.length : Int)) = true := decide_eq_true c25
        clear c25
        by_cases c26 : 0 ≤ x52_2
        ·rw [if_pos c26] at H
         have c26b0 : decide (0 ≤ x52_2) = true := decide_eq_true c26
         clear c26
         by_cases c27 : x52_2 < (y205.length : Int)
         ·rw [if_pos c27] at H
          have c27b0 : decide (x52_2 < (y205.length : Int)) = true := decide_eq_true c27
          clear c27
          by_cases c28 : ((rd_L1 y205 x52_2).length : Int) > 31
          ·rw [if_pos c28] at H
           have c28b0 : decide (31 < ((rd_L1 y205 x52_2).length : Int)) = true := decide_eq_true c28
           have c28b1 : decide (31 < (rd_L1 y205 x52_2).length) = true := decide_eq_true (by omega)
           clear c28
           obtain rfl := Option.some.inj H
           have p208 : 0 ≤ (x52_2 : Int) := of_decide_eq_true ka
           have q208 : x52_2 < (y205.length : Int) := of_decide_eq_true ka
           obtain ⟨ad208, A208_0, c208_0, e208, hx208_0, hl208_0, hi208_0⟩ := at_L1 (Kd.N_reads' HO_50.out).2.2 x52_2 p208 q208
           cases e208
           obtain ⟨ce208, hce208, hMe208, hcc208⟩ := Kd.N_get HO_50.out [] x52_2 p208 (by first | exact q208 | exact of_decide_eq_true ka | (have e_ := (Kd.N_reads' HO_50.out).1; omega))
           obtain ⟨ua208_0, uc208_0, rfl, ul208_0, ge208_0⟩ := Kd.FK_slice_open hMe208
           have hv208_0 := hcc208 0 _ rfl
           rw [Nat.add_zero, show ((Kd.slice 3 (Kd.int .i64))).sz = 1 from rfl, Nat.mul_one] at hv208_0
           replace hv208_0 := Option.some.inj (hv208_0.symm.trans hx208_0)
           injection hv208_0 with hva_ hvn_ hvc_
           rw [hva_] at ge208_0
           rw [hvc_] at ul208_0
           have HL208_0 := Aside0.mk (show Kd.V (Kd.int .i64) 3 _ w.heap.size _ _ (rd_L1 y205 x52_2) from Kd.V_mk ul208_0 ge208_0)
           clear hva_ hvn_ hvc_ ge208_0 ul208_0
           clear hcc208 hce208
           have HR208_0 := Aside0.mk hi208_0
           have HC208_0 := Aside0.mk hl208_0
           clear hi208_0 hl208_0
           replace p208 := eq_true p208
           replace q208 := eq_true q208
           go_wp2
           go_ret
           exact ⟨by first | rfl | (simp [errW_none, errW_some] <;> rfl) | (simp [*, errW_none, errW_some] <;> rfl), be⟩
          ·rw [if_neg c28] at H
           have c28b0 : decide (31 < ((rd_L1 y205 x52_2).length : Int)) = false := decide_eq_false c28
           have c28b1 : decide (31 < (rd_L1 y205 x52_2).length) = false := decide_eq_false (by omega)
           clear c28
           obtain ⟨y209, hy209⟩ : ∃ y_ : List Int, y_ = (([0, (-31), 1] : List Int)) := ⟨_, rfl⟩
           replace H : (if x52_2 < (y209.length : Int) then ((some (([6, 31, 12] : List Int) : List Int)).bind fun y213 => (if x52_2 < (y213.length : Int) then (ephemerisref1_RecurError.l1 k2 x52_2 (rd_L1 y205 x52_2) (rd y209 x52_2) (rd y213 x52_2) y205 (y205.length : Int) x52_2 (rd_L1 y205 x52_2) ((rd_L1 y205 x52_2).length : Int) 0) else (none))) else (none)) = some r := rp hy209 H
           have Ny209 := Aside0.mk hy209
           clear hy209
           by_cases c29 : x52_2 < (y209.length : Int)
           ·rw [if_pos c29] at H
            have c29b0 : decide (x52_2 < (y209.length : Int)) = true := decide_eq_true c29
            clear c29
            obtain ⟨y213, hy213⟩ : ∃ y_ : List Int, y_ = (([6, 31, 12] : List Int)) := ⟨_, rfl⟩
            replace H : (if x52_2 < (y213.length : Int) then (ephemerisref1_RecurError.l1 k2 x52_2 (rd_L1 y205 x52_2) (rd y209 x52_2) (rd y213 x52_2) y205 (y205.length : Int) x52_2 (rd_L1 y205 x52_2) ((rd_L1 y205 x52_2).length : Int) 0) else (none)) = some r := rp hy213 H
            have Ny213 := Aside0.mk hy213
            clear hy213
            by_cases c30 : x52_2 < (y213.length : Int)
            ·rw [if_pos c30] at H
             have c30b0 : decide (x52_2 < (y213.length : Int)) = true := decide_eq_true c30
             clear c30
             have H' := Aside0.mk H
             clear H
             have p208 : 0 ≤ (x52_2 : Int) := of_decide_eq_true ka
             have q208 : x52_2 < (y205.length : Int) := of_decide_eq_true ka
             obtain ⟨ad208, A208_0, c208_0, e208, hx208_0, hl208_0, hi208_0⟩ := at_L1 (Kd.N_reads' HO_50.out).2.2 x52_2 p208 q208
             cases e208
             obtain ⟨ce208, hce208, hMe208, hcc208⟩ := Kd.N_get HO_50.out [] x52_2 p208 (by first | exact q208 | exact of_decide_eq_true ka | (have e_ := (Kd.N_reads' HO_50.out).1; omega))
             obtain ⟨ua208_0, uc208_0, rfl, ul208_0, ge208_0⟩ := Kd.FK_slice_open hMe208
             have hv208_0 := hcc208 0 _ rfl
             rw [Nat.add_zero, show ((Kd.slice 3 (Kd.int .i64))).sz = 1 from rfl, Nat.mul_one] at hv208_0
             replace hv208_0 := Option.some.inj (hv208_0.symm.trans hx208_0)
             injection hv208_0 with hva_ hvn_ hvc_
             rw [hva_] at ge208_0
             rw [hvc_] at ul208_0
             have HL208_0 := Aside0.mk (show Kd.V (Kd.int .i64) 3 _ w.heap.size _ _ (rd_L1 y205 x52_2) from Kd.V_mk ul208_0 ge208_0)
             clear hva_ hvn_ hvc_ ge208_0 ul208_0
             clear hcc208 hce208
             have HR208_0 := Aside0.mk hi208_0
             have HC208_0 := Aside0.mk hl208_0
             clear hi208_0 hl208_0
             replace p208 := eq_true p208
             replace q208 := eq_true q208
             try go_wp2
             have pi212 : (0 ≤ (x52_2 : Int)) = True := eq_true (of_decide_eq_true ka)
             have qi212 : (x52_2 < (y209.length : Int)) = True := eq_true (of_decide_eq_true ka)
             have pi216 : (0 ≤ (x52_2 : Int)) = True := eq_true (of_decide_eq_true ka)
             have qi216 : (x52_2 < (y213.length : Int)) = True := eq_true (of_decide_eq_true ka)
             have n0_ := Aside0.mk (Kd.N_drew HO_50.out)
             have n1_ := Aside0.mk (Kd.V_drew HO_200005.out)
             have n2_ := Aside0.mk (Kd.V_drew HO_200006.out)
             have n3_ := Aside0.mk (Kd.V_drew HO_200007.out)
             have n4_ := Aside0.mk (Kd.V_drew HL208_0.out)
             have n5_ := Aside0.mk (blk_drew BK199.out)
             have n6_ := Aside0.mk (Kd.C_drew HR208_0.out)
             have n7_ := Aside0.mk (below_drew1 HB.out)
             clear HO_50
             clear HO_200005
             clear HO_200006
             clear HO_200007
             clear HL208_0
             clear BK199
             clear HR208_0
             clear HB
             have HO_50 := n0_
             have HO_200005 := n1_
             have HO_200006 := n2_
             have HO_200007 := n3_
             have HL208_0 := n4_
             have BK199 := n5_
             have HR208_0 := n6_
             have HB := n7_
             clear n0_ n1_ n2_ n3_ n4_ n5_ n6_ n7_
             refine start_ (n := 10) (S := fun w' => True) (ds := []) #[false, false, false, false, false, false, false, false, false, false] kx rfl rfl trivial (fun hHeld => ?_); refine with_tabW ephemerisref1_RecurError.tab10 ephemerisref1_RecurError.bits10 (fun HT_ HW_ => ?_)
             generalize wr.drew = w31 at HO_50 HO_200005 HO_200006 HO_200007 HL208_0 BK199 HR208_0 HB hHeld ⊢
             refine pure_ (i := 1) (N := some 61) (v := ?_) (a' := ?_) #[false, true, false, false, false, false, false, false, false, false] rfl rfl (any_of HT_.out kx) (fun _ _ _ h => h) (Or.inl ⟨by rfl, ?_⟩) ?_ ?_
             rotate_left
             ·intro w'
              go_simp
              with_reducible rfl
             rotate_left
             ·simp only [Act.put, List.setIfInBounds_toArray, List.set_cons_zero, List.set_cons_succ, i64_w, i32_w]
              rfl
             refine pure_ (i := 5) (N := some 65) (v := ?_) (a' := ?_) #[false, true, false, false, false, true, false, false, false, false] rfl rfl (any_of HT_.out kx) (fun _ _ _ h => h) (Or.inl ⟨by rfl, ?_⟩) ?_ ?_
             rotate_left
             ·intro w'
              go_simp
              with_reducible rfl
             rotate_left
             ·simp only [Act.put, List.setIfInBounds_toArray, List.set_cons_zero, List.set_cons_succ, i64_w, i32_w]
              rfl
             refine inv_at [0, 2, 3, 4, 6, 7, 8, 9] (fun a0_ b a w' => ∃ (v210 : Value) (adz_v210 : Addr) (v214 : Value) (adz_v214 : Addr) (m2_ : Value) (m6_ : Value), a = putSel a0_ b [(0, 60, v210), (2, 62, m2_), (3, 63, .int .i64 (rd y209 x52_2)), (4, 64, v214), (6, 66, m6_), (7, 67, .int .i64 (rd y213 x52_2)), (8, 5, .int .i64 (rd y209 x52_2)), (9, 6, .int .i64 (rd y213 x52_2))] ∧ (Kd.V (Kd.int .i64) 3 w' w.heap.size (fun k_ => ((P0_5_ k_ ∨ P0_6_ k_ ∨ P0_7_ k_) ∨ w.heap.size ≤ k_) ∧ some k_ ≠ (.slice (some ad208) y205.length co24 : Value).ownBlock ∧ k_ ≠ gb199) (.slice A208_0 (rd_L1 y205 x52_2).length c208_0) (rd_L1 y205 x52_2)) ∧ (Kd.V (Kd.int .i64) 3 w' w.heap.size (fun k_ => ((P0_5_ k_ ∨ P0_6_ k_ ∨ P0_7_ k_) ∨ w.heap.size ≤ k_) ∧ some k_ ≠ (.slice (some ad208) y205.length co24 : Value).ownBlock ∧ k_ ≠ gb199) (.slice A0_5 l0_5.length c0_5) l0_5) ∧ (Kd.V (Kd.int .i64) 3 w' w.heap.size (fun k_ => ((P0_5_ k_ ∨ P0_6_ k_ ∨ P0_7_ k_) ∨ w.heap.size ≤ k_) ∧ some k_ ≠ (.slice (some ad208) y205.length co24 : Value).ownBlock ∧ k_ ≠ gb199) (.slice A0_6 l0_6.length c0_6) l0_6) ∧ (Kd.V (Kd.int .i64) 3 w' w.heap.size (fun k_ => ((P0_5_ k_ ∨ P0_6_ k_ ∨ P0_7_ k_) ∨ w.heap.size ≤ k_) ∧ some k_ ≠ (.slice (some ad208) y205.length co24 : Value).ownBlock ∧ k_ ≠ gb199) (.slice A0_7 l0_7.length c0_7) l0_7) ∧ (Kd.N (Kd.slice 3 (Kd.int .i64)) 53 w' w.heap.size (fun k_ => ((P0_5_ k_ ∨ P0_6_ k_ ∨ P0_7_ k_) ∨ w.heap.size ≤ k_) ∧ k_ ≠ gb199) (.slice (some ad208) y205.length co24) y205) ∧ (w'.heap[gb199]? = some (.cells #[.int .i64 a0_0, .int .i64 a0_1, .int .i64 a0_2, .int .i64 a0_3, .int .i64 a0_4, .slice A0_5 l0_5.length c0_5, .slice A0_6 l0_6.length c0_6, .slice A0_7 l0_7.length c0_7] 64 (0, 0))) ∧ (Below w.heap.size w w') ∧ (b 0 = true → Kd.R (Kd.int .i64) 3 w' w.heap.size (fun k_ => (w.heap.size ≤ k_)) v210 y209) ∧ (b 0 = true → ∃ c_, (v210 : Value) = .slice (some adz_v210) y209.length c_) ∧ (b 4 = true → Kd.R (Kd.int .i64) 3 w' w.heap.size (fun k_ => (w.heap.size ≤ k_)) v214 y213) ∧ (b 4 = true → ∃ c_, (v214 : Value) = .slice (some adz_v214) y213.length c_) ∧ (b 2 = true → (m2_ : Value) = .pointer (some (adz_v210.add (x52_2).toNat))) ∧ (b 6 = true → (m6_ : Value) = .pointer (some (adz_v214.add (x52_2).toNat)))) HT_.out HW_.out kx kx ?_ ?_ ?_
             ·exact ⟨.bool false, ⟨0, 0, none⟩, .bool false, ⟨0, 0, none⟩, .bool false, .bool false, by simp only [putSel, Bool.false_eq_true, if_false], (Kd.V_mono HL208_0.out (fun _ h => ⟨h.1.1, h.2, h.1.2⟩)), HO_200005.out, HO_200006.out, HO_200007.out, HO_50.out, BK199.out, HB.out, fun h_ => absurd h_ (by decide), fun h_ => absurd h_ (by decide), fun h_ => absurd h_ (by decide), fun h_ => absurd h_ (by decide), fun h_ => absurd h_ (by decide), fun h_ => absurd h_ (by decide)⟩
             ·skip
              clear BK199 HB HL208_0 HO_200005 HO_200006 HO_200007 HO_50
              refine steps_cons ?_ ?_
              ·rintro b a w' ⟨v210, adz_v210, v214, adz_v214, m2_, m6_, ha, Q_HL208_0, Q_HO_200005, Q_HO_200006, Q_HO_200007, Q_HO_50, Q_BK199, Q_HB, Q_HO211, Q_HA_HO211, Q_HO215, Q_HA_HO215, Q_X2_, Q_X6_⟩ hb_ hon hoff
               refine ⟨_, rfl, fun K hK => ?_⟩
               replace ha := Aside0.mk ha
               have HL208_0 := Aside0.mk Q_HL208_0
               have HR208_0 := Aside0.mk (Kd.V_reads' HL208_0.out).2.2
               have HO_200005 := Aside0.mk Q_HO_200005
               have HO_200006 := Aside0.mk Q_HO_200006
               have HO_200007 := Aside0.mk Q_HO_200007
               have HO_50 := Aside0.mk Q_HO_50
               have BK199 := Aside0.mk Q_BK199
               have HB := Aside0.mk Q_HB
               refine Kd.R_lit_step (Kd.int .i64) _ 3 ?hg (N := 60) ?hd (xs := ([0, (-31), 1] : List Int)) (inner := [.int .i64 0, .int .i64 (-31), .int .i64 1]) (ok := fun _ => True) (okp := fun _ => True) ?hr ?hp (fun _ hk => hk) trivial (Below.refl _ _) (Nat.le_refl _) (by simp) ?_; (case hd => rfl); (case hg => rfl); (case hr => first | (go_simp; done) | (go_simp; rfl)); (case hp => exact (Reps.one (show Kd.M (Kd.int .i64) _ _ _ 0 [.int .i64 0] from rfl) (Reps.one (show Kd.M (Kd.int .i64) _ _ _ (-31) [.int .i64 (-31)] from rfl) (Reps.one (show Kd.M (Kd.int .i64) _ _ _ 1 [.int .i64 1] from rfl) (Reps.none _ _)))))
               intro v210 w32 ho33 hb hg_ hnew_
               clear hg_ hnew_
               (first | rw [← Ny209.out] at ho33 | (simp only [Int.reduceToNat] at ho33; rw [← Ny209.out] at ho33))
               have n0_ := Aside0.mk (Kd.N_elder' (by (with_reducible repeat (first | apply Kd.N_alloc | apply Kd.N_drewN | apply Kd.N_drew)); exact HO_50.out) (Kd.R_base ho33) hb)
               have n1_ := Aside0.mk (Kd.V_elder' (by (with_reducible repeat (first | apply Kd.V_alloc | apply Kd.V_drewN | apply Kd.V_drew)); exact HO_200005.out) (Kd.R_base ho33) hb)
               have n2_ := Aside0.mk (Kd.V_elder' (by (with_reducible repeat (first | apply Kd.V_alloc | apply Kd.V_drewN | apply Kd.V_drew)); exact HO_200006.out) (Kd.R_base ho33) hb)
               have n3_ := Aside0.mk (Kd.V_elder' (by (with_reducible repeat (first | apply Kd.V_alloc | apply Kd.V_drewN | apply Kd.V_drew)); exact HO_200007.out) (Kd.R_base ho33) hb)
               have n4_ := Aside0.mk (Kd.V_elder' (by (with_reducible repeat (first | apply Kd.V_alloc | apply Kd.V_drewN | apply Kd.V_drew)); exact HL208_0.out) (Kd.R_base ho33) hb)
               have n5_ := Aside0.mk (Kd.R_lower (Kd.R_newM (M := fun k_ => (w.heap.size ≤ k_)) ho33 (below_size be) (fun k_ h_ => h_)) (below_size be))
               have n6_ := bb BK199 hb
               have n7_ := Aside0.mk (Kd.C_below (by repeat (first | (with_reducible exact HR208_0.out) | (with_reducible refine Kd.C_alloc ?_ _) | (with_reducible refine Kd.C_drewN ?_ _) | (with_reducible refine Kd.C_drew ?_) | exact HR208_0.out)) hb)
               have n8_ := Aside0.mk (below_step be hb)
               have z_HO215 := fun (h0_ : b 4 = true) => (show Kd.R (Kd.int .i64) 3 w32 w.heap.size (fun k_ => (w.heap.size ≤ k_)) v214 y213 from by first | exact (Kd.R_elder' (by (with_reducible repeat (first | apply Kd.R_alloc | apply Kd.R_drewN | apply Kd.R_drew)); exact (Q_HO215 h0_)) (Kd.R_base ho33) hb) | exact Kd.R_mono (Kd.R_elder' (by (with_reducible repeat (first | apply Kd.R_alloc | apply Kd.R_drewN | apply Kd.R_drew)); exact (Q_HO215 h0_)) (Kd.R_base ho33) hb) (fun _ h_ => by first | trivial | exact h_ | exact h_.1))
               clear HO_50
               clear HO_200005
               clear HO_200006
               clear HO_200007
               clear HL208_0
               clear BK199
               clear HR208_0
               clear HB
               have HO_50 := n0_
               have HO_200005 := n1_
               have HO_200006 := n2_
               have HO_200007 := n3_
               have HL208_0 := n4_
               have HO211 := n5_
               have BK199 := n6_
               have HR208_0 := n7_
               have HB := n8_
               clear n0_ n1_ n2_ n3_ n4_ n5_ n6_ n7_ n8_
               clear hb ho33
               obtain ⟨Ao34, co34, eo34⟩ := Kd.R_slice HO211.out
               subst eo34
               obtain ⟨ado34, fo34, _⟩ := Kd.at_int (Kd.R_reads' HO211.out).2.2 0 (by decide) (by rw [Ny209.out]; simp)
               cases fo34
               refine hK.out _ _ ⟨.slice (some ado34) y209.length co34, ado34, v214, adz_v214, m2_, m6_, (by rw [ha.out]; exact putSel_upk 0 hb_ rfl rfl rfl), (by (with_reducible repeat (first | apply Kd.V_alloc | apply Kd.V_drewN | apply Kd.V_drew)); exact Kd.V_mono HL208_0.out (fun _ hk => hk.1)), (by (with_reducible repeat (first | apply Kd.V_alloc | apply Kd.V_drewN | apply Kd.V_drew)); exact Kd.V_mono HO_200005.out (fun _ hk => hk.1)), (by (with_reducible repeat (first | apply Kd.V_alloc | apply Kd.V_drewN | apply Kd.V_drew)); exact Kd.V_mono HO_200006.out (fun _ hk => hk.1)), (by (with_reducible repeat (first | apply Kd.V_alloc | apply Kd.V_drewN | apply Kd.V_drew)); exact Kd.V_mono HO_200007.out (fun _ hk => hk.1)), (by (with_reducible repeat (first | apply Kd.N_alloc | apply Kd.N_drewN | apply Kd.N_drew)); exact Kd.N_mono HO_50.out (fun _ hk => hk.1)), (bk BK199), be, fun _ => (by (with_reducible repeat (first | apply Kd.R_alloc | apply Kd.R_drewN | apply Kd.R_drew)); exact Kd.R_mono HO211.out (fun _ hk => hk.1)), fun _ => ⟨_, rfl⟩, z_HO215, Q_HA_HO215, fun h0_ => absurd ((hoff 2 kx).symm.trans h0_) (by decide), Q_X6_⟩
              refine steps_cons ?_ ?_
              ·rintro b a w' ⟨v210, adz_v210, v214, adz_v214, m2_, m6_, ha, Q_HL208_0, Q_HO_200005, Q_HO_200006, Q_HO_200007, Q_HO_50, Q_BK199, Q_HB, Q_HO211, Q_HA_HO211, Q_HO215, Q_HA_HO215, Q_X2_, Q_X6_⟩ hb_ hon hoff
               refine ⟨_, rfl, fun K hK => ?_⟩
               have e60 : a.tmps[60]? = some (v210) := by rw [ha]; exact putSel_on (e := (0, 60, v210)) 0 rfl rfl (hon 0 kx) rfl
               have e61 : a.tmps[61]? = some (.int .i64 x52_2) := by rw [ha]; exact (putSel_off rfl).trans rfl
               replace ha := Aside0.mk ha
               have HL208_0 := Aside0.mk Q_HL208_0
               have HR208_0 := Aside0.mk (Kd.V_reads' HL208_0.out).2.2
               have HO_200005 := Aside0.mk Q_HO_200005
               have HO_200006 := Aside0.mk Q_HO_200006
               have HO_200007 := Aside0.mk Q_HO_200007
               have HO_50 := Aside0.mk Q_HO_50
               have BK199 := Aside0.mk Q_BK199
               have HB := Aside0.mk Q_HB
               have HO211 := Aside0.mk (Q_HO211 (hon 0 kx))
               have HA_HO211 := Aside0.mk (Q_HA_HO211 (hon 0 kx))
               obtain ⟨c_, hv_⟩ := HA_HO211.out
               rw [hv_] at e60
               refine value_ (w1 := w') (v := .pointer (some (adz_v210.add (x52_2).toNat))) (by rfl) rfl ?_ ?_
               ·go_simp
                (try simp only [i64_w])
                try rfl
               refine hK.out _ _ ⟨v210, adz_v210, v214, adz_v214, (.pointer (some (adz_v210.add (x52_2).toNat))), m6_, (by rw [ha.out]; exact putSel_upk 1 hb_ rfl rfl rfl), Q_HL208_0, Q_HO_200005, Q_HO_200006, Q_HO_200007, Q_HO_50, Q_BK199, Q_HB, Q_HO211, Q_HA_HO211, Q_HO215, Q_HA_HO215, fun _ => rfl, Q_X6_⟩
              refine steps_cons ?_ ?_
              ·rintro b a w' ⟨v210, adz_v210, v214, adz_v214, m2_, m6_, ha, Q_HL208_0, Q_HO_200005, Q_HO_200006, Q_HO_200007, Q_HO_50, Q_BK199, Q_HB, Q_HO211, Q_HA_HO211, Q_HO215, Q_HA_HO215, Q_X2_, Q_X6_⟩ hb_ hon hoff
               refine ⟨_, rfl, fun K hK => ?_⟩
               have e62 : a.tmps[62]? = some (m2_) := by rw [ha]; exact putSel_on (e := (2, 62, m2_)) 1 rfl rfl (hon 2 kx) rfl
               rw [Q_X2_ (hon 2 kx)] at e62
               replace ha := Aside0.mk ha
               have HL208_0 := Aside0.mk Q_HL208_0
               have HR208_0 := Aside0.mk (Kd.V_reads' HL208_0.out).2.2
               have HO_200005 := Aside0.mk Q_HO_200005
               have HO_200006 := Aside0.mk Q_HO_200006
               have HO_200007 := Aside0.mk Q_HO_200007
               have HO_50 := Aside0.mk Q_HO_50
               have BK199 := Aside0.mk Q_BK199
               have HB := Aside0.mk Q_HB
               have HO211 := Aside0.mk (Q_HO211 (hon 0 kx))
               have HA_HO211 := Aside0.mk (Q_HA_HO211 (hon 0 kx))
               obtain ⟨c_, hv_⟩ := HA_HO211.out
               have hF_ := HO211.out
               rw [hv_] at hF_
               obtain ⟨ad_, ea_, hx_⟩ := Kd.at_int (Kd.R_reads' hF_).2.2 x52_2 (of_eq_true pi212) (of_eq_true qi212)
               cases ea_
               refine value_ (w1 := w') (v := .int .i64 (rd y209 x52_2)) (by rfl) rfl ?_ ?_
               ·go_simp
                (try simp only [i64_w])
                try rfl
               refine hK.out _ _ ⟨v210, adz_v210, v214, adz_v214, m2_, m6_, (by rw [ha.out]; exact putSel_upk 2 hb_ rfl rfl rfl), Q_HL208_0, Q_HO_200005, Q_HO_200006, Q_HO_200007, Q_HO_50, Q_BK199, Q_HB, Q_HO211, Q_HA_HO211, Q_HO215, Q_HA_HO215, Q_X2_, Q_X6_⟩
              refine steps_cons ?_ ?_
              ·rintro b a w' ⟨v210, adz_v210, v214, adz_v214, m2_, m6_, ha, Q_HL208_0, Q_HO_200005, Q_HO_200006, Q_HO_200007, Q_HO_50, Q_BK199, Q_HB, Q_HO211, Q_HA_HO211, Q_HO215, Q_HA_HO215, Q_X2_, Q_X6_⟩ hb_ hon hoff
               refine ⟨_, rfl, fun K hK => ?_⟩
               replace ha := Aside0.mk ha
               have HL208_0 := Aside0.mk Q_HL208_0
               have HR208_0 := Aside0.mk (Kd.V_reads' HL208_0.out).2.2
               have HO_200005 := Aside0.mk Q_HO_200005
               have HO_200006 := Aside0.mk Q_HO_200006
               have HO_200007 := Aside0.mk Q_HO_200007
               have HO_50 := Aside0.mk Q_HO_50
               have BK199 := Aside0.mk Q_BK199
               have HB := Aside0.mk Q_HB
               refine Kd.R_lit_step (Kd.int .i64) _ 3 ?hg (N := 64) ?hd (xs := ([6, 31, 12] : List Int)) (inner := [.int .i64 6, .int .i64 31, .int .i64 12]) (ok := fun _ => True) (okp := fun _ => True) ?hr ?hp (fun _ hk => hk) trivial (Below.refl _ _) (Nat.le_refl _) (by simp) ?_; (case hd => rfl); (case hg => rfl); (case hr => first | (go_simp; done) | (go_simp; rfl)); (case hp => exact (Reps.one (show Kd.M (Kd.int .i64) _ _ _ 6 [.int .i64 6] from rfl) (Reps.one (show Kd.M (Kd.int .i64) _ _ _ 31 [.int .i64 31] from rfl) (Reps.one (show Kd.M (Kd.int .i64) _ _ _ 12 [.int .i64 12] from rfl) (Reps.none _ _)))))
               intro v214 w32 ho33 hb hg_ hnew_
               clear hg_ hnew_
               (first | rw [← Ny213.out] at ho33 | (simp only [Int.reduceToNat] at ho33; rw [← Ny213.out] at ho33))
               have n0_ := Aside0.mk (Kd.N_elder' (by (with_reducible repeat (first | apply Kd.N_alloc | apply Kd.N_drewN | apply Kd.N_drew)); exact HO_50.out) (Kd.R_base ho33) hb)
               have n1_ := Aside0.mk (Kd.V_elder' (by (with_reducible repeat (first | apply Kd.V_alloc | apply Kd.V_drewN | apply Kd.V_drew)); exact HO_200005.out) (Kd.R_base ho33) hb)
               have n2_ := Aside0.mk (Kd.V_elder' (by (with_reducible repeat (first | apply Kd.V_alloc | apply Kd.V_drewN | apply Kd.V_drew)); exact HO_200006.out) (Kd.R_base ho33) hb)
               have n3_ := Aside0.mk (Kd.V_elder' (by (with_reducible repeat (first | apply Kd.V_alloc | apply Kd.V_drewN | apply Kd.V_drew)); exact HO_200007.out) (Kd.R_base ho33) hb)
               have n4_ := Aside0.mk (Kd.V_elder' (by (with_reducible repeat (first | apply Kd.V_alloc | apply Kd.V_drewN | apply Kd.V_drew)); exact HL208_0.out) (Kd.R_base ho33) hb)
               have n5_ := Aside0.mk (Kd.R_lower (Kd.R_newM (M := fun k_ => (w.heap.size ≤ k_)) ho33 (below_size be) (fun k_ h_ => h_)) (below_size be))
               have n6_ := bb BK199 hb
               have n7_ := Aside0.mk (Kd.C_below (by repeat (first | (with_reducible exact HR208_0.out) | (with_reducible refine Kd.C_alloc ?_ _) | (with_reducible refine Kd.C_drewN ?_ _) | (with_reducible refine Kd.C_drew ?_) | exact HR208_0.out)) hb)
               have n8_ := Aside0.mk (below_step be hb)
               have z_HO211 := fun (h0_ : b 0 = true) => (show Kd.R (Kd.int .i64) 3 w32 w.heap.size (fun k_ => (w.heap.size ≤ k_)) v210 y209 from by first | exact (Kd.R_elder' (by (with_reducible repeat (first | apply Kd.R_alloc | apply Kd.R_drewN | apply Kd.R_drew)); exact (Q_HO211 h0_)) (Kd.R_base ho33) hb) | exact Kd.R_mono (Kd.R_elder' (by (with_reducible repeat (first | apply Kd.R_alloc | apply Kd.R_drewN | apply Kd.R_drew)); exact (Q_HO211 h0_)) (Kd.R_base ho33) hb) (fun _ h_ => by first | trivial | exact h_ | exact h_.1))
               clear HO_50
               clear HO_200005
               clear HO_200006
               clear HO_200007
               clear HL208_0
               clear BK199
               clear HR208_0
               clear HB
               have HO_50 := n0_
               have HO_200005 := n1_
               have HO_200006 := n2_
               have HO_200007 := n3_
               have HL208_0 := n4_
               have HO215 := n5_
               have BK199 := n6_
               have HR208_0 := n7_
               have HB := n8_
               clear n0_ n1_ n2_ n3_ n4_ n5_ n6_ n7_ n8_
               clear hb ho33
               obtain ⟨Ao34, co34, eo34⟩ := Kd.R_slice HO215.out
               subst eo34
               obtain ⟨ado34, fo34, _⟩ := Kd.at_int (Kd.R_reads' HO215.out).2.2 0 (by decide) (by rw [Ny213.out]; simp)
               cases fo34
               refine hK.out _ _ ⟨v210, adz_v210, .slice (some ado34) y213.length co34, ado34, m2_, m6_, (by rw [ha.out]; exact putSel_upk 3 hb_ rfl rfl rfl), (by (with_reducible repeat (first | apply Kd.V_alloc | apply Kd.V_drewN | apply Kd.V_drew)); exact Kd.V_mono HL208_0.out (fun _ hk => hk.1)), (by (with_reducible repeat (first | apply Kd.V_alloc | apply Kd.V_drewN | apply Kd.V_drew)); exact Kd.V_mono HO_200005.out (fun _ hk => hk.1)), (by (with_reducible repeat (first | apply Kd.V_alloc | apply Kd.V_drewN | apply Kd.V_drew)); exact Kd.V_mono HO_200006.out (fun _ hk => hk.1)), (by (with_reducible repeat (first | apply Kd.V_alloc | apply Kd.V_drewN | apply Kd.V_drew)); exact Kd.V_mono HO_200007.out (fun _ hk => hk.1)), (by (with_reducible repeat (first | apply Kd.N_alloc | apply Kd.N_drewN | apply Kd.N_drew)); exact Kd.N_mono HO_50.out (fun _ hk => hk.1)), (bk BK199), be, z_HO211, Q_HA_HO211, fun _ => (by (with_reducible repeat (first | apply Kd.R_alloc | apply Kd.R_drewN | apply Kd.R_drew)); exact Kd.R_mono HO215.out (fun _ hk => hk.1)), fun _ => ⟨_, rfl⟩, Q_X2_, fun h0_ => absurd ((hoff 6 kx).symm.trans h0_) (by decide)⟩
              refine steps_cons ?_ ?_
              ·rintro b a w' ⟨v210, adz_v210, v214, adz_v214, m2_, m6_, ha, Q_HL208_0, Q_HO_200005, Q_HO_200006, Q_HO_200007, Q_HO_50, Q_BK199, Q_HB, Q_HO211, Q_HA_HO211, Q_HO215, Q_HA_HO215, Q_X2_, Q_X6_⟩ hb_ hon hoff
               refine ⟨_, rfl, fun K hK => ?_⟩
               have e64 : a.tmps[64]? = some (v214) := by rw [ha]; exact putSel_on (e := (4, 64, v214)) 3 rfl rfl (hon 4 kx) rfl
               have e65 : a.tmps[65]? = some (.int .i64 x52_2) := by rw [ha]; exact (putSel_off rfl).trans rfl
               replace ha := Aside0.mk ha
               have HL208_0 := Aside0.mk Q_HL208_0
               have HR208_0 := Aside0.mk (Kd.V_reads' HL208_0.out).2.2
               have HO_200005 := Aside0.mk Q_HO_200005
               have HO_200006 := Aside0.mk Q_HO_200006
               have HO_200007 := Aside0.mk Q_HO_200007
               have HO_50 := Aside0.mk Q_HO_50
               have BK199 := Aside0.mk Q_BK199
               have HB := Aside0.mk Q_HB
               have HO215 := Aside0.mk (Q_HO215 (hon 4 kx))
               have HA_HO215 := Aside0.mk (Q_HA_HO215 (hon 4 kx))
               obtain ⟨c_, hv_⟩ := HA_HO215.out
               rw [hv_] at e64
               refine value_ (w1 := w') (v := .pointer (some (adz_v214.add (x52_2).toNat))) (by rfl) rfl ?_ ?_
               ·go_simp
                (try simp only [i64_w])
                try rfl
               refine hK.out _ _ ⟨v210, adz_v210, v214, adz_v214, m2_, (.pointer (some (adz_v214.add (x52_2).toNat))), (by rw [ha.out]; exact putSel_upk 4 hb_ rfl rfl rfl), Q_HL208_0, Q_HO_200005, Q_HO_200006, Q_HO_200007, Q_HO_50, Q_BK199, Q_HB, Q_HO211, Q_HA_HO211, Q_HO215, Q_HA_HO215, Q_X2_, fun _ => rfl⟩
              refine steps_cons ?_ ?_
              ·rintro b a w' ⟨v210, adz_v210, v214, adz_v214, m2_, m6_, ha, Q_HL208_0, Q_HO_200005, Q_HO_200006, Q_HO_200007, Q_HO_50, Q_BK199, Q_HB, Q_HO211, Q_HA_HO211, Q_HO215, Q_HA_HO215, Q_X2_, Q_X6_⟩ hb_ hon hoff
               refine ⟨_, rfl, fun K hK => ?_⟩
               have e66 : a.tmps[66]? = some (m6_) := by rw [ha]; exact putSel_on (e := (6, 66, m6_)) 4 rfl rfl (hon 6 kx) rfl
               rw [Q_X6_ (hon 6 kx)] at e66
               replace ha := Aside0.mk ha
               have HL208_0 := Aside0.mk Q_HL208_0
               have HR208_0 := Aside0.mk (Kd.V_reads' HL208_0.out).2.2
               have HO_200005 := Aside0.mk Q_HO_200005
               have HO_200006 := Aside0.mk Q_HO_200006
               have HO_200007 := Aside0.mk Q_HO_200007
               have HO_50 := Aside0.mk Q_HO_50
               have BK199 := Aside0.mk Q_BK199
               have HB := Aside0.mk Q_HB
               have HO215 := Aside0.mk (Q_HO215 (hon 4 kx))
               have HA_HO215 := Aside0.mk (Q_HA_HO215 (hon 4 kx))
               obtain ⟨c_, hv_⟩ := HA_HO215.out
               have hF_ := HO215.out
               rw [hv_] at hF_
               obtain ⟨ad_, ea_, hx_⟩ := Kd.at_int (Kd.R_reads' hF_).2.2 x52_2 (of_eq_true pi216) (of_eq_true qi216)
               cases ea_
               refine value_ (w1 := w') (v := .int .i64 (rd y213 x52_2)) (by rfl) rfl ?_ ?_
               ·go_simp
                (try simp only [i64_w])
                try rfl
               refine hK.out _ _ ⟨v210, adz_v210, v214, adz_v214, m2_, m6_, (by rw [ha.out]; exact putSel_upk 5 hb_ rfl rfl rfl), Q_HL208_0, Q_HO_200005, Q_HO_200006, Q_HO_200007, Q_HO_50, Q_BK199, Q_HB, Q_HO211, Q_HA_HO211, Q_HO215, Q_HA_HO215, Q_X2_, Q_X6_⟩
              refine steps_cons ?_ ?_
              ·rintro b a w' ⟨v210, adz_v210, v214, adz_v214, m2_, m6_, ha, Q_HL208_0, Q_HO_200005, Q_HO_200006, Q_HO_200007, Q_HO_50, Q_BK199, Q_HB, Q_HO211, Q_HA_HO211, Q_HO215, Q_HA_HO215, Q_X2_, Q_X6_⟩ hb_ hon hoff
               refine ⟨_, rfl, fun K hK => ?_⟩
               have e63 : a.tmps[63]? = some (.int .i64 (rd y209 x52_2)) := by rw [ha]; exact putSel_on (e := (3, 63, .int .i64 (rd y209 x52_2))) 2 rfl rfl (hon 3 kx) rfl
               replace ha := Aside0.mk ha
               have HL208_0 := Aside0.mk Q_HL208_0
               have HR208_0 := Aside0.mk (Kd.V_reads' HL208_0.out).2.2
               have HO_200005 := Aside0.mk Q_HO_200005
               have HO_200006 := Aside0.mk Q_HO_200006
               have HO_200007 := Aside0.mk Q_HO_200007
               have HO_50 := Aside0.mk Q_HO_50
               have BK199 := Aside0.mk Q_BK199
               have HB := Aside0.mk Q_HB
               have HO211 := Aside0.mk (Q_HO211 (hon 0 kx))
               have HA_HO211 := Aside0.mk (Q_HA_HO211 (hon 0 kx))
               refine value_ (w1 := w') (v := .int .i64 (rd y209 x52_2)) (by rfl) rfl ?_ ?_
               ·go_simp
                (try simp only [i64_w])
                try rfl
               refine hK.out _ _ ⟨v210, adz_v210, v214, adz_v214, m2_, m6_, (by rw [ha.out]; exact putSel_upk 6 hb_ rfl rfl rfl), Q_HL208_0, Q_HO_200005, Q_HO_200006, Q_HO_200007, Q_HO_50, Q_BK199, Q_HB, Q_HO211, Q_HA_HO211, Q_HO215, Q_HA_HO215, Q_X2_, Q_X6_⟩
              refine steps_cons ?_ ?_
              ·rintro b a w' ⟨v210, adz_v210, v214, adz_v214, m2_, m6_, ha, Q_HL208_0, Q_HO_200005, Q_HO_200006, Q_HO_200007, Q_HO_50, Q_BK199, Q_HB, Q_HO211, Q_HA_HO211, Q_HO215, Q_HA_HO215, Q_X2_, Q_X6_⟩ hb_ hon hoff
               refine ⟨_, rfl, fun K hK => ?_⟩
               have e67 : a.tmps[67]? = some (.int .i64 (rd y213 x52_2)) := by rw [ha]; exact putSel_on (e := (7, 67, .int .i64 (rd y213 x52_2))) 5 rfl rfl (hon 7 kx) rfl
               replace ha := Aside0.mk ha
               have HL208_0 := Aside0.mk Q_HL208_0
               have HR208_0 := Aside0.mk (Kd.V_reads' HL208_0.out).2.2
               have HO_200005 := Aside0.mk Q_HO_200005
               have HO_200006 := Aside0.mk Q_HO_200006
               have HO_200007 := Aside0.mk Q_HO_200007
               have HO_50 := Aside0.mk Q_HO_50
               have BK199 := Aside0.mk Q_BK199
               have HB := Aside0.mk Q_HB
               have HO211 := Aside0.mk (Q_HO211 (hon 0 kx))
               have HA_HO211 := Aside0.mk (Q_HA_HO211 (hon 0 kx))
               have HO215 := Aside0.mk (Q_HO215 (hon 4 kx))
               have HA_HO215 := Aside0.mk (Q_HA_HO215 (hon 4 kx))
               refine value_ (w1 := w') (v := .int .i64 (rd y213 x52_2)) (by rfl) rfl ?_ ?_
               ·go_simp
                (try simp only [i64_w])
                try rfl
               refine hK.out _ _ ⟨v210, adz_v210, v214, adz_v214, m2_, m6_, (by rw [ha.out]; exact putSel_upk 7 hb_ rfl rfl rfl), Q_HL208_0, Q_HO_200005, Q_HO_200006, Q_HO_200007, Q_HO_50, Q_BK199, Q_HB, Q_HO211, Q_HA_HO211, Q_HO215, Q_HA_HO215, Q_X2_, Q_X6_⟩
              exact steps_nil
             rintro b a w38 hall ⟨v210, adz_v210, v214, adz_v214, m2_, m6_, ha, Q_HL208_0, Q_HO_200005, Q_HO_200006, Q_HO_200007, Q_HO_50, Q_BK199, Q_HB, Q_HO211, Q_HA_HO211, Q_HO215, Q_HA_HO215, Q_X2_, Q_X6_⟩
             clear BK199 HB HL208_0 HO_200005 HO_200006 HO_200007 HO_50
             have hb0_ := hall 0 kx
             have hb2_ := hall 2 kx
             have hb3_ := hall 3 kx
             have hb4_ := hall 4 kx
             have hb6_ := hall 6 kx
             have hb7_ := hall 7 kx
             have hb8_ := hall 8 kx
             have hb9_ := hall 9 kx
             subst ha
             obtain rfl := Q_X2_ hb2_
             obtain rfl := Q_X6_ hb6_
             simp only [putSel, hb0_, hb2_, hb3_, hb4_, hb6_, hb7_, hb8_, hb9_, if_true, Act.put, List.setIfInBounds_toArray, List.set_cons_zero, List.set_cons_succ]
             have HL208_0 := Aside0.mk Q_HL208_0
             have HR208_0 := Aside0.mk (Kd.V_reads' HL208_0.out).2.2
             clear Q_HL208_0
             have HO_200005 := Aside0.mk Q_HO_200005
             clear Q_HO_200005
             have HO_200006 := Aside0.mk Q_HO_200006
             clear Q_HO_200006
             have HO_200007 := Aside0.mk Q_HO_200007
             clear Q_HO_200007
             have HO_50 := Aside0.mk Q_HO_50
             clear Q_HO_50
             have BK199 := Aside0.mk Q_BK199
             clear Q_BK199
             have HB := Aside0.mk Q_HB
             clear Q_HB
             have HO211 := Aside0.mk (Q_HO211 hb0_)
             clear Q_HO211
             have HA_HO211 := Aside0.mk (Q_HA_HO211 hb0_)
             clear Q_HA_HO211
             have HO215 := Aside0.mk (Q_HO215 hb4_)
             clear Q_HO215
             have HA_HO215 := Aside0.mk (Q_HA_HO215 hb4_)
             clear Q_HA_HO215
             clear hall hb0_ hb2_ hb3_ hb4_ hb6_ hb7_ hb8_ hb9_
             obtain ⟨co39, eo39⟩ := HA_HO211.out
             clear HA_HO211
             subst eo39
             obtain ⟨co40, eo40⟩ := HA_HO215.out
             clear HA_HO215
             subst eo40
             try go_wp2
             go_loopg [70] k2 (fun kq v70 w' => ∃ (x70_3 : Int), v70 = .int .i64 x70_3 ∧ Aside0 (ephemerisref1_RecurError.l1 kq x52_2 (rd_L1 y205 x52_2) (rd y209 x52_2) (rd y213 x52_2) y205 (y205.length : Int) x52_2 (rd_L1 y205 x52_2) ((rd_L1 y205 x52_2).length : Int) x70_3 = some r) ∧ Aside0 (kq ≤ k2) ∧ Aside0 (Kd.N (Kd.slice 3 (Kd.int .i64)) 53 w' w.heap.size (fun k_ => ((P0_5_ k_ ∨ P0_6_ k_ ∨ P0_7_ k_) ∨ w.heap.size ≤ k_) ∧ k_ ≠ gb199) (.slice (some ad208) y205.length co24) y205) ∧ Aside0 (Kd.V (Kd.int .i64) 3 w' w.heap.size (fun k_ => ((P0_5_ k_ ∨ P0_6_ k_ ∨ P0_7_ k_) ∨ w.heap.size ≤ k_) ∧ some k_ ≠ ((.slice (some ad208) y205.length co24) : Value).ownBlock ∧ k_ ≠ gb199) (.slice A0_5 l0_5.length c0_5) l0_5) ∧ Aside0 (Kd.V (Kd.int .i64) 3 w' w.heap.size (fun k_ => ((P0_5_ k_ ∨ P0_6_ k_ ∨ P0_7_ k_) ∨ w.heap.size ≤ k_) ∧ some k_ ≠ ((.slice (some ad208) y205.length co24) : Value).ownBlock ∧ k_ ≠ gb199) (.slice A0_6 l0_6.length c0_6) l0_6) ∧ Aside0 (Kd.V (Kd.int .i64) 3 w' w.heap.size (fun k_ => ((P0_5_ k_ ∨ P0_6_ k_ ∨ P0_7_ k_) ∨ w.heap.size ≤ k_) ∧ some k_ ≠ ((.slice (some ad208) y205.length co24) : Value).ownBlock ∧ k_ ≠ gb199) (.slice A0_7 l0_7.length c0_7) l0_7) ∧ Aside0 (w'.heap[gb199]? = some (.cells #[.int .i64 a0_0, .int .i64 a0_1, .int .i64 a0_2, .int .i64 a0_3, .int .i64 a0_4, (.slice A0_5 l0_5.length c0_5), (.slice A0_6 l0_6.length c0_6), (.slice A0_7 l0_7.length c0_7)] 64 (0, 0))) ∧ Aside0 (Below w.heap.size w w') ∧ Aside0 (Kd.V (Kd.int .i64) 3 w' w.heap.size (fun k_ => ((P0_5_ k_ ∨ P0_6_ k_ ∨ P0_7_ k_) ∨ w.heap.size ≤ k_) ∧ some k_ ≠ ((.slice (some ad208) y205.length co24) : Value).ownBlock ∧ k_ ≠ gb199) (.slice A208_0 (rd_L1 y205 x52_2).length c208_0) (rd_L1 y205 x52_2)))
             case atStart => exact ⟨(0), rs, H', ⟨Nat.le_refl _⟩, ⟨by (with_reducible repeat (first | apply Kd.N_alloc | apply Kd.N_drewN | apply Kd.N_drew)); exact HO_50.out⟩, ⟨by (with_reducible repeat (first | apply Kd.V_alloc | apply Kd.V_drewN | apply Kd.V_drew)); exact HO_200005.out⟩, ⟨by (with_reducible repeat (first | apply Kd.V_alloc | apply Kd.V_drewN | apply Kd.V_drew)); exact HO_200006.out⟩, ⟨by (with_reducible repeat (first | apply Kd.V_alloc | apply Kd.V_drewN | apply Kd.V_drew)); exact HO_200007.out⟩, ⟨bk BK199⟩, ⟨be⟩, ⟨by (with_reducible repeat (first | apply Kd.V_alloc | apply Kd.V_drewN | apply Kd.V_drew)); exact HL208_0.out⟩⟩
             case round =>
              clear H'
              (try clear c1); (try clear c2); (try clear p2); (try clear q2); (try clear hx2); (try clear qi2); (try clear c3); (try clear c8); (try clear c10); (try clear c12); (try clear c13); (try clear c13b0); (try clear c20); (try clear p20); (try clear q20); (try clear hx20); (try clear qi21); (try clear c25); (try clear c25b0); (try clear c26); (try clear c26b0); (try clear c27); (try clear c27b0); (try clear c28); (try clear c28b0); (try clear c28b1); (try clear c29); (try clear c29b0); (try clear c30); (try clear c30b0); (try clear hcz14_0); (try clear hcz14_1); (try clear hcz14_2); (try clear hcz14_3); (try clear hcz14_4); (try clear hcz14_5); (try clear hcz14_6); (try clear hcz14_7); (try clear hcz16_0); (try clear hcz16_1); (try clear hcz16_2); (try clear hcz16_3); (try clear hcz16_4); (try clear hcz16_5); (try clear hcz16_6); (try clear hcz16_7); (try clear hcz17_0); (try clear hcz17_1); (try clear hcz17_2); (try clear hcz17_3); (try clear hcz17_4); (try clear hcz17_5); (try clear hcz17_6); (try clear hcz17_7); (try clear hcz18_0); (try clear hcz18_1); (try clear hcz18_2); (try clear hcz18_3); (try clear hcz18_4); (try clear hcz18_5); (try clear hcz18_6); (try clear hcz18_7); (try clear hcz19_0); (try clear hcz19_1); (try clear hcz19_2); (try clear hcz19_3); (try clear hcz19_4); (try clear hcz19_5); (try clear hcz19_6); (try clear hcz19_7); (try clear hcz21_0); (try clear hcz21_1); (try clear hcz21_2); (try clear hcz21_3); (try clear hcz21_4); (try clear hcz21_5); (try clear hcz21_6); (try clear hcz21_7); (try clear hcz6_0); (try clear hcz6_1); (try clear hcz6_2); (try clear hcz6_3); (try clear hcz6_4); (try clear hcz6_5); (try clear hcz6_6); (try clear hcz6_7); (try clear hfz14_0); (try clear hfz14_1); (try clear hfz14_2); (try clear hfz14_3); (try clear hfz14_4); (try clear hfz14_5); (try clear hfz14_6); (try clear hfz14_7); (try clear hfz16_0); (try clear hfz16_1); (try clear hfz16_2); (try clear hfz16_3); (try clear hfz16_4); (try clear hfz16_5); (try clear hfz16_6); (try clear hfz16_7); (try clear hfz17_0); (try clear hfz17_1); (try clear hfz17_2); (try clear hfz17_3); (try clear hfz17_4); (try clear hfz17_5); (try clear hfz17_6); (try clear hfz17_7); (try clear hfz18_0); (try clear hfz18_1); (try clear hfz18_2); (try clear hfz18_3); (try clear hfz18_4); (try clear hfz18_5); (try clear hfz18_6); (try clear hfz18_7); (try clear hfz19_0); (try clear hfz19_1); (try clear hfz19_2); (try clear hfz19_3); (try clear hfz19_4); (try clear hfz19_5); (try clear hfz19_6); (try clear hfz19_7); (try clear hfz21_0); (try clear hfz21_1); (try clear hfz21_2); (try clear hfz21_3); (try clear hfz21_4); (try clear hfz21_5); (try clear hfz21_6); (try clear hfz21_7); (try clear hfz6_0); (try clear hfz6_1); (try clear hfz6_2); (try clear hfz6_3); (try clear hfz6_4); (try clear hfz6_5); (try clear hfz6_6); (try clear hfz6_7); (try clear hx208_0); (try clear p2); (try clear p208); (try clear q208)
              obtain ⟨x70_3, rfl, HA, HK3, HO_50, HO_200005, HO_200006, HO_200007, BK199, HB, HL208_0⟩ := hrel
              have HR208_0 := Aside0.mk (Kd.V_reads' HL208_0.out).2.2
              cases gk with
              | zero => exact absurd HA.out (by simp [ephemerisref1_RecurError.l1])
              | succ k3 =>
               have H := HA.out
               clear HA
               simp only [ephemerisref1_RecurError.l1] at H
               by_cases c41 : x70_3 < ((rd_L1 y205 x52_2).length : Int)
               ·rw [if_pos c41] at H
                have c41b0 : decide (x70_3 < ((rd_L1 y205 x52_2).length : Int)) = true := decide_eq_true c41
                clear c41
                by_cases c42 : 0 ≤ x70_3
                ·rw [if_pos c42] at H
                 have c42b0 : decide (0 ≤ x70_3) = true := decide_eq_true c42
                 clear c42
                 by_cases c43 : x70_3 < ((rd_L1 y205 x52_2).length : Int)
                 ·rw [if_pos c43] at H
                  have c43b0 : decide (x70_3 < ((rd_L1 y205 x52_2).length : Int)) = true := decide_eq_true c43
                  clear c43
                  have HC44 := Aside0.mk H
                  clear H
                  have p217 : 0 ≤ (x70_3 : Int) := of_decide_eq_true ka
                  have q217 : x70_3 < ((rd_L1 y205 x52_2).length : Int) := of_decide_eq_true ka
                  obtain ⟨ad217, e217, hx217_0⟩ := Kd.at_int HR208_0.out x70_3 p217 q217
                  cases e217
                  replace p217 := eq_true p217
                  replace q217 := eq_true q217
                  go_upto_region 14 with (fail)
                  go_cut [87] (fun v87 wc => ∃ (kq : Nat) (x87_43 : Bool), v87 = .bool x87_43 ∧ Aside0 (ephemerisref1_RecurError.j3 kq x52_2 (rd_L1 y205 x52_2) (rd y209 x52_2) (rd y213 x52_2) x70_3 (rd (rd_L1 y205 x52_2) x70_3) y205 (y205.length : Int) x52_2 (rd_L1 y205 x52_2) ((rd_L1 y205 x52_2).length : Int) x70_3 x87_43 = some r) ∧ Aside0 (kq ≤ k3) ∧ Aside0 (Kd.N (Kd.slice 3 (Kd.int .i64)) 53 wc w.heap.size (fun k_ => ((P0_5_ k_ ∨ P0_6_ k_ ∨ P0_7_ k_) ∨ w.heap.size ≤ k_) ∧ k_ ≠ gb199) (.slice (some ad208) y205.length co24) y205) ∧ Aside0 (Kd.V (Kd.int .i64) 3 wc w.heap.size (fun k_ => ((P0_5_ k_ ∨ P0_6_ k_ ∨ P0_7_ k_) ∨ w.heap.size ≤ k_) ∧ some k_ ≠ ((.slice (some ad208) y205.length co24) : Value).ownBlock ∧ k_ ≠ gb199) (.slice A0_5 l0_5.length c0_5) l0_5) ∧ Aside0 (Kd.V (Kd.int .i64) 3 wc w.heap.size (fun k_ => ((P0_5_ k_ ∨ P0_6_ k_ ∨ P0_7_ k_) ∨ w.heap.size ≤ k_) ∧ some k_ ≠ ((.slice (some ad208) y205.length co24) : Value).ownBlock ∧ k_ ≠ gb199) (.slice A0_6 l0_6.length c0_6) l0_6) ∧ Aside0 (Kd.V (Kd.int .i64) 3 wc w.heap.size (fun k_ => ((P0_5_ k_ ∨ P0_6_ k_ ∨ P0_7_ k_) ∨ w.heap.size ≤ k_) ∧ some k_ ≠ ((.slice (some ad208) y205.length co24) : Value).ownBlock ∧ k_ ≠ gb199) (.slice A0_7 l0_7.length c0_7) l0_7) ∧ Aside0 (wc.heap[gb199]? = some (.cells #[.int .i64 a0_0, .int .i64 a0_1, .int .i64 a0_2, .int .i64 a0_3, .int .i64 a0_4, (.slice A0_5 l0_5.length c0_5), (.slice A0_6 l0_6.length c0_6), (.slice A0_7 l0_7.length c0_7)] 64 (0, 0))) ∧ Aside0 (Below w.heap.size w wc) ∧ Aside0 (Kd.V (Kd.int .i64) 3 wc w.heap.size (fun k_ => ((P0_5_ k_ ∨ P0_6_ k_ ∨ P0_7_ k_) ∨ w.heap.size ≤ k_) ∧ some k_ ≠ ((.slice (some ad208) y205.length co24) : Value).ownBlock ∧ k_ ≠ gb199) (.slice (some ad217) (rd_L1 y205 x52_2).length c208_0) (rd_L1 y205 x52_2)))
                  case first =>
                   have H := HC44.out
                   clear HC44
                   replace H := Option.bind_eq_some_iff.mp H
                   obtain ⟨t218, A450, H⟩ := H
                   replace H : (if t218 = true then (if x52_2 = 1 then (ephemerisref1_RecurError.j3 k3 x52_2 (rd_L1 y205 x52_2) (rd y209 x52_2) (rd y213 x52_2) x70_3 (rd (rd_L1 y205 x52_2) x70_3) y205 (y205.length : Int) x52_2 (rd_L1 y205 x52_2) ((rd_L1 y205 x52_2).length : Int) x70_3 ((rd (rd_L1 y205 x52_2) x70_3) == 0)) else (ephemerisref1_RecurError.j3 k3 x52_2 (rd_L1 y205 x52_2) (rd y209 x52_2) (rd y213 x52_2) x70_3 (rd (rd_L1 y205 x52_2) x70_3) y205 (y205.length : Int) x52_2 (rd_L1 y205 x52_2) ((rd_L1 y205 x52_2).length : Int) x70_3 false)) else (ephemerisref1_RecurError.j3 k3 x52_2 (rd_L1 y205 x52_2) (rd y209 x52_2) (rd y213 x52_2) x70_3 (rd (rd_L1 y205 x52_2) x70_3) y205 (y205.length : Int) x52_2 (rd_L1 y205 x52_2) ((rd_L1 y205 x52_2).length : Int) x70_3 true)) = some r := H
                   have A45 := Aside0.mk A450
                   clear A450
                   by_cases c46 : t218 = true
                   ·subst c46
                    have H1 : (if x52_2 = 1 then (ephemerisref1_RecurError.j3 k3 x52_2 (rd_L1 y205 x52_2) (rd y209 x52_2) (rd y213 x52_2) x70_3 (rd (rd_L1 y205 x52_2) x70_3) y205 (y205.length : Int) x52_2 (rd_L1 y205 x52_2) ((rd_L1 y205 x52_2).length : Int) x70_3 ((rd (rd_L1 y205 x52_2) x70_3) == 0)) else (ephemerisref1_RecurError.j3 k3 x52_2 (rd_L1 y205 x52_2) (rd y209 x52_2) (rd y213 x52_2) x70_3 (rd (rd_L1 y205 x52_2) x70_3) y205 (y205.length : Int) x52_2 (rd_L1 y205 x52_2) ((rd_L1 y205 x52_2).length : Int) x70_3 false)) = some r := by rw [if_pos rfl] at H; exact H
                    clear H
                    have H := H1
                    clear H1
                    by_cases c47 : x52_2 = 1
                    ·rw [if_pos c47] at H
                     have c47b0 : (x52_2 == 1) = true := beq_iff_eq.mpr c47
                     have c47b1 : (x52_2 != 1) = false := bne_eq_false_iff_eq.mpr c47
                     clear c47
                     (first | rw [c47b0] | (simp only [i64_w, i32_w]; rw [c47b0]) | skip)
                     have H' := Aside0.mk H
                     clear H
                     go_wp2_with (first | ((with_reducible refine gate_callee (f := 8) rfl ?_); refine goesL_ (some 78) rfl rfl Try.func8 kx rfl #[.int .i64 (rd (rd_L1 y205 x52_2) x70_3), .int .i64 (rd y209 x52_2), .int .i64 (rd y213 x52_2)] rfl aa ?_; (with_reducible refine (ephemerisref1_In.calls (rd (rd_L1 y205 x52_2) x70_3) (rd y209 x52_2) (rd y213 x52_2) true _ A45.out).mono ?_); rintro e w' ⟨rfl, ⟨nd, rfl⟩⟩; refine ⟨_, rfl, ?_⟩))
                     go_meet
                     case rel => exact ⟨_, (((rd (rd_L1 y205 x52_2) x70_3) == 0)), rs, H', ⟨by have := HJ3.out; have := HK2.out; have := HK3.out; first | omega | exact Nat.le_refl _⟩, ⟨by (with_reducible repeat (first | apply Kd.N_alloc | apply Kd.N_drewN | apply Kd.N_drew)); exact HO_50.out⟩, ⟨by (with_reducible repeat (first | apply Kd.V_alloc | apply Kd.V_drewN | apply Kd.V_drew)); exact HO_200005.out⟩, ⟨by (with_reducible repeat (first | apply Kd.V_alloc | apply Kd.V_drewN | apply Kd.V_drew)); exact HO_200006.out⟩, ⟨by (with_reducible repeat (first | apply Kd.V_alloc | apply Kd.V_drewN | apply Kd.V_drew)); exact HO_200007.out⟩, ⟨bk BK199⟩, ⟨be⟩, ⟨by (with_reducible repeat (first | apply Kd.V_alloc | apply Kd.V_drewN | apply Kd.V_drew)); exact HL208_0.out⟩⟩
                    ·rw [if_neg c47] at H
                     have c47b0 : (x52_2 == 1) = false := beq_eq_false_iff_ne.mpr c47
                     have c47b1 : (x52_2 != 1) = true := bne_iff_ne.mpr c47
                     (first | rw [c47b0] | (simp only [i64_w, i32_w]; rw [c47b0]) | skip)
                     have H' := Aside0.mk H
                     clear H
                     go_wp2_with (first | ((with_reducible refine gate_callee (f := 8) rfl ?_); refine goesL_ (some 78) rfl rfl Try.func8 kx rfl #[.int .i64 (rd (rd_L1 y205 x52_2) x70_3), .int .i64 (rd y209 x52_2), .int .i64 (rd y213 x52_2)] rfl aa ?_; (with_reducible refine (ephemerisref1_In.calls (rd (rd_L1 y205 x52_2) x70_3) (rd y209 x52_2) (rd y213 x52_2) true _ A45.out).mono ?_); rintro e w' ⟨rfl, ⟨nd, rfl⟩⟩; refine ⟨_, rfl, ?_⟩))
                     go_meet
                     case rel => exact ⟨_, (false), rs, H', ⟨by have := HJ3.out; have := HK2.out; have := HK3.out; first | omega | exact Nat.le_refl _⟩, ⟨by (with_reducible repeat (first | apply Kd.N_alloc | apply Kd.N_drewN | apply Kd.N_drew)); exact HO_50.out⟩, ⟨by (with_reducible repeat (first | apply Kd.V_alloc | apply Kd.V_drewN | apply Kd.V_drew)); exact HO_200005.out⟩, ⟨by (with_reducible repeat (first | apply Kd.V_alloc | apply Kd.V_drewN | apply Kd.V_drew)); exact HO_200006.out⟩, ⟨by (with_reducible repeat (first | apply Kd.V_alloc | apply Kd.V_drewN | apply Kd.V_drew)); exact HO_200007.out⟩, ⟨bk BK199⟩, ⟨be⟩, ⟨by (with_reducible repeat (first | apply Kd.V_alloc | apply Kd.V_drewN | apply Kd.V_drew)); exact HL208_0.out⟩⟩
                   ·replace c46 := Bool.eq_false_iff.mpr c46
                    subst c46
                    have H1 : (ephemerisref1_RecurError.j3 k3 x52_2 (rd_L1 y205 x52_2) (rd y209 x52_2) (rd y213 x52_2) x70_3 (rd (rd_L1 y205 x52_2) x70_3) y205 (y205.length : Int) x52_2 (rd_L1 y205 x52_2) ((rd_L1 y205 x52_2).length : Int) x70_3 true) = some r := by rw [if_neg (show ¬ (false = true) by decide)] at H; exact H
                    clear H
                    have H := H1
                    clear H1
                    have H' := Aside0.mk H
                    clear H
                    go_wp2_with (first | ((with_reducible refine gate_callee (f := 8) rfl ?_); refine goesL_ (some 78) rfl rfl Try.func8 kx rfl #[.int .i64 (rd (rd_L1 y205 x52_2) x70_3), .int .i64 (rd y209 x52_2), .int .i64 (rd y213 x52_2)] rfl aa ?_; (with_reducible refine (ephemerisref1_In.calls (rd (rd_L1 y205 x52_2) x70_3) (rd y209 x52_2) (rd y213 x52_2) false _ A45.out).mono ?_); rintro e w' ⟨rfl, ⟨nd, rfl⟩⟩; refine ⟨_, rfl, ?_⟩))
                    go_meet
                    case rel => exact ⟨_, (true), rs, H', ⟨by have := HJ3.out; have := HK2.out; have := HK3.out; first | omega | exact Nat.le_refl _⟩, ⟨by (with_reducible repeat (first | apply Kd.N_alloc | apply Kd.N_drewN | apply Kd.N_drew)); exact HO_50.out⟩, ⟨by (with_reducible repeat (first | apply Kd.V_alloc | apply Kd.V_drewN | apply Kd.V_drew)); exact HO_200005.out⟩, ⟨by (with_reducible repeat (first | apply Kd.V_alloc | apply Kd.V_drewN | apply Kd.V_drew)); exact HO_200006.out⟩, ⟨by (with_reducible repeat (first | apply Kd.V_alloc | apply Kd.V_drewN | apply Kd.V_drew)); exact HO_200007.out⟩, ⟨bk BK199⟩, ⟨be⟩, ⟨by (with_reducible repeat (first | apply Kd.V_alloc | apply Kd.V_drewN | apply Kd.V_drew)); exact HL208_0.out⟩⟩
                  case rest =>
                   clear HC44
                   (try clear c1); (try clear c2); (try clear p2); (try clear q2); (try clear hx2); (try clear qi2); (try clear c3); (try clear c4); (try clear c8); (try clear c10); (try clear c12); (try clear c13); (try clear c13b0); (try clear c20); (try clear p20); (try clear q20); (try clear hx20); (try clear p21); (try clear q21); (try clear hx21); (try clear qi21); (try clear c25); (try clear c25b0); (try clear c26); (try clear c26b0); (try clear c27); (try clear c27b0); (try clear c28); (try clear c28b0); (try clear c28b1); (try clear c29); (try clear c29b0); (try clear c30); (try clear c30b0); (try clear c41); (try clear c41b0); (try clear c42); (try clear c42b0); (try clear c43); (try clear c43b0); (try clear c46); (try clear c47); (try clear c47b0); (try clear c47b1); (try clear hcz14_0); (try clear hcz14_1); (try clear hcz14_2); (try clear hcz14_3); (try clear hcz14_4); (try clear hcz14_5); (try clear hcz14_6); (try clear hcz14_7); (try clear hcz16_0); (try clear hcz16_1); (try clear hcz16_2); (try clear hcz16_3); (try clear hcz16_4); (try clear hcz16_5); (try clear hcz16_6); (try clear hcz16_7); (try clear hcz17_0); (try clear hcz17_1); (try clear hcz17_2); (try clear hcz17_3); (try clear hcz17_4); (try clear hcz17_5); (try clear hcz17_6); (try clear hcz17_7); (try clear hcz18_0); (try clear hcz18_1); (try clear hcz18_2); (try clear hcz18_3); (try clear hcz18_4); (try clear hcz18_5); (try clear hcz18_6); (try clear hcz18_7); (try clear hcz19_0); (try clear hcz19_1); (try clear hcz19_2); (try clear hcz19_3); (try clear hcz19_4); (try clear hcz19_5); (try clear hcz19_6); (try clear hcz19_7); (try clear hcz21_0); (try clear hcz21_1); (try clear hcz21_2); (try clear hcz21_3); (try clear hcz21_4); (try clear hcz21_5); (try clear hcz21_6); (try clear hcz21_7); (try clear hcz6_0); (try clear hcz6_1); (try clear hcz6_2); (try clear hcz6_3); (try clear hcz6_4); (try clear hcz6_5); (try clear hcz6_6); (try clear hcz6_7); (try clear hfz14_0); (try clear hfz14_1); (try clear hfz14_2); (try clear hfz14_3); (try clear hfz14_4); (try clear hfz14_5); (try clear hfz14_6); (try clear hfz14_7); (try clear hfz16_0); (try clear hfz16_1); (try clear hfz16_2); (try clear hfz16_3); (try clear hfz16_4); (try clear hfz16_5); (try clear hfz16_6); (try clear hfz16_7); (try clear hfz17_0); (try clear hfz17_1); (try clear hfz17_2); (try clear hfz17_3); (try clear hfz17_4); (try clear hfz17_5); (try clear hfz17_6); (try clear hfz17_7); (try clear hfz18_0); (try clear hfz18_1); (try clear hfz18_2); (try clear hfz18_3); (try clear hfz18_4); (try clear hfz18_5); (try clear hfz18_6); (try clear hfz18_7); (try clear hfz19_0); (try clear hfz19_1); (try clear hfz19_2); (try clear hfz19_3); (try clear hfz19_4); (try clear hfz19_5); (try clear hfz19_6); (try clear hfz19_7); (try clear hfz21_0); (try clear hfz21_1); (try clear hfz21_2); (try clear hfz21_3); (try clear hfz21_4); (try clear hfz21_5); (try clear hfz21_6); (try clear hfz21_7); (try clear hfz6_0); (try clear hfz6_1); (try clear hfz6_2); (try clear hfz6_3); (try clear hfz6_4); (try clear hfz6_5); (try clear hfz6_6); (try clear hfz6_7); (try clear hx208_0); (try clear hx217_0); (try clear p2); (try clear p20); (try clear p208); (try clear p217); (try clear q2); (try clear q20); (try clear q208); (try clear q217)
                   obtain ⟨kq, x87_43, rfl, HA, HJ43, HO_50, HO_200005, HO_200006, HO_200007, BK199, HB, HL208_0⟩ := hcut
                   have HR208_0 := Aside0.mk (Kd.V_reads' HL208_0.out).2.2
                   cases kq with
                   | zero => exact absurd HA.out (by simp [ephemerisref1_RecurError.j3])
                   | succ kj43 =>
                    have H := HA.out
                    clear HA
                    simp only [ephemerisref1_RecurError.j3] at H
                    by_cases c48 : x87_43 = true
                    ·subst c48
                     have H1 : (some 3) = some r := by rw [if_pos rfl] at H; exact H
                     clear H
                     have H := H1
                     clear H1
                     obtain rfl := Option.some.inj H
                     go_wp2
                     go_ret
                     exact ⟨by first | rfl | (simp [errW_none, errW_some] <;> rfl) | (simp [*, errW_none, errW_some] <;> rfl), be⟩
                    ·replace c48 := Bool.eq_false_iff.mpr c48
                     subst c48
                     have H1 : (if 0 ≤ x70_3 then (if x70_3 ≤ ((rd_L1 y205 x52_2).length : Int) then (ephemerisref1_RecurError.l2 kj43 x52_2 (rd_L1 y205 x52_2) (rd y209 x52_2) (rd y213 x52_2) (rd (rd_L1 y205 x52_2) x70_3) y205 (y205.length : Int) x52_2 (rd_L1 y205 x52_2) ((rd_L1 y205 x52_2).length : Int) x70_3 ((rd_L1 y205 x52_2).take (x70_3 : Int).toNat) (((rd_L1 y205 x52_2).take (x70_3 : Int).toNat).length : Int) 0) else (none)) else (none)) = some r := by rw [if_neg (show ¬ (false = true) by decide)] at H; exact H
                     clear H
                     have H := H1
                     clear H1
                     by_cases c49 : 0 ≤ x70_3
                     ·rw [if_pos c49] at H
                      have c49b0 := eq_true c49
                      have c49b1 : decide (0 ≤ x70_3) = true := decide_eq_true c49
                      clear c49
                      by_cases c50 : x70_3 ≤ ((rd_L1 y205 x52_2).length : Int)
                      ·rw [if_pos c50] at H
                       have c50b0 := eq_true c50
                       have c50b1 : decide (x70_3 ≤ ((rd_L1 y205 x52_2).length : Int)) = true := decide_eq_true c50
                       clear c50
                       have H' := Aside0.mk H
                       clear H
                       obtain ⟨i051, hi051, _, hsz51, _⟩ := info_parts info3
                       have hmx_ : ((((rd_L1 y205 x52_2).take (x70_3 : Int).toNat).length : Nat) : Int) = max x70_3 0 := by have hb_ : x70_3 ≤ ((rd_L1 y205 x52_2).length : Int) := of_decide_eq_true ka; rw [List.length_take]; omega
                       obtain ⟨hcut51, hA51, hC51⟩ := print_take_of (P := Try.prog) (Value.int .i64) 0 53 3 .i64 Try.underlying53 hi051 hsz51 (some ad217) c208_0 (rd_L1 y205 x52_2) x70_3 (of_decide_eq_true ka) (of_decide_eq_true ka) HC208_0.out
                       have HR219 := Aside0.mk (Kd.C_of_reads (h1 := fun _ => rfl) (hA51 _ (Kd.reads_of_C HR208_0.out)))
                       have HC219 := Aside0.mk hC51
                       clear hC51 hi051 hsz51
                       go_wp2
                       go_loopg [92] kj43 (fun kq v92 w' => ∃ (x92_5 : Int), v92 = .int .i64 x92_5 ∧ Aside0 (ephemerisref1_RecurError.l2 kq x52_2 (rd_L1 y205 x52_2) (rd y209 x52_2) (rd y213 x52_2) (rd (rd_L1 y205 x52_2) x70_3) y205 (y205.length : Int) x52_2 (rd_L1 y205 x52_2) ((rd_L1 y205 x52_2).length : Int) x70_3 ((rd_L1 y205 x52_2).take (x70_3 : Int).toNat) (((rd_L1 y205 x52_2).take (x70_3 : Int).toNat).length : Int) x92_5 = some r) ∧ Aside0 (kq ≤ kj43) ∧ Aside0 (Kd.N (Kd.slice 3 (Kd.int .i64)) 53 w' w.heap.size (fun k_ => ((P0_5_ k_ ∨ P0_6_ k_ ∨ P0_7_ k_) ∨ w.heap.size ≤ k_) ∧ k_ ≠ gb199) (.slice (some ad208) y205.length co24) y205) ∧ Aside0 (Kd.V (Kd.int .i64) 3 w' w.heap.size (fun k_ => ((P0_5_ k_ ∨ P0_6_ k_ ∨ P0_7_ k_) ∨ w.heap.size ≤ k_) ∧ some k_ ≠ ((.slice (some ad208) y205.length co24) : Value).ownBlock ∧ k_ ≠ gb199) (.slice A0_5 l0_5.length c0_5) l0_5) ∧ Aside0 (Kd.V (Kd.int .i64) 3 w' w.heap.size (fun k_ => ((P0_5_ k_ ∨ P0_6_ k_ ∨ P0_7_ k_) ∨ w.heap.size ≤ k_) ∧ some k_ ≠ ((.slice (some ad208) y205.length co24) : Value).ownBlock ∧ k_ ≠ gb199) (.slice A0_6 l0_6.length c0_6) l0_6) ∧ Aside0 (Kd.V (Kd.int .i64) 3 w' w.heap.size (fun k_ => ((P0_5_ k_ ∨ P0_6_ k_ ∨ P0_7_ k_) ∨ w.heap.size ≤ k_) ∧ some k_ ≠ ((.slice (some ad208) y205.length co24) : Value).ownBlock ∧ k_ ≠ gb199) (.slice A0_7 l0_7.length c0_7) l0_7) ∧ Aside0 (w'.heap[gb199]? = some (.cells #[.int .i64 a0_0, .int .i64 a0_1, .int .i64 a0_2, .int .i64 a0_3, .int .i64 a0_4, (.slice A0_5 l0_5.length c0_5), (.slice A0_6 l0_6.length c0_6), (.slice A0_7 l0_7.length c0_7)] 64 (0, 0))) ∧ Aside0 (Below w.heap.size w w') ∧ Aside0 (Kd.V (Kd.int .i64) 3 w' w.heap.size (fun k_ => ((P0_5_ k_ ∨ P0_6_ k_ ∨ P0_7_ k_) ∨ w.heap.size ≤ k_) ∧ some k_ ≠ ((.slice (some ad208) y205.length co24) : Value).ownBlock ∧ k_ ≠ gb199) (.slice (some ad217) (rd_L1 y205 x52_2).length c208_0) (rd_L1 y205 x52_2)))
                       case atStart => exact ⟨(0), rs, H', ⟨Nat.le_refl _⟩, ⟨by (with_reducible repeat (first | apply Kd.N_alloc | apply Kd.N_drewN | apply Kd.N_drew)); exact HO_50.out⟩, ⟨by (with_reducible repeat (first | apply Kd.V_alloc | apply Kd.V_drewN | apply Kd.V_drew)); exact HO_200005.out⟩, ⟨by (with_reducible repeat (first | apply Kd.V_alloc | apply Kd.V_drewN | apply Kd.V_drew)); exact HO_200006.out⟩, ⟨by (with_reducible repeat (first | apply Kd.V_alloc | apply Kd.V_drewN | apply Kd.V_drew)); exact HO_200007.out⟩, ⟨bk BK199⟩, ⟨be⟩, ⟨by (with_reducible repeat (first | apply Kd.V_alloc | apply Kd.V_drewN | apply Kd.V_drew)); exact HL208_0.out⟩⟩
                       case round =>
                        clear H'
                        (try clear c1); (try clear c2); (try clear p2); (try clear q2); (try clear hx2); (try clear qi2); (try clear c3); (try clear c4); (try clear c5); (try clear c8); (try clear c10); (try clear c12); (try clear c13); (try clear c13b0); (try clear c20); (try clear p20); (try clear q20); (try clear hx20); (try clear p21); (try clear q21); (try clear hx21); (try clear qi21); (try clear c25); (try clear c25b0); (try clear c26); (try clear c26b0); (try clear c27); (try clear c27b0); (try clear c28); (try clear c28b0); (try clear c28b1); (try clear c29); (try clear c29b0); (try clear c30); (try clear c30b0); (try clear c41); (try clear c41b0); (try clear c42); (try clear c42b0); (try clear c43); (try clear c43b0); (try clear c46); (try clear c47); (try clear c47b0); (try clear c47b1); (try clear c48); (try clear c49); (try clear c49b0); (try clear c49b1); (try clear c50); (try clear c50b0); (try clear c50b1); (try clear hcz14_0); (try clear hcz14_1); (try clear hcz14_2); (try clear hcz14_3); (try clear hcz14_4); (try clear hcz14_5); (try clear hcz14_6); (try clear hcz14_7); (try clear hcz16_0); (try clear hcz16_1); (try clear hcz16_2); (try clear hcz16_3); (try clear hcz16_4); (try clear hcz16_5); (try clear hcz16_6); (try clear hcz16_7); (try clear hcz17_0); (try clear hcz17_1); (try clear hcz17_2); (try clear hcz17_3); (try clear hcz17_4); (try clear hcz17_5); (try clear hcz17_6); (try clear hcz17_7); (try clear hcz18_0); (try clear hcz18_1); (try clear hcz18_2); (try clear hcz18_3); (try clear hcz18_4); (try clear hcz18_5); (try clear hcz18_6); (try clear hcz18_7); (try clear hcz19_0); (try clear hcz19_1); (try clear hcz19_2); (try clear hcz19_3); (try clear hcz19_4); (try clear hcz19_5); (try clear hcz19_6); (try clear hcz19_7); (try clear hcz21_0); (try clear hcz21_1); (try clear hcz21_2); (try clear hcz21_3); (try clear hcz21_4); (try clear hcz21_5); (try clear hcz21_6); (try clear hcz21_7); (try clear hcz6_0); (try clear hcz6_1); (try clear hcz6_2); (try clear hcz6_3); (try clear hcz6_4); (try clear hcz6_5); (try clear hcz6_6); (try clear hcz6_7); (try clear hfz14_0); (try clear hfz14_1); (try clear hfz14_2); (try clear hfz14_3); (try clear hfz14_4); (try clear hfz14_5); (try clear hfz14_6); (try clear hfz14_7); (try clear hfz16_0); (try clear hfz16_1); (try clear hfz16_2); (try clear hfz16_3); (try clear hfz16_4); (try clear hfz16_5); (try clear hfz16_6); (try clear hfz16_7); (try clear hfz17_0); (try clear hfz17_1); (try clear hfz17_2); (try clear hfz17_3); (try clear hfz17_4); (try clear hfz17_5); (try clear hfz17_6); (try clear hfz17_7); (try clear hfz18_0); (try clear hfz18_1); (try clear hfz18_2); (try clear hfz18_3); (try clear hfz18_4); (try clear hfz18_5); (try clear hfz18_6); (try clear hfz18_7); (try clear hfz19_0); (try clear hfz19_1); (try clear hfz19_2); (try clear hfz19_3); (try clear hfz19_4); (try clear hfz19_5); (try clear hfz19_6); (try clear hfz19_7); (try clear hfz21_0); (try clear hfz21_1); (try clear hfz21_2); (try clear hfz21_3); (try clear hfz21_4); (try clear hfz21_5); (try clear hfz21_6); (try clear hfz21_7); (try clear hfz6_0); (try clear hfz6_1); (try clear hfz6_2); (try clear hfz6_3); (try clear hfz6_4); (try clear hfz6_5); (try clear hfz6_6); (try clear hfz6_7); (try clear hx208_0); (try clear hx217_0); (try clear p2); (try clear p20); (try clear p208); (try clear p21); (try clear p217); (try clear q2); (try clear q20); (try clear q208); (try clear q21); (try clear q217)
                        obtain ⟨x92_5, rfl, HA, HK5, HO_50, HO_200005, HO_200006, HO_200007, BK199, HB, HL208_0⟩ := hrel
                        have HR208_0 := Aside0.mk (Kd.V_reads' HL208_0.out).2.2
                        have HR219 := Aside0.mk (Kd.C_of_reads (h1 := fun _ => rfl) (hA51 _ (Kd.reads_of_C HR208_0.out)))
                        cases gk with
                        | zero => exact absurd HA.out (by simp [ephemerisref1_RecurError.l2])
                        | succ k5 =>
                         have H := HA.out
                         clear HA
                         simp only [ephemerisref1_RecurError.l2] at H
                         by_cases c52 : x92_5 < (((rd_L1 y205 x52_2).take (x70_3 : Int).toNat).length : Int)
                         ·rw [if_pos c52] at H
                          have c52b0 : decide (x92_5 < (((rd_L1 y205 x52_2).take (x70_3 : Int).toNat).length : Int)) = true := decide_eq_true c52
                          have c52m : decide (x92_5 < max x70_3 0) = true := by rw [← hmx_]; exact c52b0
                          have c52p : (x92_5 < max x70_3 0) = True := eq_true (of_decide_eq_true c52m)
                          clear c52
                          by_cases c53 : 0 ≤ x92_5
                          ·rw [if_pos c53] at H
                           have c53b0 : decide (0 ≤ x92_5) = true := decide_eq_true c53
                           clear c53
                           by_cases c54 : x92_5 < (((rd_L1 y205 x52_2).take (x70_3 : Int).toNat).length : Int)
                           ·rw [if_pos c54] at H
                            have c54b0 : decide (x92_5 < (((rd_L1 y205 x52_2).take (x70_3 : Int).toNat).length : Int)) = true := decide_eq_true c54
                            have c54m : decide (x92_5 < max x70_3 0) = true := by rw [← hmx_]; exact c54b0
                            have c54p : (x92_5 < max x70_3 0) = True := eq_true (of_decide_eq_true c54m)
                            clear c54
                            by_cases c55 : (rd ((rd_L1 y205 x52_2).take (x70_3 : Int).toNat) x92_5) = (rd (rd_L1 y205 x52_2) x70_3)
                            ·rw [if_pos c55] at H
                             have c55b0 : ((rd ((rd_L1 y205 x52_2).take (x70_3 : Int).toNat) x92_5) == (rd (rd_L1 y205 x52_2) x70_3)) = true := beq_iff_eq.mpr c55
                             have c55b1 : ((rd ((rd_L1 y205 x52_2).take (x70_3 : Int).toNat) x92_5) != (rd (rd_L1 y205 x52_2) x70_3)) = false := bne_eq_false_iff_eq.mpr c55
                             clear c55
                             obtain rfl := Option.some.inj H
                             have p220 : 0 ≤ (x92_5 : Int) := of_decide_eq_true ka
                             have q220 : x92_5 < (((rd_L1 y205 x52_2).take (x70_3 : Int).toNat).length : Int) := of_decide_eq_true ka
                             obtain ⟨ad220, e220, hx220_0⟩ := Kd.at_int HR219.out x92_5 p220 q220
                             obtain rfl : ad217 = ad220 := (by injection e220)
                             replace p220 := eq_true p220
                             replace q220 := eq_true q220
                             go_wp2
                             go_ret
                             exact ⟨by first | rfl | (simp [errW_none, errW_some] <;> rfl) | (simp [*, errW_none, errW_some] <;> rfl), be⟩
                            ·rw [if_neg c55] at H
                             have c55b0 : ((rd ((rd_L1 y205 x52_2).take (x70_3 : Int).toNat) x92_5) == (rd (rd_L1 y205 x52_2) x70_3)) = false := beq_eq_false_iff_ne.mpr c55
                             have c55b1 : ((rd ((rd_L1 y205 x52_2).take (x70_3 : Int).toNat) x92_5) != (rd (rd_L1 y205 x52_2) x70_3)) = true := bne_iff_ne.mpr c55
                             have H' := Aside0.mk H
                             clear H
                             have p220 : 0 ≤ (x92_5 : Int) := of_decide_eq_true ka
                             have q220 : x92_5 < (((rd_L1 y205 x52_2).take (x70_3 : Int).toNat).length : Int) := of_decide_eq_true ka
                             obtain ⟨ad220, e220, hx220_0⟩ := Kd.at_int HR219.out x92_5 p220 q220
                             obtain rfl : ad217 = ad220 := (by injection e220)
                             replace p220 := eq_true p220
                             replace q220 := eq_true q220
                             go_wp2
                             go_roundg k5
                             case measure => have := HJ3.out; have := HK2.out; have := HK3.out; have := HJ43.out; have := HK5.out; omega
                             case rel => exact ⟨(wrap64 (x92_5 + 1)), rs, H', ⟨by have := HJ3.out; have := HK2.out; have := HK3.out; have := HJ43.out; have := HK5.out; omega⟩, ⟨by (with_reducible repeat (first | apply Kd.N_alloc | apply Kd.N_drewN | apply Kd.N_drew)); exact HO_50.out⟩, ⟨by (with_reducible repeat (first | apply Kd.V_alloc | apply Kd.V_drewN | apply Kd.V_drew)); exact HO_200005.out⟩, ⟨by (with_reducible repeat (first | apply Kd.V_alloc | apply Kd.V_drewN | apply Kd.V_drew)); exact HO_200006.out⟩, ⟨by (with_reducible repeat (first | apply Kd.V_alloc | apply Kd.V_drewN | apply Kd.V_drew)); exact HO_200007.out⟩, ⟨bk BK199⟩, ⟨be⟩, ⟨by (with_reducible repeat (first | apply Kd.V_alloc | apply Kd.V_drewN | apply Kd.V_drew)); exact HL208_0.out⟩⟩
                           ·rw [if_neg c54] at H
                            exact absurd H (by simp)
                          ·rw [if_neg c53] at H
                           exact absurd H (by simp)
                         ·rw [if_neg c52] at H
                          have c52b0 : decide (x92_5 < (((rd_L1 y205 x52_2).take (x70_3 : Int).toNat).length : Int)) = false := decide_eq_false c52
                          have c52m : decide (x92_5 < max x70_3 0) = false := by rw [← hmx_]; exact c52b0
                          clear c52
                          have H' := Aside0.mk H
                          clear H
                          go_wp2
                          go_roundg k5
                          case measure => have := HJ3.out; have := HK2.out; have := HK3.out; have := HJ43.out; have := HK5.out; omega
                          case rel => exact ⟨(wrap64 (x70_3 + 1)), rs, H', ⟨by have := HJ3.out; have := HK2.out; have := HK3.out; have := HJ43.out; have := HK5.out; omega⟩, ⟨by (with_reducible repeat (first | apply Kd.N_alloc | apply Kd.N_drewN | apply Kd.N_drew)); exact HO_50.out⟩, ⟨by (with_reducible repeat (first | apply Kd.V_alloc | apply Kd.V_drewN | apply Kd.V_drew)); exact HO_200005.out⟩, ⟨by (with_reducible repeat (first | apply Kd.V_alloc | apply Kd.V_drewN | apply Kd.V_drew)); exact HO_200006.out⟩, ⟨by (with_reducible repeat (first | apply Kd.V_alloc | apply Kd.V_drewN | apply Kd.V_drew)); exact HO_200007.out⟩, ⟨bk BK199⟩, ⟨be⟩, ⟨by (with_reducible repeat (first | apply Kd.V_alloc | apply Kd.V_drewN | apply Kd.V_drew)); exact HL208_0.out⟩⟩
                      ·rw [if_neg c50] at H
                       exact absurd H (by simp)
                     ·rw [if_neg c49] at H
                      exact absurd H (by simp)
                 ·rw [if_neg c43] at H
                  exact absurd H (by simp)
                ·rw [if_neg c42] at H
                 exact absurd H (by simp)
               ·rw [if_neg c41] at H
                have c41b0 : decide (x70_3 < ((rd_L1 y205 x52_2).length : Int)) = false := decide_eq_false c41
                clear c41
                have H' := Aside0.mk H
                clear H
                go_wp2
                go_roundg k3
                case measure => have := HJ3.out; have := HK2.out; have := HK3.out; omega
                case rel => exact ⟨(wrap64 (x52_2 + 1)), rs, H', ⟨by have := HJ3.out; have := HK2.out; have := HK3.out; omega⟩, ⟨by (with_reducible repeat (first | apply Kd.N_alloc | apply Kd.N_drewN | apply Kd.N_drew)); exact HO_50.out⟩, ⟨by (with_reducible repeat (first | apply Kd.V_alloc | apply Kd.V_drewN | apply Kd.V_drew)); exact HO_200005.out⟩, ⟨by (with_reducible repeat (first | apply Kd.V_alloc | apply Kd.V_drewN | apply Kd.V_drew)); exact HO_200006.out⟩, ⟨by (with_reducible repeat (first | apply Kd.V_alloc | apply Kd.V_drewN | apply Kd.V_drew)); exact HO_200007.out⟩, ⟨bk BK199⟩, ⟨be⟩⟩
            ·rw [if_neg c30] at H
             exact absurd H (by simp)
           ·rw [if_neg c29] at H
            exact absurd H (by simp)
         ·rw [if_neg c27] at H
          exact absurd H (by simp)
        ·rw [if_neg c26] at H
         exact absurd H (by simp)
       ·rw [if_neg c25] at H
        have c25b0 : decide (x52_2 < (y205.length : Int)) = false := decide_eq_false c25
        clear c25
        obtain rfl := Option.some.inj H
        go_wp2
        go_ret
        exact ⟨by first | rfl | (simp [errW_none, errW_some] <;> rfl) | (simp [*, errW_none, errW_some] <;> rfl), be⟩
 ·replace c3 := Bool.eq_false_iff.mpr c3
  subst c3
  have H1 : (some 1) = some r := by rw [if_neg (show ¬ (false = true) by decide)] at H; exact H
  clear H
  have H := H1
  clear H1
  obtain rfl := Option.some.inj H
  go_enter Try.func30, Try.ntmps30
  go_wp2_with (first | ((with_reducible refine gate_dst (N := 1) rfl ?_); refine box_event ?hg (N := 1) ?hd (cs := #[.int .i64 a0_0, .int .i64 a0_1, .int .i64 a0_2, .int .i64 a0_3, .int .i64 a0_4, .slice A0_5 l0_5.length c0_5, .slice A0_6 l0_6.length c0_6, .slice A0_7 l0_7.length c0_7]) (t := 64) ?hr ?_; (case hd => rfl); (case hg => rfl); (case hr => first | (go_simp; done) | (go_simp; rfl)); intro gb199 hg w56 hbox hb; have n0_ := Aside0.mk (Kd.V_below (Kd.V_elderB (by (with_reducible repeat (first | apply Kd.V_alloc | apply Kd.V_drewN | apply Kd.V_drew)); exact HO0_5.out) gb199 (Nat.le_of_eq hg.symm)) hb); have n1_ := Aside0.mk (Kd.V_below (Kd.V_elderB (by (with_reducible repeat (first | apply Kd.V_alloc | apply Kd.V_drewN | apply Kd.V_drew)); exact HO0_6.out) gb199 (Nat.le_of_eq hg.symm)) hb); have n2_ := Aside0.mk (Kd.V_below (Kd.V_elderB (by (with_reducible repeat (first | apply Kd.V_alloc | apply Kd.V_drewN | apply Kd.V_drew)); exact HO0_7.out) gb199 (Nat.le_of_eq hg.symm)) hb); have n3_ := Aside0.mk (below_step be hb); have n4_ := Aside0.mk (hbox); have n5_ := gs hg HB; have n6_ := n5_; clear HO0_5; clear HO0_6; clear HO0_7; clear HB; have HO0_5 := n0_; have HO0_6 := n1_; have HO0_7 := n2_; have HB := n3_; have BK199 := n4_; have GW199 := n5_; have GE199 := n6_; clear n0_ n1_ n2_ n3_ n4_ n5_ n6_; clear hb hbox hg; obtain ⟨hcz57_0, hcz57_1, hcz57_2, hcz57_3, hcz57_4, hcz57_5, hcz57_6, hcz57_7, hfz57_0, hfz57_1, hfz57_2, hfz57_3, hfz57_4, hfz57_5, hfz57_6, hfz57_7⟩ := bc8 BK199) | ((with_reducible refine gate_callee (f := 8) rfl ?_); refine goesL_ (some 13) rfl rfl Try.func8 kx rfl #[.int .i64 a0_0, .int .i64 1, .int .i64 4] rfl aa ?_; (with_reducible refine (ephemerisref1_In.calls a0_0 1 4 false _ A2.out).mono ?_); rintro e w' ⟨rfl, ⟨nd, rfl⟩⟩; refine ⟨_, rfl, ?_⟩))
  go_ret
  exact ⟨by first | rfl | (simp [errW_none, errW_some] <;> rfl) | (simp [*, errW_none, errW_some] <;> rfl), be⟩

end Go.Proofs.Ytgcmclnjnimolaa.PRecurNormals
