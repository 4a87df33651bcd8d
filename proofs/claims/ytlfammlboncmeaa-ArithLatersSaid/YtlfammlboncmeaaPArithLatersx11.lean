/- The walks of the functions of this part. The proof of ephemerisref1_Years_ToDay (in part), ephemerisref1_Years_Later is written by hand; the other ones are as the kit's print tells them. -/
-- The walks of the law's functions, told by a program.
import Derived.Test.YtlfammlboncmeaaY
import Derived.Test.YtlfammlboncmeaaPArithLatersx0
import Derived.Test.YtlfammlboncmeaaPArithLatersx5
import Derived.Test.YtlfammlboncmeaaPArithLatersx9
import Derived.Test.YtlfammlboncmeaaPArithLatersx10
namespace Go.Proofs.Ytlfammlboncmeaa.PArithLaters
open Go.RowKit Go.Proofs.YtlfammlboncmeaaW.PrintWords Go.Proofs.YtlfammlboncmeaaW.PrintLast Go.Proofs.YtlfammlboncmeaaW.PrintMore Go.Proofs.Ytlfammlboncmeaa.Y
attribute [local go_sem] max2_int min2_int max_two min_two max_three min_three max_four min_four   -- for this text's walks alone
set_option linter.unusedVariables false
set_option linter.unusedSimpArgs false

/-! ### ephemerisref1_Years_ToDay: function 72 -/
mutual
def ephemerisref1_Years_ToDay.j0 : Nat → Bool → ByteArray → Int → Int → List (S125) → List Int → List Bool → Int → Int → Int → Int → Int → Int → Option (Int × Int)
 | 0, _, _, _, _, _, _, _, _, _, _, _, _, _ => none
 | k + 1, x31, x261000, x261001, x261002, x261003, x261004, x261005, x261006, x261007, x261008, x262000, x262001, x262002 => if x31 = true then (some (0, 1)) else ((ephemerisref1_Years_NewYear.f k x261000 x261001 x261002 x261003 x261004 x261005 x261006 x261007 x261008 x262000).bind fun t266 => (ephemerisref1_Years_ToDay.l0 k (wrap64 ((wrap64 (t266 + x262002)) - 1)) 1 x261000 x261001 x261002 x261003 x261004 x261005 x261006 x261007 x261008 x262000 x262001 x262002))
def ephemerisref1_Years_ToDay.l0 : Nat → Int → Int → ByteArray → Int → Int → List (S125) → List Int → List Bool → Int → Int → Int → Int → Int → Int → Option (Int × Int)
 | 0, _, _, _, _, _, _, _, _, _, _, _, _, _, _ => none
 | k + 1, x6, x7, x261000, x261001, x261002, x261003, x261004, x261005, x261006, x261007, x261008, x262000, x262001, x262002 => if x7 < x262001 then ((ephemerisref1_Years_Month.f k x261000 x261001 x261002 x261003 x261004 x261005 x261006 x261007 x261008 x262000 x7).bind fun t267 => (ephemerisref1_Years_ToDay.l0 k (wrap64 (x6 + t267)) (wrap64 (x7 + 1)) x261000 x261001 x261002 x261003 x261004 x261005 x261006 x261007 x261008 x262000 x262001 x262002)) else ((ephemerisref1_Day.f x6).bind fun t268 => (if t268 = true then (some (x6, 0)) else (some (0, 3))))
end
def ephemerisref1_Years_ToDay.f (k : Nat) (a0_0 : ByteArray) (a0_1 : Int) (a0_2 : Int) (l0_3 : List (S125)) (l0_4 : List Int) (l0_5 : List Bool) (a0_6 : Int) (a0_7 : Int) (a0_8 : Int) (a1_0 : Int) (a1_1 : Int) (a1_2 : Int) : Option (Int × Int) := (ephemerisref1_In.f a1_0 (-10000) 10000).bind fun t262 => (if t262 = true then ((ephemerisref1_In.f a1_1 1 (l0_3.length : Int)).bind fun t263 => (if t263 = true then ((ephemerisref1_Years_Month.f k a0_0 a0_1 a0_2 l0_3 l0_4 l0_5 a0_6 a0_7 a0_8 a1_0 a1_1).bind fun t264 => ((ephemerisref1_In.f a1_2 1 t264).bind fun t265 => (ephemerisref1_Years_ToDay.j0 k (!t265) a0_0 a0_1 a0_2 l0_3 l0_4 l0_5 a0_6 a0_7 a0_8 a1_0 a1_1 a1_2))) else (ephemerisref1_Years_ToDay.j0 k true a0_0 a0_1 a0_2 l0_3 l0_4 l0_5 a0_6 a0_7 a0_8 a1_0 a1_1 a1_2))) else (some (0, 3)))
theorem ephemerisref1_Years_ToDay.mono_l : ∀ k, (∀ y0 y1 y2 y3 y4 y5 y6 y7 y8 y9 y10 y11 y12, LeO (ephemerisref1_Years_ToDay.j0 k y0 y1 y2 y3 y4 y5 y6 y7 y8 y9 y10 y11 y12) (ephemerisref1_Years_ToDay.j0 (k + 1) y0 y1 y2 y3 y4 y5 y6 y7 y8 y9 y10 y11 y12)) ∧ (∀ y0 y1 y2 y3 y4 y5 y6 y7 y8 y9 y10 y11 y12 y13, LeO (ephemerisref1_Years_ToDay.l0 k y0 y1 y2 y3 y4 y5 y6 y7 y8 y9 y10 y11 y12 y13) (ephemerisref1_Years_ToDay.l0 (k + 1) y0 y1 y2 y3 y4 y5 y6 y7 y8 y9 y10 y11 y12 y13))
 | 0 => ⟨fun _ _ _ _ _ _ _ _ _ _ _ _ _ r h => by simp [ephemerisref1_Years_ToDay.j0] at h, fun _ _ _ _ _ _ _ _ _ _ _ _ _ _ r h => by simp [ephemerisref1_Years_ToDay.l0] at h⟩
 | k + 1 => by
  obtain ⟨ih0, ih1⟩ := ephemerisref1_Years_ToDay.mono_l k
  refine ⟨?_, ?_⟩
  ·intro y0 y1 y2 y3 y4 y5 y6 y7 y8 y9 y10 y11 y12
   unfold ephemerisref1_Years_ToDay.j0
   repeat' first
   | (with_reducible exact ih0 _ _ _ _ _ _ _ _ _ _ _ _ _)
   | (with_reducible exact ih1 _ _ _ _ _ _ _ _ _ _ _ _ _ _)
   | (with_reducible exact ephemerisref1_Years_Month.mono _ _ _ _ _ _ _ _ _ _ _ _)
   | (with_reducible exact ephemerisref1_Years_NewYear.mono _ _ _ _ _ _ _ _ _ _ _)
   | (with_reducible exact LeO.refl _)
   | (with_reducible exact LeO.none _)
   | (with_reducible refine LeO.ite ?_ ?_)
   | (with_reducible refine LeO.bind ?_ (fun _ => ?_))
   | exact ih0 _ _ _ _ _ _ _ _ _ _ _ _ _
   | exact ih1 _ _ _ _ _ _ _ _ _ _ _ _ _ _
   | exact ephemerisref1_Years_Month.mono _ _ _ _ _ _ _ _ _ _ _ _
   | exact ephemerisref1_Years_NewYear.mono _ _ _ _ _ _ _ _ _ _ _
   | exact LeO.none _
   | refine LeO.ite ?_ ?_
   | refine LeO.bind ?_ (fun _ => ?_)
  ·intro y0 y1 y2 y3 y4 y5 y6 y7 y8 y9 y10 y11 y12 y13
   unfold ephemerisref1_Years_ToDay.l0
   repeat' first
   | (with_reducible exact ih0 _ _ _ _ _ _ _ _ _ _ _ _ _)
   | (with_reducible exact ih1 _ _ _ _ _ _ _ _ _ _ _ _ _ _)
   | (with_reducible exact ephemerisref1_Years_Month.mono _ _ _ _ _ _ _ _ _ _ _ _)
   | (with_reducible exact ephemerisref1_Years_NewYear.mono _ _ _ _ _ _ _ _ _ _ _)
   | (with_reducible exact LeO.refl _)
   | (with_reducible exact LeO.none _)
   | (with_reducible refine LeO.ite ?_ ?_)
   | (with_reducible refine LeO.bind ?_ (fun _ => ?_))
   | exact ih0 _ _ _ _ _ _ _ _ _ _ _ _ _
   | exact ih1 _ _ _ _ _ _ _ _ _ _ _ _ _ _
   | exact ephemerisref1_Years_Month.mono _ _ _ _ _ _ _ _ _ _ _ _
   | exact ephemerisref1_Years_NewYear.mono _ _ _ _ _ _ _ _ _ _ _
   | exact LeO.none _
   | refine LeO.ite ?_ ?_
   | refine LeO.bind ?_ (fun _ => ?_)
theorem ephemerisref1_Years_ToDay.mono : ∀ a0 a1 a2 a3 a4 a5 a6 a7 a8 a9 a10 a11 k, LeO (ephemerisref1_Years_ToDay.f k a0 a1 a2 a3 a4 a5 a6 a7 a8 a9 a10 a11) (ephemerisref1_Years_ToDay.f (k + 1) a0 a1 a2 a3 a4 a5 a6 a7 a8 a9 a10 a11) := by
 intro a0 a1 a2 a3 a4 a5 a6 a7 a8 a9 a10 a11 k
 obtain ⟨ih0, ih1⟩ := ephemerisref1_Years_ToDay.mono_l k
 unfold ephemerisref1_Years_ToDay.f
 repeat' first
   | (with_reducible exact ih0 _ _ _ _ _ _ _ _ _ _ _ _ _)
   | (with_reducible exact ih1 _ _ _ _ _ _ _ _ _ _ _ _ _ _)
   | (with_reducible exact ephemerisref1_Years_Month.mono _ _ _ _ _ _ _ _ _ _ _ _)
   | (with_reducible exact ephemerisref1_Years_NewYear.mono _ _ _ _ _ _ _ _ _ _ _)
   | (with_reducible exact LeO.refl _)
   | (with_reducible exact LeO.none _)
   | (with_reducible refine LeO.ite ?_ ?_)
   | (with_reducible refine LeO.bind ?_ (fun _ => ?_))
   | exact ih0 _ _ _ _ _ _ _ _ _ _ _ _ _
   | exact ih1 _ _ _ _ _ _ _ _ _ _ _ _ _ _
   | exact ephemerisref1_Years_Month.mono _ _ _ _ _ _ _ _ _ _ _ _
   | exact ephemerisref1_Years_NewYear.mono _ _ _ _ _ _ _ _ _ _ _
   | exact LeO.none _
   | refine LeO.ite ?_ ?_
   | refine LeO.bind ?_ (fun _ => ?_)
def ephemerisref1_Years_ToDay.T3 : Bool × List (List Nat × List Nat) := (true, [([], []), ([0], [0]), ([], []), ([2], [2]), ([3], [3]), ([4], [4]), ([1, 5], [1, 5]), ([6], [6]), ([7, 6], [7]), ([8], [8]), ([9, 8], [8, 9]), ([8], [8]), ([8], [8]), ([12, 8], [8, 12]), ([8], [8]), ([14, 8], [8, 14]), ([11, 13, 15, 8, 8], [8, 11, 13, 15]), ([10, 16, 16, 8], [8, 10, 16]), ([17, 8], [8, 17]), ([8, 18], [8, 18])])
def ephemerisref1_Years_ToDay.B3 : List Nat := [0, 1, 0, 4, 12, 28, 63, 127, 255, 511, 1023, 511, 511, 4607, 511, 16895, 63999, 131071, 262143, 524287]
theorem ephemerisref1_Years_ToDay.tab3 : rtab .any (opsOf Try.f72 3) = ephemerisref1_Years_ToDay.T3 := by kernel_rfl
theorem ephemerisref1_Years_ToDay.bits3 : waitsOk ephemerisref1_Years_ToDay.T3.2 ephemerisref1_Years_ToDay.B3 = true := by kernel_rfl
def ephemerisref1_Years_ToDay.T5 : Bool × List (List Nat × List Nat) := (true, [([], []), ([], []), ([1], [1]), ([0, 2], [0, 2]), ([], []), ([4], [4]), ([3, 5], [3, 5]), ([6], [6]), ([7, 3, 0, 1, 2, 3, 4, 5, 6, 7], [7])])
def ephemerisref1_Years_ToDay.B5 : List Nat := [0, 0, 2, 7, 0, 16, 63, 127, 255]
theorem ephemerisref1_Years_ToDay.tab5 : rtab .any (opsOf Try.f72 5) = ephemerisref1_Years_ToDay.T5 := by kernel_rfl
theorem ephemerisref1_Years_ToDay.bits5 : waitsOk ephemerisref1_Years_ToDay.T5.2 ephemerisref1_Years_ToDay.B5 = true := by kernel_rfl
set_option maxHeartbeats 8000000 in
set_option maxRecDepth 100000 in
theorem ephemerisref1_Years_ToDay.calls (k : Nat) (a0_0 : ByteArray) (a0_1 : Int) (a0_2 : Int) (A0_3 : Option Addr) (c0_3 : Nat) (l0_3 : List (S125)) (A0_4 : Option Addr) (c0_4 : Nat) (l0_4 : List Int) (A0_5 : Option Addr) (c0_5 : Nat) (l0_5 : List Bool) (a0_6 : Int) (a0_7 : Int) (a0_8 : Int) (a1_0 : Int) (a1_1 : Int) (a1_2 : Int) (r1 : Int) (r2 : Int) (w : World) (hr0_3 : Kd.C k125 w A0_3 l0_3.length l0_3) (hc0_3 : l0_3.length ≤ c0_3) (hr0_4 : Kd.C (Kd.int .i64) w A0_4 l0_4.length l0_4) (hc0_4 : l0_4.length ≤ c0_4) (hr0_5 : Kd.C Kd.bool w A0_5 l0_5.length l0_5) (hc0_5 : l0_5.length ≤ c0_5) (h : ephemerisref1_Years_ToDay.f k a0_0 a0_1 a0_2 l0_3 l0_4 l0_5 a0_6 a0_7 a0_8 a1_0 a1_1 a1_2 = some (r1, r2)) :
  Calls Try.prog 72 #[.agg #[.string a0_0, .int .i64 a0_1, .int .i64 a0_2, .slice A0_3 l0_3.length c0_3, .slice A0_4 l0_4.length c0_4, .slice A0_5 l0_5.length c0_5, .int .i64 a0_6, .int .i64 a0_7, .int .i64 a0_8], .agg #[.int .i64 a1_0, .int .i64 a1_1, .int .i64 a1_2]] w fun e w' => e = .returned (.tuple #[.int .i64 r1, .int .i64 r2]) ∧ Below w.heap.size w w' := by
 have hu53 := Try.underlying53
 have hu107 := Try.underlying107
 have HR0_3 := Aside0.mk hr0_3
 have HC0_3 := Aside0.mk hc0_3
 clear hr0_3 hc0_3
 have HR0_4 := Aside0.mk hr0_4
 have HC0_4 := Aside0.mk hc0_4
 clear hr0_4 hc0_4
 have HR0_5 := Aside0.mk hr0_5
 have HC0_5 := Aside0.mk hc0_5
 clear hr0_5 hc0_5
 have HB := Aside0.mk (Below.refl w.heap.size w)
 have H : ((ephemerisref1_In.f a1_0 (-10000) 10000).bind fun t262 => (if t262 = true then ((ephemerisref1_In.f a1_1 1 (l0_3.length : Int)).bind fun t263 => (if t263 = true then ((ephemerisref1_Years_Month.f k a0_0 a0_1 a0_2 l0_3 l0_4 l0_5 a0_6 a0_7 a0_8 a1_0 a1_1).bind fun t264 => ((ephemerisref1_In.f a1_2 1 t264).bind fun t265 => (ephemerisref1_Years_ToDay.j0 k (!t265) a0_0 a0_1 a0_2 l0_3 l0_4 l0_5 a0_6 a0_7 a0_8 a1_0 a1_1 a1_2))) else (ephemerisref1_Years_ToDay.j0 k true a0_0 a0_1 a0_2 l0_3 l0_4 l0_5 a0_6 a0_7 a0_8 a1_0 a1_1 a1_2))) else (some (0, 3)))) = some (r1, r2) := h
 clear h
 replace H := Option.bind_eq_some_iff.mp H
 obtain ⟨t262, A30, H⟩ := H
 replace H : (if t262 = true then ((ephemerisref1_In.f a1_1 1 (l0_3.length : Int)).bind fun t263 => (if t263 = true then ((ephemerisref1_Years_Month.f k a0_0 a0_1 a0_2 l0_3 l0_4 l0_5 a0_6 a0_7 a0_8 a1_0 a1_1).bind fun t264 => ((ephemerisref1_In.f a1_2 1 t264).bind fun t265 => (ephemerisref1_Years_ToDay.j0 k (!t265) a0_0 a0_1 a0_2 l0_3 l0_4 l0_5 a0_6 a0_7 a0_8 a1_0 a1_1 a1_2))) else (ephemerisref1_Years_ToDay.j0 k true a0_0 a0_1 a0_2 l0_3 l0_4 l0_5 a0_6 a0_7 a0_8 a1_0 a1_1 a1_2))) else (some (0, 3))) = some (r1, r2) := H
 have A3 := Aside0.mk A30
 clear A30
 by_cases c4 : t262 = true
 ·subst c4
  have H1 : ((ephemerisref1_In.f a1_1 1 (l0_3.length : Int)).bind fun t263 => (if t263 = true then ((ephemerisref1_Years_Month.f k a0_0 a0_1 a0_2 l0_3 l0_4 l0_5 a0_6 a0_7 a0_8 a1_0 a1_1).bind fun t264 => ((ephemerisref1_In.f a1_2 1 t264).bind fun t265 => (ephemerisref1_Years_ToDay.j0 k (!t265) a0_0 a0_1 a0_2 l0_3 l0_4 l0_5 a0_6 a0_7 a0_8 a1_0 a1_1 a1_2))) else (ephemerisref1_Years_ToDay.j0 k true a0_0 a0_1 a0_2 l0_3 l0_4 l0_5 a0_6 a0_7 a0_8 a1_0 a1_1 a1_2))) = some (r1, r2) := by rw [if_pos rfl] at H; exact H
  clear H
  have H := H1
  clear H1
  have HC5 := Aside0.mk H
  clear H
  go_enter Try.func72, Try.ntmps72
  go_upto_region 3 with (first | ((with_reducible refine gate_dst (N := 2) rfl ?_); refine box_event ?hg (N := 2) ?hd (cs := #[.string a0_0, .int .i64 a0_1, .int .i64 a0_2, .slice A0_3 l0_3.length c0_3, .slice A0_4 l0_4.length c0_4, .slice A0_5 l0_5.length c0_5, .int .i64 a0_6, .int .i64 a0_7, .int .i64 a0_8]) (t := 53) ?hr ?_; (case hd => rfl); (case hg => rfl); (case hr => first | (go_simp; done) | (go_simp; rfl)); intro gb260 hg w6 hbox hb; have n0_ := Aside0.mk (below_step be hb); have n1_ := Aside0.mk (hbox); have n2_ := gs hg HB; have n3_ := n2_; clear HB; have HB := n0_; have BK260 := n1_; have GW260 := n2_; have GE260 := n3_; clear n0_ n1_ n2_ n3_; clear hb hbox hg) | ((with_reducible refine gate_dst (N := 3) rfl ?_); refine box_event ?hg (N := 3) ?hd (cs := #[.int .i64 a1_0, .int .i64 a1_1, .int .i64 a1_2]) (t := 107) ?hr ?_; (case hd => rfl); (case hg => rfl); (case hr => first | (go_simp; done) | (go_simp; rfl)); intro gb261 hg w7 hbox hb; have n0_ := bb BK260 hb; have n1_ := Aside0.mk (below_step be hb); have n2_ := Aside0.mk (hbox); have n3_ := gs hg HB; have n4_ := n3_; have n5_ := nl BK260 hg; have n6_ := ns n5_; clear BK260; clear HB; have BK260 := n0_; have HB := n1_; have BK261 := n2_; have GW261 := n3_; have GE261 := n4_; have NB260_261 := n5_; have NB261_260 := n6_; clear n0_ n1_ n2_ n3_ n4_ n5_ n6_; clear hb hbox hg; have hnb8 := NB261_260.out; have hnc8 := NB260_261.out; obtain ⟨hcz9_0, hcz9_1, hcz9_2, hfz9_0, hfz9_1, hfz9_2⟩ := bc3 BK261) | ((with_reducible refine gate_callee (f := 21) rfl ?_); refine goesL_ (some 10) rfl rfl Try.func21 kx rfl #[.int .i64 a1_0, .int .i64 (-10000), .int .i64 10000] rfl aa ?_; (with_reducible refine (ephemerisref1_In.calls a1_0 (-10000) 10000 true _ A3.out).mono ?_); rintro e w' ⟨rfl, ⟨nd, rfl⟩⟩; refine ⟨_, rfl, ?_⟩))
  (try simp only [Act.put, List.setIfInBounds_toArray, List.set_cons_zero, List.set_cons_succ])
  go_cut [31] (fun v31 wc => ∃ (kq : Nat) (x31_4 : Bool), v31 = .bool x31_4 ∧ Aside0 (ephemerisref1_Years_ToDay.j0 kq x31_4 a0_0 a0_1 a0_2 l0_3 l0_4 l0_5 a0_6 a0_7 a0_8 a1_0 a1_1 a1_2 = some (r1, r2)) ∧ Aside0 (kq ≤ k) ∧ Aside0 (wc.heap[gb260]? = some (.cells #[.string a0_0, .int .i64 a0_1, .int .i64 a0_2, (.slice A0_3 l0_3.length c0_3), (.slice A0_4 l0_4.length c0_4), (.slice A0_5 l0_5.length c0_5), .int .i64 a0_6, .int .i64 a0_7, .int .i64 a0_8] 53 (0, 0))) ∧ Aside0 (wc.heap[gb261]? = some (.cells #[.int .i64 a1_0, .int .i64 a1_1, .int .i64 a1_2] 107 (0, 0))) ∧ Aside0 (Below w.heap.size w wc))
  case first =>
   have H := HC5.out
   clear HC5
   replace H := Option.bind_eq_some_iff.mp H
   obtain ⟨t263, A100, H⟩ := H
   replace H : (if t263 = true then ((ephemerisref1_Years_Month.f k a0_0 a0_1 a0_2 l0_3 l0_4 l0_5 a0_6 a0_7 a0_8 a1_0 a1_1).bind fun t264 => ((ephemerisref1_In.f a1_2 1 t264).bind fun t265 => (ephemerisref1_Years_ToDay.j0 k (!t265) a0_0 a0_1 a0_2 l0_3 l0_4 l0_5 a0_6 a0_7 a0_8 a1_0 a1_1 a1_2))) else (ephemerisref1_Years_ToDay.j0 k true a0_0 a0_1 a0_2 l0_3 l0_4 l0_5 a0_6 a0_7 a0_8 a1_0 a1_1 a1_2)) = some (r1, r2) := H
   have A10 := Aside0.mk A100
   clear A100
   by_cases c11 : t263 = true
   ·subst c11
    have H1 : ((ephemerisref1_Years_Month.f k a0_0 a0_1 a0_2 l0_3 l0_4 l0_5 a0_6 a0_7 a0_8 a1_0 a1_1).bind fun t264 => ((ephemerisref1_In.f a1_2 1 t264).bind fun t265 => (ephemerisref1_Years_ToDay.j0 k (!t265) a0_0 a0_1 a0_2 l0_3 l0_4 l0_5 a0_6 a0_7 a0_8 a1_0 a1_1 a1_2))) = some (r1, r2) := by rw [if_pos rfl] at H; exact H
    clear H
    have H := H1
    clear H1
    replace H := Option.bind_eq_some_iff.mp H
    obtain ⟨t264, A120, H⟩ := H
    replace H : ((ephemerisref1_In.f a1_2 1 t264).bind fun t265 => (ephemerisref1_Years_ToDay.j0 k (!t265) a0_0 a0_1 a0_2 l0_3 l0_4 l0_5 a0_6 a0_7 a0_8 a1_0 a1_1 a1_2)) = some (r1, r2) := H
    have A12 := Aside0.mk A120
    clear A120
    replace H := Option.bind_eq_some_iff.mp H
    obtain ⟨t265, A130, H⟩ := H
    replace H : (ephemerisref1_Years_ToDay.j0 k (!t265) a0_0 a0_1 a0_2 l0_3 l0_4 l0_5 a0_6 a0_7 a0_8 a1_0 a1_1 a1_2) = some (r1, r2) := H
    have A13 := Aside0.mk A130
    clear A130
    have H' := Aside0.mk H
    clear H
    try go_wp2
    generalize hq_ : World.drewN w7 _ = wq_
    obtain ⟨nd_, hnd_⟩ : ∃ n_, World.drewN w7 n_ = wq_ := ⟨_, hq_⟩
    clear hq_
    have t_ := blk_drewN BK260.out nd_
    rw [hnd_] at t_
    have m0_ := Aside0.mk t_
    clear t_
    have t_ := blk_drewN BK261.out nd_
    rw [hnd_] at t_
    have m1_ := Aside0.mk t_
    clear t_
    have t_ := pw_below_drewN (n := nd_) HB.out
    rw [hnd_] at t_
    have mB_ := Aside0.mk t_
    clear t_ hnd_
    clear BK260 BK261 HB
    have BK260 := m0_
    have BK261 := m1_
    have HB := mB_
    clear m0_ m1_ mB_
    have n0_ := Aside0.mk (blk_drew BK260.out)
    have n1_ := Aside0.mk (blk_drew BK261.out)
    have n2_ := Aside0.mk (below_drew1 HB.out)
    clear BK260
    clear BK261
    clear HB
    have BK260 := n0_
    have BK261 := n1_
    have HB := n2_
    clear n0_ n1_ n2_
    refine start_ (n := 20) (S := fun w' => w'.cell? ⟨gb261, 0, none⟩ = some (.int .i64 a1_0) ∧ w'.cell? ⟨gb261, 1, none⟩ = some (.int .i64 a1_1) ∧ w'.cell? ⟨gb261, 2, none⟩ = some (.int .i64 a1_2) ∧ w'.cell? ⟨gb260, 0, none⟩ = some (.string a0_0) ∧ w'.cell? ⟨gb260, 1, none⟩ = some (.int .i64 a0_1) ∧ w'.cell? ⟨gb260, 2, none⟩ = some (.int .i64 a0_2) ∧ w'.cell? ⟨gb260, 3, none⟩ = some (.slice A0_3 l0_3.length c0_3) ∧ w'.cell? ⟨gb260, 4, none⟩ = some (.slice A0_4 l0_4.length c0_4) ∧ w'.cell? ⟨gb260, 5, none⟩ = some (.slice A0_5 l0_5.length c0_5) ∧ w'.cell? ⟨gb260, 6, none⟩ = some (.int .i64 a0_6) ∧ w'.cell? ⟨gb260, 7, none⟩ = some (.int .i64 a0_7) ∧ w'.cell? ⟨gb260, 8, none⟩ = some (.int .i64 a0_8)) (ds := []) #[false, false, false, false, false, false, false, false, false, false, false, false, false, false, false, false, false, false, false, false] kx rfl rfl ⟨(blk_cell BK261.out 0).trans rfl, (blk_cell BK261.out 1).trans rfl, (blk_cell BK261.out 2).trans rfl, (blk_cell BK260.out 0).trans rfl, (blk_cell BK260.out 1).trans rfl, (blk_cell BK260.out 2).trans rfl, (blk_cell BK260.out 3).trans rfl, (blk_cell BK260.out 4).trans rfl, (blk_cell BK260.out 5).trans rfl, (blk_cell BK260.out 6).trans rfl, (blk_cell BK260.out 7).trans rfl, (blk_cell BK260.out 8).trans rfl⟩ (fun hHeld => ?_); refine with_tabW ephemerisref1_Years_ToDay.tab3 ephemerisref1_Years_ToDay.bits3 (fun HT_ HW_ => ?_)
    generalize wq_.drew = w14 at BK260 BK261 HB hHeld ⊢
    refine pure_ (i := 0) (N := some 12) (v := ?_) (a' := ?_) #[true, false, false, false, false, false, false, false, false, false, false, false, false, false, false, false, false, false, false, false] rfl rfl (any_of HT_.out kx) (fun _ _ _ h => h) (Or.inl ⟨by rfl, ?_⟩) ?_ ?_
    rotate_left
    ·intro w'
     go_simp
     with_reducible rfl
    rotate_left
    ·simp only [Act.put, List.setIfInBounds_toArray, List.set_cons_zero, List.set_cons_succ, i64_w, i32_w]
     rfl
    refine pure_ (i := 2) (N := some 14) (v := ?_) (a' := ?_) #[true, false, true, false, false, false, false, false, false, false, false, false, false, false, false, false, false, false, false, false] rfl rfl (any_of HT_.out kx) (fun _ _ _ h => h) (Or.inl ⟨by rfl, ?_⟩) ?_ ?_
    rotate_left
    ·intro w'
     go_simp
     with_reducible rfl
    rotate_left
    ·simp only [Act.put, List.setIfInBounds_toArray, List.set_cons_zero, List.set_cons_succ, i64_w, i32_w]
     rfl
    refine pure_ (i := 3) (N := some 15) (v := ?_) (a' := ?_) #[true, false, true, true, false, false, false, false, false, false, false, false, false, false, false, false, false, false, false, false] rfl rfl (any_of HT_.out kx) (fun _ _ _ h => h) (Or.inl ⟨by rfl, ?_⟩) ?_ ?_
    rotate_left
    ·intro w'
     go_simp
     with_reducible rfl
    rotate_left
    ·simp only [Act.put, List.setIfInBounds_toArray, List.set_cons_zero, List.set_cons_succ, i64_w, i32_w]
     rfl
    refine take_ (i := 1) (N := some 13) (v := ?_) (a' := ?_) #[true, true, true, true, false, false, false, false, false, false, false, false, false, false, false, false, false, false, false, false] rfl rfl (take_ofW HT_.out HW_.out kx) (fun _ _ _ h => h) (Or.inl ⟨by rfl, ?_⟩) hHeld ?_ ?_
    rotate_left
    ·rintro w' ⟨s0, s1, s2, s3, s4, s5, s6, s7, s8, s9, s10, s11⟩
     go_simp
     with_reducible rfl
    rotate_left
    ·simp only [Act.put, List.setIfInBounds_toArray, List.set_cons_zero, List.set_cons_succ, i64_w, i32_w]
     rfl
    refine take_ (i := 4) (N := some 16) (v := ?_) (a' := ?_) #[true, true, true, true, true, false, false, false, false, false, false, false, false, false, false, false, false, false, false, false] rfl rfl (take_ofW HT_.out HW_.out kx) (fun _ _ _ h => h) (Or.inl ⟨by rfl, ?_⟩) hHeld ?_ ?_
    rotate_left
    ·rintro w' ⟨s0, s1, s2, s3, s4, s5, s6, s7, s8, s9, s10, s11⟩
     go_simp
     with_reducible rfl
    rotate_left
    ·simp only [Act.put, List.setIfInBounds_toArray, List.set_cons_zero, List.set_cons_succ, i64_w, i32_w]
     rfl
    refine pure_ (i := 5) (N := some 17) (v := ?_) (a' := ?_) #[true, true, true, true, true, true, false, false, false, false, false, false, false, false, false, false, false, false, false, false] rfl rfl (any_of HT_.out kx) (fun _ _ _ h => h) (Or.inl ⟨by rfl, ?_⟩) ?_ ?_
    rotate_left
    ·intro w'
     go_simp
     with_reducible rfl
    rotate_left
    ·simp only [Act.put, List.setIfInBounds_toArray, List.set_cons_zero, List.set_cons_succ, i64_w, i32_w]
     rfl
    refine one_ (i := 6) (N := some 18) #[true, true, true, true, true, true, true, false, false, false, false, false, false, false, false, false, false, false, false, false] rfl rfl (one_of HT_.out kx) (by decide) (fun K hK => ?_)
    refine goes_ Try.func21 kx rfl #[.int .i64 a1_1, .int .i64 1, .int .i64 (l0_3.length : Int)] (by rfl) rfl rfl aa ?_
    with_reducible refine (ephemerisref1_In.calls a1_1 1 (l0_3.length : Int) true _ A10.out).mono ?_
    rintro e w' ⟨rfl, ⟨nd, rfl⟩⟩
    refine ⟨_, rfl, ?_⟩
    refine hK.out _ _ ⟨(blk_cell BK261.out 0).trans rfl, (blk_cell BK261.out 1).trans rfl, (blk_cell BK261.out 2).trans rfl, (blk_cell BK260.out 0).trans rfl, (blk_cell BK260.out 1).trans rfl, (blk_cell BK260.out 2).trans rfl, (blk_cell BK260.out 3).trans rfl, (blk_cell BK260.out 4).trans rfl, (blk_cell BK260.out 5).trans rfl, (blk_cell BK260.out 6).trans rfl, (blk_cell BK260.out 7).trans rfl, (blk_cell BK260.out 8).trans rfl⟩ (fun hHeld => ?_)
    clear hK K
    refine norm_ (a' := ?_) ?_ ?_
    rotate_left
    ·show Act.put _ (some 18) _ = _
     simp only [Act.put, List.setIfInBounds_toArray, List.set_cons_zero, List.set_cons_succ, i64_w, i32_w]
     rfl
    refine pure_ (i := 7) (N := some 19) (v := ?_) (a' := ?_) #[true, true, true, true, true, true, true, true, false, false, false, false, false, false, false, false, false, false, false, false] rfl rfl (any_of HT_.out kx) (fun _ _ _ h => h) (Or.inl ⟨by rfl, ?_⟩) ?_ ?_
    rotate_left
    ·intro w'
     go_simp
     with_reducible rfl
    rotate_left
    ·simp only [Act.put, List.setIfInBounds_toArray, List.set_cons_zero, List.set_cons_succ, i64_w, i32_w]
     rfl
    refine pure_ (i := 8) (N := some 20) (v := ?_) (a' := ?_) #[true, true, true, true, true, true, true, true, true, false, false, false, false, false, false, false, false, false, false, false] rfl rfl (any_of HT_.out kx) (fun _ _ _ h => h) (Or.inl ⟨by rfl, ?_⟩) ?_ ?_
    rotate_left
    ·intro w'
     go_simp
     with_reducible rfl
    rotate_left
    ·simp only [Act.put, List.setIfInBounds_toArray, List.set_cons_zero, List.set_cons_succ, i64_w, i32_w]
     rfl
    refine pure_ (i := 9) (N := some 21) (v := ?_) (a' := ?_) #[true, true, true, true, true, true, true, true, true, true, false, false, false, false, false, false, false, false, false, false] rfl rfl (any_of HT_.out kx) (fun _ _ _ h => h) (Or.inl ⟨by rfl, ?_⟩) ?_ ?_
    rotate_left
    ·intro w'
     go_simp
     with_reducible rfl
    rotate_left
    ·simp only [Act.put, List.setIfInBounds_toArray, List.set_cons_zero, List.set_cons_succ, i64_w, i32_w]
     rfl
    refine pure_ (i := 12) (N := some 24) (v := ?_) (a' := ?_) #[true, true, true, true, true, true, true, true, true, true, false, false, true, false, false, false, false, false, false, false] rfl rfl (any_of HT_.out kx) (fun _ _ _ h => h) (Or.inl ⟨by rfl, ?_⟩) ?_ ?_
    rotate_left
    ·intro w'
     go_simp
     with_reducible rfl
    rotate_left
    ·simp only [Act.put, List.setIfInBounds_toArray, List.set_cons_zero, List.set_cons_succ, i64_w, i32_w]
     rfl
    refine pure_ (i := 14) (N := some 26) (v := ?_) (a' := ?_) #[true, true, true, true, true, true, true, true, true, true, false, false, true, false, true, false, false, false, false, false] rfl rfl (any_of HT_.out kx) (fun _ _ _ h => h) (Or.inl ⟨by rfl, ?_⟩) ?_ ?_
    rotate_left
    ·intro w'
     go_simp
     with_reducible rfl
    rotate_left
    ·simp only [Act.put, List.setIfInBounds_toArray, List.set_cons_zero, List.set_cons_succ, i64_w, i32_w]
     rfl
    refine take_ (i := 10) (N := some 22) (v := ?_) (a' := ?_) #[true, true, true, true, true, true, true, true, true, true, true, false, true, false, true, false, false, false, false, false] rfl rfl (take_ofW HT_.out HW_.out kx) (fun _ _ _ h => h) (Or.inl ⟨by rfl, ?_⟩) hHeld ?_ ?_
    rotate_left
    ·rintro w' ⟨s0, s1, s2, s3, s4, s5, s6, s7, s8, s9, s10, s11⟩
     go_simp
     with_reducible rfl
    rotate_left
    ·simp only [Act.put, List.setIfInBounds_toArray, List.set_cons_zero, List.set_cons_succ, i64_w, i32_w]
     rfl
    refine take_ (i := 11) (N := some 23) (v := ?_) (a' := ?_) #[true, true, true, true, true, true, true, true, true, true, true, true, true, false, true, false, false, false, false, false] rfl rfl (take_ofW HT_.out HW_.out kx) (fun _ _ _ h => h) (Or.inl ⟨by rfl, ?_⟩) hHeld ?_ ?_
    rotate_left
    ·rintro w' ⟨s0, s1, s2, s3, s4, s5, s6, s7, s8, s9, s10, s11⟩
     go_simp
     with_reducible rfl
    rotate_left
    ·simp only [Act.put, List.setIfInBounds_toArray, List.set_cons_zero, List.set_cons_succ, i64_w, i32_w]
     rfl
    refine take_ (i := 13) (N := some 25) (v := ?_) (a' := ?_) #[true, true, true, true, true, true, true, true, true, true, true, true, true, true, true, false, false, false, false, false] rfl rfl (take_ofW HT_.out HW_.out kx) (fun _ _ _ h => h) (Or.inl ⟨by rfl, ?_⟩) hHeld ?_ ?_
    rotate_left
    ·rintro w' ⟨s0, s1, s2, s3, s4, s5, s6, s7, s8, s9, s10, s11⟩
     go_simp
     with_reducible rfl
    rotate_left
    ·simp only [Act.put, List.setIfInBounds_toArray, List.set_cons_zero, List.set_cons_succ, i64_w, i32_w]
     rfl
    refine take_ (i := 15) (N := some 27) (v := ?_) (a' := ?_) #[true, true, true, true, true, true, true, true, true, true, true, true, true, true, true, true, false, false, false, false] rfl rfl (take_ofW HT_.out HW_.out kx) (fun _ _ _ h => h) (Or.inl ⟨by rfl, ?_⟩) hHeld ?_ ?_
    rotate_left
    ·rintro w' ⟨s0, s1, s2, s3, s4, s5, s6, s7, s8, s9, s10, s11⟩
     go_simp
     with_reducible rfl
    rotate_left
    ·simp only [Act.put, List.setIfInBounds_toArray, List.set_cons_zero, List.set_cons_succ, i64_w, i32_w]
     rfl
    refine one_ (i := 16) (N := some 28) #[true, true, true, true, true, true, true, true, true, true, true, true, true, true, true, true, true, false, false, false] rfl rfl (one_of HT_.out kx) (by decide) (fun K hK => ?_)
    refine goes_ Try.func70 kx rfl #[.agg #[.string a0_0, .int .i64 a0_1, .int .i64 a0_2, .slice A0_3 l0_3.length c0_3, .slice A0_4 l0_4.length c0_4, .slice A0_5 l0_5.length c0_5, .int .i64 a0_6, .int .i64 a0_7, .int .i64 a0_8], .int .i64 a1_0, .int .i64 a1_1] (by rfl) rfl rfl aa ?_
    with_reducible refine (ephemerisref1_Years_Month.calls k a0_0 a0_1 a0_2 _ _ l0_3 _ _ l0_4 _ _ l0_5 a0_6 a0_7 a0_8 a1_0 a1_1 t264 _ ?side1 ?side2 ?side3 ?side4 ?side5 ?side6 A12.out).mono ?_
    (case side1 => repeat (first | exact (Kd.C_below HR0_3.out be) | (with_reducible refine Kd.C_alloc ?_ _) | (with_reducible refine Kd.C_drewN ?_ _) | (with_reducible refine Kd.C_drew ?_)))
    (case side2 => exact HC0_3.out)
    (case side3 => repeat (first | exact (Kd.C_below HR0_4.out be) | (with_reducible refine Kd.C_alloc ?_ _) | (with_reducible refine Kd.C_drewN ?_ _) | (with_reducible refine Kd.C_drew ?_)))
    (case side4 => exact HC0_4.out)
    (case side5 => repeat (first | exact (Kd.C_below HR0_5.out be) | (with_reducible refine Kd.C_alloc ?_ _) | (with_reducible refine Kd.C_drewN ?_ _) | (with_reducible refine Kd.C_drew ?_)))
    (case side6 => exact HC0_5.out)
    rintro e w15 ⟨rfl, hb⟩
    refine ⟨_, rfl, ?_⟩
    have n0_ := bb BK260 hb
    have n1_ := bb BK261 hb
    have n2_ := Aside0.mk (below_step be hb)
    clear BK260
    clear BK261
    clear HB
    have BK260 := n0_
    have BK261 := n1_
    have HB := n2_
    clear n0_ n1_ n2_
    (try clear hb)
    (try clear hb2)
    (try clear hk)
    (try clear hi)
    refine hK.out _ _ ⟨(blk_cell BK261.out 0).trans rfl, (blk_cell BK261.out 1).trans rfl, (blk_cell BK261.out 2).trans rfl, (blk_cell BK260.out 0).trans rfl, (blk_cell BK260.out 1).trans rfl, (blk_cell BK260.out 2).trans rfl, (blk_cell BK260.out 3).trans rfl, (blk_cell BK260.out 4).trans rfl, (blk_cell BK260.out 5).trans rfl, (blk_cell BK260.out 6).trans rfl, (blk_cell BK260.out 7).trans rfl, (blk_cell BK260.out 8).trans rfl⟩ (fun hHeld => ?_)
    clear hK K
    refine norm_ (a' := ?_) ?_ ?_
    rotate_left
    ·show Act.put _ (some 28) _ = _
     simp only [Act.put, List.setIfInBounds_toArray, List.set_cons_zero, List.set_cons_succ, i64_w, i32_w]
     rfl
    refine one_ (i := 17) (N := some 29) #[true, true, true, true, true, true, true, true, true, true, true, true, true, true, true, true, true, true, false, false] rfl rfl (one_of HT_.out kx) (by decide) (fun K hK => ?_)
    refine goes_ Try.func21 kx rfl #[.int .i64 a1_2, .int .i64 1, .int .i64 t264] (by rfl) rfl rfl aa ?_
    with_reducible refine (ephemerisref1_In.calls a1_2 1 t264 t265 _ A13.out).mono ?_
    rintro e w' ⟨rfl, ⟨nd, rfl⟩⟩
    refine ⟨_, rfl, ?_⟩
    refine hK.out _ _ ⟨(blk_cell BK261.out 0).trans rfl, (blk_cell BK261.out 1).trans rfl, (blk_cell BK261.out 2).trans rfl, (blk_cell BK260.out 0).trans rfl, (blk_cell BK260.out 1).trans rfl, (blk_cell BK260.out 2).trans rfl, (blk_cell BK260.out 3).trans rfl, (blk_cell BK260.out 4).trans rfl, (blk_cell BK260.out 5).trans rfl, (blk_cell BK260.out 6).trans rfl, (blk_cell BK260.out 7).trans rfl, (blk_cell BK260.out 8).trans rfl⟩ (fun hHeld => ?_)
    clear hK K
    refine norm_ (a' := ?_) ?_ ?_
    rotate_left
    ·show Act.put _ (some 29) _ = _
     simp only [Act.put, List.setIfInBounds_toArray, List.set_cons_zero, List.set_cons_succ, i64_w, i32_w]
     rfl
    refine pure_ (i := 18) (N := some 30) (v := ?_) (a' := ?_) #[true, true, true, true, true, true, true, true, true, true, true, true, true, true, true, true, true, true, true, false] rfl rfl (any_of HT_.out kx) (fun _ _ _ h => h) (Or.inl ⟨by rfl, ?_⟩) ?_ ?_
    rotate_left
    ·intro w'
     go_simp
     with_reducible rfl
    rotate_left
    ·simp only [Act.put, List.setIfInBounds_toArray, List.set_cons_zero, List.set_cons_succ, i64_w, i32_w]
     rfl
    refine pure_ (i := 19) (N := some 31) (v := ?_) (a' := ?_) #[true, true, true, true, true, true, true, true, true, true, true, true, true, true, true, true, true, true, true, true] rfl rfl (any_of HT_.out kx) (fun _ _ _ h => h) (Or.inl ⟨by rfl, ?_⟩) ?_ ?_
    rotate_left
    ·intro w'
     go_simp
     with_reducible rfl
    rotate_left
    ·simp only [Act.put, List.setIfInBounds_toArray, List.set_cons_zero, List.set_cons_succ, i64_w, i32_w]
     rfl
    refine done_ (done_of HT_.out kx) ?_
    try go_wp2
    go_meet
    case rel => exact ⟨_, (!t265), rs, H', ⟨by first | omega | exact Nat.le_refl _⟩, ⟨bk BK260⟩, ⟨bk BK261⟩, ⟨be⟩⟩
   ·replace c11 := Bool.eq_false_iff.mpr c11
    subst c11
    have H1 : (ephemerisref1_Years_ToDay.j0 k true a0_0 a0_1 a0_2 l0_3 l0_4 l0_5 a0_6 a0_7 a0_8 a1_0 a1_1 a1_2) = some (r1, r2) := by rw [if_neg (show ¬ (false = true) by decide)] at H; exact H
    clear H
    have H := H1
    clear H1
    have H' := Aside0.mk H
    clear H
    try go_wp2
    generalize hq_ : World.drewN w7 _ = wq_
    obtain ⟨nd_, hnd_⟩ : ∃ n_, World.drewN w7 n_ = wq_ := ⟨_, hq_⟩
    clear hq_
    have t_ := blk_drewN BK260.out nd_
    rw [hnd_] at t_
    have m0_ := Aside0.mk t_
    clear t_
    have t_ := blk_drewN BK261.out nd_
    rw [hnd_] at t_
    have m1_ := Aside0.mk t_
    clear t_
    have t_ := pw_below_drewN (n := nd_) HB.out
    rw [hnd_] at t_
    have mB_ := Aside0.mk t_
    clear t_ hnd_
    clear BK260 BK261 HB
    have BK260 := m0_
    have BK261 := m1_
    have HB := mB_
    clear m0_ m1_ mB_
    have n0_ := Aside0.mk (blk_drew BK260.out)
    have n1_ := Aside0.mk (blk_drew BK261.out)
    have n2_ := Aside0.mk (below_drew1 HB.out)
    clear BK260
    clear BK261
    clear HB
    have BK260 := n0_
    have BK261 := n1_
    have HB := n2_
    clear n0_ n1_ n2_
    refine start_ (n := 20) (S := fun w' => w'.cell? ⟨gb261, 0, none⟩ = some (.int .i64 a1_0) ∧ w'.cell? ⟨gb261, 1, none⟩ = some (.int .i64 a1_1) ∧ w'.cell? ⟨gb261, 2, none⟩ = some (.int .i64 a1_2) ∧ w'.cell? ⟨gb260, 0, none⟩ = some (.string a0_0) ∧ w'.cell? ⟨gb260, 1, none⟩ = some (.int .i64 a0_1) ∧ w'.cell? ⟨gb260, 2, none⟩ = some (.int .i64 a0_2) ∧ w'.cell? ⟨gb260, 3, none⟩ = some (.slice A0_3 l0_3.length c0_3) ∧ w'.cell? ⟨gb260, 4, none⟩ = some (.slice A0_4 l0_4.length c0_4) ∧ w'.cell? ⟨gb260, 5, none⟩ = some (.slice A0_5 l0_5.length c0_5) ∧ w'.cell? ⟨gb260, 6, none⟩ = some (.int .i64 a0_6) ∧ w'.cell? ⟨gb260, 7, none⟩ = some (.int .i64 a0_7) ∧ w'.cell? ⟨gb260, 8, none⟩ = some (.int .i64 a0_8)) (ds := []) #[false, false, false, false, false, false, false, false, false, false, false, false, false, false, false, false, false, false, false, false] kx rfl rfl ⟨(blk_cell BK261.out 0).trans rfl, (blk_cell BK261.out 1).trans rfl, (blk_cell BK261.out 2).trans rfl, (blk_cell BK260.out 0).trans rfl, (blk_cell BK260.out 1).trans rfl, (blk_cell BK260.out 2).trans rfl, (blk_cell BK260.out 3).trans rfl, (blk_cell BK260.out 4).trans rfl, (blk_cell BK260.out 5).trans rfl, (blk_cell BK260.out 6).trans rfl, (blk_cell BK260.out 7).trans rfl, (blk_cell BK260.out 8).trans rfl⟩ (fun hHeld => ?_); refine with_tabW ephemerisref1_Years_ToDay.tab3 ephemerisref1_Years_ToDay.bits3 (fun HT_ HW_ => ?_)
    generalize wq_.drew = w16 at BK260 BK261 HB hHeld ⊢
    refine pure_ (i := 0) (N := some 12) (v := ?_) (a' := ?_) #[true, false, false, false, false, false, false, false, false, false, false, false, false, false, false, false, false, false, false, false] rfl rfl (any_of HT_.out kx) (fun _ _ _ h => h) (Or.inl ⟨by rfl, ?_⟩) ?_ ?_
    rotate_left
    ·intro w'
     go_simp
     with_reducible rfl
    rotate_left
    ·simp only [Act.put, List.setIfInBounds_toArray, List.set_cons_zero, List.set_cons_succ, i64_w, i32_w]
     rfl
    refine pure_ (i := 2) (N := some 14) (v := ?_) (a' := ?_) #[true, false, true, false, false, false, false, false, false, false, false, false, false, false, false, false, false, false, false, false] rfl rfl (any_of HT_.out kx) (fun _ _ _ h => h) (Or.inl ⟨by rfl, ?_⟩) ?_ ?_
    rotate_left
    ·intro w'
     go_simp
     with_reducible rfl
    rotate_left
    ·simp only [Act.put, List.setIfInBounds_toArray, List.set_cons_zero, List.set_cons_succ, i64_w, i32_w]
     rfl
    refine pure_ (i := 3) (N := some 15) (v := ?_) (a' := ?_) #[true, false, true, true, false, false, false, false, false, false, false, false, false, false, false, false, false, false, false, false] rfl rfl (any_of HT_.out kx) (fun _ _ _ h => h) (Or.inl ⟨by rfl, ?_⟩) ?_ ?_
    rotate_left
    ·intro w'
     go_simp
     with_reducible rfl
    rotate_left
    ·simp only [Act.put, List.setIfInBounds_toArray, List.set_cons_zero, List.set_cons_succ, i64_w, i32_w]
     rfl
    refine take_ (i := 1) (N := some 13) (v := ?_) (a' := ?_) #[true, true, true, true, false, false, false, false, false, false, false, false, false, false, false, false, false, false, false, false] rfl rfl (take_ofW HT_.out HW_.out kx) (fun _ _ _ h => h) (Or.inl ⟨by rfl, ?_⟩) hHeld ?_ ?_
    rotate_left
    ·rintro w' ⟨s0, s1, s2, s3, s4, s5, s6, s7, s8, s9, s10, s11⟩
     go_simp
     with_reducible rfl
    rotate_left
    ·simp only [Act.put, List.setIfInBounds_toArray, List.set_cons_zero, List.set_cons_succ, i64_w, i32_w]
     rfl
    refine take_ (i := 4) (N := some 16) (v := ?_) (a' := ?_) #[true, true, true, true, true, false, false, false, false, false, false, false, false, false, false, false, false, false, false, false] rfl rfl (take_ofW HT_.out HW_.out kx) (fun _ _ _ h => h) (Or.inl ⟨by rfl, ?_⟩) hHeld ?_ ?_
    rotate_left
    ·rintro w' ⟨s0, s1, s2, s3, s4, s5, s6, s7, s8, s9, s10, s11⟩
     go_simp
     with_reducible rfl
    rotate_left
    ·simp only [Act.put, List.setIfInBounds_toArray, List.set_cons_zero, List.set_cons_succ, i64_w, i32_w]
     rfl
    refine pure_ (i := 5) (N := some 17) (v := ?_) (a' := ?_) #[true, true, true, true, true, true, false, false, false, false, false, false, false, false, false, false, false, false, false, false] rfl rfl (any_of HT_.out kx) (fun _ _ _ h => h) (Or.inl ⟨by rfl, ?_⟩) ?_ ?_
    rotate_left
    ·intro w'
     go_simp
     with_reducible rfl
    rotate_left
    ·simp only [Act.put, List.setIfInBounds_toArray, List.set_cons_zero, List.set_cons_succ, i64_w, i32_w]
     rfl
    refine one_ (i := 6) (N := some 18) #[true, true, true, true, true, true, true, false, false, false, false, false, false, false, false, false, false, false, false, false] rfl rfl (one_of HT_.out kx) (by decide) (fun K hK => ?_)
    refine goes_ Try.func21 kx rfl #[.int .i64 a1_1, .int .i64 1, .int .i64 (l0_3.length : Int)] (by rfl) rfl rfl aa ?_
    with_reducible refine (ephemerisref1_In.calls a1_1 1 (l0_3.length : Int) false _ A10.out).mono ?_
    rintro e w' ⟨rfl, ⟨nd, rfl⟩⟩
    refine ⟨_, rfl, ?_⟩
    refine hK.out _ _ ⟨(blk_cell BK261.out 0).trans rfl, (blk_cell BK261.out 1).trans rfl, (blk_cell BK261.out 2).trans rfl, (blk_cell BK260.out 0).trans rfl, (blk_cell BK260.out 1).trans rfl, (blk_cell BK260.out 2).trans rfl, (blk_cell BK260.out 3).trans rfl, (blk_cell BK260.out 4).trans rfl, (blk_cell BK260.out 5).trans rfl, (blk_cell BK260.out 6).trans rfl, (blk_cell BK260.out 7).trans rfl, (blk_cell BK260.out 8).trans rfl⟩ (fun hHeld => ?_)
    clear hK K
    refine norm_ (a' := ?_) ?_ ?_
    rotate_left
    ·show Act.put _ (some 18) _ = _
     simp only [Act.put, List.setIfInBounds_toArray, List.set_cons_zero, List.set_cons_succ, i64_w, i32_w]
     rfl
    refine pure_ (i := 7) (N := some 19) (v := ?_) (a' := ?_) #[true, true, true, true, true, true, true, true, false, false, false, false, false, false, false, false, false, false, false, false] rfl rfl (any_of HT_.out kx) (fun _ _ _ h => h) (Or.inl ⟨by rfl, ?_⟩) ?_ ?_
    rotate_left
    ·intro w'
     go_simp
     with_reducible rfl
    rotate_left
    ·simp only [Act.put, List.setIfInBounds_toArray, List.set_cons_zero, List.set_cons_succ, i64_w, i32_w]
     rfl
    refine pure_ (i := 8) (N := some 20) (v := ?_) (a' := ?_) #[true, true, true, true, true, true, true, true, true, false, false, false, false, false, false, false, false, false, false, false] rfl rfl (any_of HT_.out kx) (fun _ _ _ h => h) (Or.inl ⟨by rfl, ?_⟩) ?_ ?_
    rotate_left
    ·intro w'
     go_simp
     with_reducible rfl
    rotate_left
    ·simp only [Act.put, List.setIfInBounds_toArray, List.set_cons_zero, List.set_cons_succ, i64_w, i32_w]
     rfl
    refine pure_ (i := 9) (N := some 21) (v := undef) (a' := ?_) #[true, true, true, true, true, true, true, true, true, true, false, false, false, false, false, false, false, false, false, false] rfl rfl (any_of HT_.out kx) (fun _ _ _ h => h) (Or.inr ⟨by rfl, rfl⟩) ?_ ?_
    rotate_left
    ·simp only [Act.put, List.setIfInBounds_toArray, List.set_cons_zero, List.set_cons_succ, i64_w, i32_w]
     rfl
    refine pure_ (i := 10) (N := some 22) (v := undef) (a' := ?_) #[true, true, true, true, true, true, true, true, true, true, true, false, false, false, false, false, false, false, false, false] rfl rfl (any_of HT_.out kx) (fun _ _ _ h => h) (Or.inr ⟨by rfl, rfl⟩) ?_ ?_
    rotate_left
    ·simp only [Act.put, List.setIfInBounds_toArray, List.set_cons_zero, List.set_cons_succ, i64_w, i32_w]
     rfl
    refine pure_ (i := 11) (N := some 23) (v := undef) (a' := ?_) #[true, true, true, true, true, true, true, true, true, true, true, true, false, false, false, false, false, false, false, false] rfl rfl (any_of HT_.out kx) (fun _ _ _ h => h) (Or.inr ⟨by rfl, rfl⟩) ?_ ?_
    rotate_left
    ·simp only [Act.put, List.setIfInBounds_toArray, List.set_cons_zero, List.set_cons_succ, i64_w, i32_w]
     rfl
    refine pure_ (i := 12) (N := some 24) (v := undef) (a' := ?_) #[true, true, true, true, true, true, true, true, true, true, true, true, true, false, false, false, false, false, false, false] rfl rfl (any_of HT_.out kx) (fun _ _ _ h => h) (Or.inr ⟨by rfl, rfl⟩) ?_ ?_
    rotate_left
    ·simp only [Act.put, List.setIfInBounds_toArray, List.set_cons_zero, List.set_cons_succ, i64_w, i32_w]
     rfl
    refine pure_ (i := 13) (N := some 25) (v := undef) (a' := ?_) #[true, true, true, true, true, true, true, true, true, true, true, true, true, true, false, false, false, false, false, false] rfl rfl (any_of HT_.out kx) (fun _ _ _ h => h) (Or.inr ⟨by rfl, rfl⟩) ?_ ?_
    rotate_left
    ·simp only [Act.put, List.setIfInBounds_toArray, List.set_cons_zero, List.set_cons_succ, i64_w, i32_w]
     rfl
    refine pure_ (i := 14) (N := some 26) (v := undef) (a' := ?_) #[true, true, true, true, true, true, true, true, true, true, true, true, true, true, true, false, false, false, false, false] rfl rfl (any_of HT_.out kx) (fun _ _ _ h => h) (Or.inr ⟨by rfl, rfl⟩) ?_ ?_
    rotate_left
    ·simp only [Act.put, List.setIfInBounds_toArray, List.set_cons_zero, List.set_cons_succ, i64_w, i32_w]
     rfl
    refine pure_ (i := 15) (N := some 27) (v := undef) (a' := ?_) #[true, true, true, true, true, true, true, true, true, true, true, true, true, true, true, true, false, false, false, false] rfl rfl (any_of HT_.out kx) (fun _ _ _ h => h) (Or.inr ⟨by rfl, rfl⟩) ?_ ?_
    rotate_left
    ·simp only [Act.put, List.setIfInBounds_toArray, List.set_cons_zero, List.set_cons_succ, i64_w, i32_w]
     rfl
    refine pure_ (i := 16) (N := some 28) (v := undef) (a' := ?_) #[true, true, true, true, true, true, true, true, true, true, true, true, true, true, true, true, true, false, false, false] rfl rfl (any_of HT_.out kx) (fun _ _ _ h => h) (Or.inr ⟨by rfl, rfl⟩) ?_ ?_
    rotate_left
    ·simp only [Act.put, List.setIfInBounds_toArray, List.set_cons_zero, List.set_cons_succ, i64_w, i32_w]
     rfl
    refine pure_ (i := 17) (N := some 29) (v := undef) (a' := ?_) #[true, true, true, true, true, true, true, true, true, true, true, true, true, true, true, true, true, true, false, false] rfl rfl (any_of HT_.out kx) (fun _ _ _ h => h) (Or.inr ⟨by rfl, rfl⟩) ?_ ?_
    rotate_left
    ·simp only [Act.put, List.setIfInBounds_toArray, List.set_cons_zero, List.set_cons_succ, i64_w, i32_w]
     rfl
    refine pure_ (i := 18) (N := some 30) (v := undef) (a' := ?_) #[true, true, true, true, true, true, true, true, true, true, true, true, true, true, true, true, true, true, true, false] rfl rfl (any_of HT_.out kx) (fun _ _ _ h => h) (Or.inr ⟨by rfl, rfl⟩) ?_ ?_
    rotate_left
    ·simp only [Act.put, List.setIfInBounds_toArray, List.set_cons_zero, List.set_cons_succ, i64_w, i32_w]
     rfl
    refine pure_ (i := 19) (N := some 31) (v := ?_) (a' := ?_) #[true, true, true, true, true, true, true, true, true, true, true, true, true, true, true, true, true, true, true, true] rfl rfl (any_of HT_.out kx) (fun _ _ _ h => h) (Or.inl ⟨by rfl, ?_⟩) ?_ ?_
    rotate_left
    ·intro w'
     go_simp
     with_reducible rfl
    rotate_left
    ·simp only [Act.put, List.setIfInBounds_toArray, List.set_cons_zero, List.set_cons_succ, i64_w, i32_w]
     rfl
    refine done_ (done_of HT_.out kx) ?_
    try go_wp2
    go_meet
    case rel => exact ⟨_, (true), rs, H', ⟨by first | omega | exact Nat.le_refl _⟩, ⟨bk BK260⟩, ⟨bk BK261⟩, ⟨be⟩⟩
  case rest =>
   clear HC5
   (try clear c1); (try clear c2); (try clear p2); (try clear c4); (try clear c7); (try clear c8); (try clear c11); (try clear hcz9_0); (try clear hcz9_1); (try clear hcz9_2); (try clear hfz9_0); (try clear hfz9_1); (try clear hfz9_2)
   obtain ⟨kq, x31_4, rfl, HA, HJ4, BK260, BK261, HB⟩ := hcut
   cases kq with
   | zero => exact absurd HA.out (by simp [ephemerisref1_Years_ToDay.j0])
   | succ kj4 =>
    have H := HA.out
    clear HA
    simp only [ephemerisref1_Years_ToDay.j0] at H
    by_cases c17 : x31_4 = true
    ·subst c17
     have H1 : (some (0, 1)) = some (r1, r2) := by rw [if_pos rfl] at H; exact H
     clear H
     have H := H1
     clear H1
     simp only [Option.some.injEq, Prod.mk.injEq] at H
     obtain ⟨rfl, rfl⟩ := H
     go_wp2
     go_ret2
     exact ⟨by first | rfl | (simp [errW_none, errW_some] <;> rfl) | (simp [*, errW_none, errW_some] <;> rfl), be⟩
    ·replace c17 := Bool.eq_false_iff.mpr c17
     subst c17
     have H1 : ((ephemerisref1_Years_NewYear.f kj4 a0_0 a0_1 a0_2 l0_3 l0_4 l0_5 a0_6 a0_7 a0_8 a1_0).bind fun t266 => (ephemerisref1_Years_ToDay.l0 kj4 (wrap64 ((wrap64 (t266 + a1_2)) - 1)) 1 a0_0 a0_1 a0_2 l0_3 l0_4 l0_5 a0_6 a0_7 a0_8 a1_0 a1_1 a1_2)) = some (r1, r2) := by rw [if_neg (show ¬ (false = true) by decide)] at H; exact H
     clear H
     have H := H1
     clear H1
     replace H := Option.bind_eq_some_iff.mp H
     obtain ⟨t266, A180, H⟩ := H
     replace H : (ephemerisref1_Years_ToDay.l0 kj4 (wrap64 ((wrap64 (t266 + a1_2)) - 1)) 1 a0_0 a0_1 a0_2 l0_3 l0_4 l0_5 a0_6 a0_7 a0_8 a1_0 a1_1 a1_2) = some (r1, r2) := H
     have A18 := Aside0.mk A180
     clear A180
     have H' := Aside0.mk H
     clear H
     try go_wp2
     have n0_ := Aside0.mk (blk_drew BK260.out)
     have n1_ := Aside0.mk (blk_drew BK261.out)
     have n2_ := Aside0.mk (below_drew1 HB.out)
     clear BK260
     clear BK261
     clear HB
     have BK260 := n0_
     have BK261 := n1_
     have HB := n2_
     clear n0_ n1_ n2_
     refine start_ (n := 9) (S := fun w' => w'.cell? ⟨gb260, 0, none⟩ = some (.string a0_0) ∧ w'.cell? ⟨gb260, 1, none⟩ = some (.int .i64 a0_1) ∧ w'.cell? ⟨gb260, 2, none⟩ = some (.int .i64 a0_2) ∧ w'.cell? ⟨gb260, 3, none⟩ = some (.slice A0_3 l0_3.length c0_3) ∧ w'.cell? ⟨gb260, 4, none⟩ = some (.slice A0_4 l0_4.length c0_4) ∧ w'.cell? ⟨gb260, 5, none⟩ = some (.slice A0_5 l0_5.length c0_5) ∧ w'.cell? ⟨gb260, 6, none⟩ = some (.int .i64 a0_6) ∧ w'.cell? ⟨gb260, 7, none⟩ = some (.int .i64 a0_7) ∧ w'.cell? ⟨gb260, 8, none⟩ = some (.int .i64 a0_8) ∧ w'.cell? ⟨gb261, 0, none⟩ = some (.int .i64 a1_0) ∧ w'.cell? ⟨gb261, 1, none⟩ = some (.int .i64 a1_1) ∧ w'.cell? ⟨gb261, 2, none⟩ = some (.int .i64 a1_2)) (ds := []) #[false, false, false, false, false, false, false, false, false] kx rfl rfl ⟨(blk_cell BK260.out 0).trans rfl, (blk_cell BK260.out 1).trans rfl, (blk_cell BK260.out 2).trans rfl, (blk_cell BK260.out 3).trans rfl, (blk_cell BK260.out 4).trans rfl, (blk_cell BK260.out 5).trans rfl, (blk_cell BK260.out 6).trans rfl, (blk_cell BK260.out 7).trans rfl, (blk_cell BK260.out 8).trans rfl, (blk_cell BK261.out 0).trans rfl, (blk_cell BK261.out 1).trans rfl, (blk_cell BK261.out 2).trans rfl⟩ (fun hHeld => ?_); refine with_tabW ephemerisref1_Years_ToDay.tab5 ephemerisref1_Years_ToDay.bits5 (fun HT_ HW_ => ?_)
     generalize wc.drew = w19 at BK260 BK261 HB hHeld ⊢
     refine pure_ (i := 1) (N := some 33) (v := ?_) (a' := ?_) #[false, true, false, false, false, false, false, false, false] rfl rfl (any_of HT_.out kx) (fun _ _ _ h => h) (Or.inl ⟨by rfl, ?_⟩) ?_ ?_
     rotate_left
     ·intro w'
      go_simp
      with_reducible rfl
     rotate_left
     ·simp only [Act.put, List.setIfInBounds_toArray, List.set_cons_zero, List.set_cons_succ, i64_w, i32_w]
      rfl
     refine pure_ (i := 4) (N := some 36) (v := ?_) (a' := ?_) #[false, true, false, false, true, false, false, false, false] rfl rfl (any_of HT_.out kx) (fun _ _ _ h => h) (Or.inl ⟨by rfl, ?_⟩) ?_ ?_
     rotate_left
     ·intro w'
      go_simp
      with_reducible rfl
     rotate_left
     ·simp only [Act.put, List.setIfInBounds_toArray, List.set_cons_zero, List.set_cons_succ, i64_w, i32_w]
      rfl
     refine take_ (i := 0) (N := some 32) (v := ?_) (a' := ?_) #[true, true, false, false, true, false, false, false, false] rfl rfl (take_ofW HT_.out HW_.out kx) (fun _ _ _ h => h) (Or.inl ⟨by rfl, ?_⟩) hHeld ?_ ?_
     rotate_left
     ·rintro w' ⟨s0, s1, s2, s3, s4, s5, s6, s7, s8, s9, s10, s11⟩
      go_simp
      with_reducible rfl
     rotate_left
     ·simp only [Act.put, List.setIfInBounds_toArray, List.set_cons_zero, List.set_cons_succ, i64_w, i32_w]
      rfl
     refine take_ (i := 2) (N := some 34) (v := ?_) (a' := ?_) #[true, true, true, false, true, false, false, false, false] rfl rfl (take_ofW HT_.out HW_.out kx) (fun _ _ _ h => h) (Or.inl ⟨by rfl, ?_⟩) hHeld ?_ ?_
     rotate_left
     ·rintro w' ⟨s0, s1, s2, s3, s4, s5, s6, s7, s8, s9, s10, s11⟩
      go_simp
      with_reducible rfl
     rotate_left
     ·simp only [Act.put, List.setIfInBounds_toArray, List.set_cons_zero, List.set_cons_succ, i64_w, i32_w]
      rfl
     refine take_ (i := 5) (N := some 37) (v := ?_) (a' := ?_) #[true, true, true, false, true, true, false, false, false] rfl rfl (take_ofW HT_.out HW_.out kx) (fun _ _ _ h => h) (Or.inl ⟨by rfl, ?_⟩) hHeld ?_ ?_
     rotate_left
     ·rintro w' ⟨s0, s1, s2, s3, s4, s5, s6, s7, s8, s9, s10, s11⟩
      go_simp
      with_reducible rfl
     rotate_left
     ·simp only [Act.put, List.setIfInBounds_toArray, List.set_cons_zero, List.set_cons_succ, i64_w, i32_w]
      rfl
     refine one_ (i := 3) (N := some 35) #[true, true, true, true, true, true, false, false, false] rfl rfl (one_of HT_.out kx) (by decide) (fun K hK => ?_)
     refine goes_ Try.func107 kx rfl #[.agg #[.string a0_0, .int .i64 a0_1, .int .i64 a0_2, .slice A0_3 l0_3.length c0_3, .slice A0_4 l0_4.length c0_4, .slice A0_5 l0_5.length c0_5, .int .i64 a0_6, .int .i64 a0_7, .int .i64 a0_8], .int .i64 a1_0] (by rfl) rfl rfl aa ?_
     with_reducible refine (ephemerisref1_Years_NewYear.calls kj4 a0_0 a0_1 a0_2 _ _ l0_3 _ _ l0_4 _ _ l0_5 a0_6 a0_7 a0_8 a1_0 t266 _ ?side1 ?side2 ?side3 ?side4 ?side5 ?side6 A18.out).mono ?_
     (case side1 => exact kc (Kd.C_below HR0_3.out HB.out))
     (case side2 => exact HC0_3.out)
     (case side3 => exact kc (Kd.C_below HR0_4.out HB.out))
     (case side4 => exact HC0_4.out)
     (case side5 => exact kc (Kd.C_below HR0_5.out HB.out))
     (case side6 => exact HC0_5.out)
     rintro e w20 ⟨rfl, hb⟩
     refine ⟨_, rfl, ?_⟩
     have n0_ := bb BK260 hb
     have n1_ := bb BK261 hb
     have n2_ := Aside0.mk (below_step be hb)
     clear BK260
     clear BK261
     clear HB
     have BK260 := n0_
     have BK261 := n1_
     have HB := n2_
     clear n0_ n1_ n2_
     (try clear hb)
     (try clear hb2)
     (try clear hk)
     (try clear hi)
     refine hK.out _ _ ⟨(blk_cell BK260.out 0).trans rfl, (blk_cell BK260.out 1).trans rfl, (blk_cell BK260.out 2).trans rfl, (blk_cell BK260.out 3).trans rfl, (blk_cell BK260.out 4).trans rfl, (blk_cell BK260.out 5).trans rfl, (blk_cell BK260.out 6).trans rfl, (blk_cell BK260.out 7).trans rfl, (blk_cell BK260.out 8).trans rfl, (blk_cell BK261.out 0).trans rfl, (blk_cell BK261.out 1).trans rfl, (blk_cell BK261.out 2).trans rfl⟩ (fun hHeld => ?_)
     clear hK K
     refine norm_ (a' := ?_) ?_ ?_
     rotate_left
     ·show Act.put _ (some 35) _ = _
      simp only [Act.put, List.setIfInBounds_toArray, List.set_cons_zero, List.set_cons_succ, i64_w, i32_w]
      rfl
     refine pure_ (i := 6) (N := some 38) (v := ?_) (a' := ?_) #[true, true, true, true, true, true, true, false, false] rfl rfl (any_of HT_.out kx) (fun _ _ _ h => h) (Or.inl ⟨by rfl, ?_⟩) ?_ ?_
     rotate_left
     ·intro w'
      go_simp
      with_reducible rfl
     rotate_left
     ·simp only [Act.put, List.setIfInBounds_toArray, List.set_cons_zero, List.set_cons_succ, i64_w, i32_w]
      rfl
     refine pure_ (i := 7) (N := some 39) (v := ?_) (a' := ?_) #[true, true, true, true, true, true, true, true, false] rfl rfl (any_of HT_.out kx) (fun _ _ _ h => h) (Or.inl ⟨by rfl, ?_⟩) ?_ ?_
     rotate_left
     ·intro w'
      go_simp
      with_reducible rfl
     rotate_left
     ·simp only [Act.put, List.setIfInBounds_toArray, List.set_cons_zero, List.set_cons_succ, i64_w, i32_w]
      rfl
     refine pure_ (i := 8) (N := some 6) (v := ?_) (a' := ?_) #[true, true, true, true, true, true, true, true, true] rfl rfl (any_of HT_.out kx) (fun _ _ _ h => h) (Or.inl ⟨by rfl, ?_⟩) ?_ ?_
     rotate_left
     ·intro w'
      go_simp
      with_reducible rfl
     rotate_left
     ·simp only [Act.put, List.setIfInBounds_toArray, List.set_cons_zero, List.set_cons_succ, i64_w, i32_w]
      rfl
     refine done_ (done_of HT_.out kx) ?_
     try go_wp2
     go_loopg [6, 7] kj4 (fun kq v6 v7 w' => ∃ (x6_2 : Int) (x7_2 : Int), v6 = .int .i64 x6_2 ∧ v7 = .int .i64 x7_2 ∧ Aside0 (ephemerisref1_Years_ToDay.l0 kq x6_2 x7_2 a0_0 a0_1 a0_2 l0_3 l0_4 l0_5 a0_6 a0_7 a0_8 a1_0 a1_1 a1_2 = some (r1, r2)) ∧ Aside0 (kq ≤ kj4) ∧ Aside0 (w'.heap[gb260]? = some (.cells #[.string a0_0, .int .i64 a0_1, .int .i64 a0_2, (.slice A0_3 l0_3.length c0_3), (.slice A0_4 l0_4.length c0_4), (.slice A0_5 l0_5.length c0_5), .int .i64 a0_6, .int .i64 a0_7, .int .i64 a0_8] 53 (0, 0))) ∧ Aside0 (w'.heap[gb261]? = some (.cells #[.int .i64 a1_0, .int .i64 a1_1, .int .i64 a1_2] 107 (0, 0))) ∧ Aside0 (Below w.heap.size w w'))
     case atStart => exact ⟨(wrap64 ((wrap64 (t266 + a1_2)) - 1)), (1), rs, rs, H', ⟨Nat.le_refl _⟩, ⟨bk BK260⟩, ⟨bk BK261⟩, ⟨be⟩⟩
     case round =>
      clear H'
      (try clear c1); (try clear c2); (try clear p2); (try clear c4); (try clear p6); (try clear c7); (try clear c8); (try clear c10); (try clear c11); (try clear c17); (try clear hcz9_0); (try clear hcz9_1); (try clear hcz9_2); (try clear hfz9_0); (try clear hfz9_1); (try clear hfz9_2); (try clear p2)
      obtain ⟨x6_2, x7_2, rfl, rfl, HA, HK2, BK260, BK261, HB⟩ := hrel
      cases gk with
      | zero => exact absurd HA.out (by simp [ephemerisref1_Years_ToDay.l0])
      | succ k2 =>
       have H := HA.out
       clear HA
       simp only [ephemerisref1_Years_ToDay.l0] at H
       by_cases c21 : x7_2 < a1_1
       ·rw [if_pos c21] at H
        have c21b0 : decide (x7_2 < a1_1) = true := decide_eq_true c21
        clear c21
        replace H := Option.bind_eq_some_iff.mp H
        obtain ⟨t267, A220, H⟩ := H
        replace H : (ephemerisref1_Years_ToDay.l0 k2 (wrap64 (x6_2 + t267)) (wrap64 (x7_2 + 1)) a0_0 a0_1 a0_2 l0_3 l0_4 l0_5 a0_6 a0_7 a0_8 a1_0 a1_1 a1_2) = some (r1, r2) := H
        have A22 := Aside0.mk A220
        clear A220
        have H' := Aside0.mk H
        clear H
        have hnb23 := NB261_260.out
        have hnc23 := NB260_261.out
        obtain ⟨hcz24_0, hcz24_1, hcz24_2, hfz24_0, hfz24_1, hfz24_2⟩ := bc3 BK261
        obtain ⟨hcz25_0, hcz25_1, hcz25_2, hcz25_3, hcz25_4, hcz25_5, hcz25_6, hcz25_7, hcz25_8, hfz25_0, hfz25_1, hfz25_2, hfz25_3, hfz25_4, hfz25_5, hfz25_6, hfz25_7, hfz25_8⟩ := bc9 BK260
        go_wp2_with (first | ((with_reducible refine gate_callee (f := 70) rfl ?_); refine goesL_ (some 51) rfl rfl Try.func70 kx rfl #[.agg #[.string a0_0, .int .i64 a0_1, .int .i64 a0_2, .slice A0_3 l0_3.length c0_3, .slice A0_4 l0_4.length c0_4, .slice A0_5 l0_5.length c0_5, .int .i64 a0_6, .int .i64 a0_7, .int .i64 a0_8], .int .i64 a1_0, .int .i64 x7_2] rfl aa ?_; (with_reducible refine (ephemerisref1_Years_Month.calls k2 a0_0 a0_1 a0_2 _ _ l0_3 _ _ l0_4 _ _ l0_5 a0_6 a0_7 a0_8 a1_0 x7_2 t267 _ ?side1 ?side2 ?side3 ?side4 ?side5 ?side6 A22.out).mono ?_); (case side1 => exact kc (Kd.C_below HR0_3.out HB.out)); (case side2 => exact HC0_3.out); (case side3 => exact kc (Kd.C_below HR0_4.out HB.out)); (case side4 => exact HC0_4.out); (case side5 => exact kc (Kd.C_below HR0_5.out HB.out)); (case side6 => exact HC0_5.out); rintro e w26 ⟨rfl, hb⟩; refine ⟨_, rfl, ?_⟩; have n0_ := bb BK260 hb; have n1_ := bb BK261 hb; have n2_ := Aside0.mk (below_step be hb); clear BK260; clear BK261; clear HB; have BK260 := n0_; have BK261 := n1_; have HB := n2_; clear n0_ n1_ n2_; (try clear hb); (try clear hb2); (try clear hk); (try clear hi)))
        go_roundg k2
        case measure => have := HJ4.out; have := HK2.out; omega
        case rel => exact ⟨(wrap64 (x6_2 + t267)), (wrap64 (x7_2 + 1)), rs, rs, H', ⟨by have := HJ4.out; have := HK2.out; omega⟩, ⟨bk BK260⟩, ⟨bk BK261⟩, ⟨be⟩⟩
       ·rw [if_neg c21] at H
        have c21b0 : decide (x7_2 < a1_1) = false := decide_eq_false c21
        clear c21
        replace H := Option.bind_eq_some_iff.mp H
        obtain ⟨t268, A270, H⟩ := H
        replace H : (if t268 = true then (some (x6_2, 0)) else (some (0, 3))) = some (r1, r2) := H
        have A27 := Aside0.mk A270
        clear A270
        by_cases c28 : t268 = true
        ·subst c28
         have H1 : (some (x6_2, 0)) = some (r1, r2) := by rw [if_pos rfl] at H; exact H
         clear H
         have H := H1
         clear H1
         simp only [Option.some.injEq, Prod.mk.injEq] at H
         obtain ⟨rfl, rfl⟩ := H
         have hnb29 := NB261_260.out
         have hnc29 := NB260_261.out
         obtain ⟨hcz30_0, hcz30_1, hcz30_2, hfz30_0, hfz30_1, hfz30_2⟩ := bc3 BK261
         go_wp2_with (first | ((with_reducible refine gate_callee (f := 30) rfl ?_); refine goesL_ (some 54) rfl rfl Try.func30 kx rfl #[.int .i64 x6_2] rfl aa ?_; (with_reducible refine (ephemerisref1_Day.calls x6_2 true _ A27.out).mono ?_); rintro e w' ⟨rfl, ⟨nd, rfl⟩⟩; refine ⟨_, rfl, ?_⟩))
         go_ret2
         exact ⟨by first | rfl | (simp [errW_none, errW_some] <;> rfl) | (simp [*, errW_none, errW_some] <;> rfl), be⟩
        ·replace c28 := Bool.eq_false_iff.mpr c28
         subst c28
         have H1 : (some (0, 3)) = some (r1, r2) := by rw [if_neg (show ¬ (false = true) by decide)] at H; exact H
         clear H
         have H := H1
         clear H1
         simp only [Option.some.injEq, Prod.mk.injEq] at H
         obtain ⟨rfl, rfl⟩ := H
         have hnb31 := NB261_260.out
         have hnc31 := NB260_261.out
         obtain ⟨hcz32_0, hcz32_1, hcz32_2, hfz32_0, hfz32_1, hfz32_2⟩ := bc3 BK261
         go_wp2_with (first | ((with_reducible refine gate_callee (f := 30) rfl ?_); refine goesL_ (some 54) rfl rfl Try.func30 kx rfl #[.int .i64 x6_2] rfl aa ?_; (with_reducible refine (ephemerisref1_Day.calls x6_2 false _ A27.out).mono ?_); rintro e w' ⟨rfl, ⟨nd, rfl⟩⟩; refine ⟨_, rfl, ?_⟩))
         go_ret2
         exact ⟨by first | rfl | (simp [errW_none, errW_some] <;> rfl) | (simp [*, errW_none, errW_some] <;> rfl), be⟩
 ·replace c4 := Bool.eq_false_iff.mpr c4
  subst c4
  have H1 : (some (0, 3)) = some (r1, r2) := by rw [if_neg (show ¬ (false = true) by decide)] at H; exact H
  clear H
  have H := H1
  clear H1
  simp only [Option.some.injEq, Prod.mk.injEq] at H
  obtain ⟨rfl, rfl⟩ := H
  go_enter Try.func72, Try.ntmps72
  go_wp2_with (first | ((with_reducible refine gate_dst (N := 2) rfl ?_); refine box_event ?hg (N := 2) ?hd (cs := #[.string a0_0, .int .i64 a0_1, .int .i64 a0_2, .slice A0_3 l0_3.length c0_3, .slice A0_4 l0_4.length c0_4, .slice A0_5 l0_5.length c0_5, .int .i64 a0_6, .int .i64 a0_7, .int .i64 a0_8]) (t := 53) ?hr ?_; (case hd => rfl); (case hg => rfl); (case hr => first | (go_simp; done) | (go_simp; rfl)); intro gb260 hg w33 hbox hb; have n0_ := Aside0.mk (below_step be hb); have n1_ := Aside0.mk (hbox); have n2_ := gs hg HB; have n3_ := n2_; clear HB; have HB := n0_; have BK260 := n1_; have GW260 := n2_; have GE260 := n3_; clear n0_ n1_ n2_ n3_; clear hb hbox hg) | ((with_reducible refine gate_dst (N := 3) rfl ?_); refine box_event ?hg (N := 3) ?hd (cs := #[.int .i64 a1_0, .int .i64 a1_1, .int .i64 a1_2]) (t := 107) ?hr ?_; (case hd => rfl); (case hg => rfl); (case hr => first | (go_simp; done) | (go_simp; rfl)); intro gb261 hg w34 hbox hb; have n0_ := bb BK260 hb; have n1_ := Aside0.mk (below_step be hb); have n2_ := Aside0.mk (hbox); have n3_ := gs hg HB; have n4_ := n3_; have n5_ := nl BK260 hg; have n6_ := ns n5_; clear BK260; clear HB; have BK260 := n0_; have HB := n1_; have BK261 := n2_; have GW261 := n3_; have GE261 := n4_; have NB260_261 := n5_; have NB261_260 := n6_; clear n0_ n1_ n2_ n3_ n4_ n5_ n6_; clear hb hbox hg; have hnb35 := NB261_260.out; have hnc35 := NB260_261.out; obtain ⟨hcz36_0, hcz36_1, hcz36_2, hfz36_0, hfz36_1, hfz36_2⟩ := bc3 BK261) | ((with_reducible refine gate_callee (f := 21) rfl ?_); refine goesL_ (some 10) rfl rfl Try.func21 kx rfl #[.int .i64 a1_0, .int .i64 (-10000), .int .i64 10000] rfl aa ?_; (with_reducible refine (ephemerisref1_In.calls a1_0 (-10000) 10000 false _ A3.out).mono ?_); rintro e w' ⟨rfl, ⟨nd, rfl⟩⟩; refine ⟨_, rfl, ?_⟩))
  go_ret2
  exact ⟨by first | rfl | (simp [errW_none, errW_some] <;> rfl) | (simp [*, errW_none, errW_some] <;> rfl), be⟩

/-! ### ephemerisref1_Years_Later: function 24 -/
def ephemerisref1_Years_Later.inB (y : Int) : Bool := decide (-10000 ≤ y ∧ y ≤ 10000)
theorem ephemerisref1_Years_Later.in_ (y : Int) : ephemerisref1_In.f y (-10000) 10000 = some (ephemerisref1_Years_Later.inB y) := by
 unfold ephemerisref1_In.f ephemerisref1_Years_Later.inB
 by_cases h : y ≥ -10000
 ·rw [if_pos h]; congr 1; simp only [decide_eq_decide]; omega
 ·rw [if_neg h, decide_eq_false (by omega)]
def ephemerisref1_Years_Later.cond (k : Nat) (nm : ByteArray) (ep cy : Int) (ms : List S125) (ls : List Int) (lb : List Bool) (u v x : Int) (y m : Int) : Option Bool :=
 if ephemerisref1_Years_Later.inB y = true then (ephemerisref1_Years_Month.f k nm ep cy ms ls lb u v x y m).bind fun q => some (decide (q = 0)) else some false
def ephemerisref1_Years_Later.fin (k : Nat) (nm : ByteArray) (ep cy : Int) (ms : List S125) (ls : List Int) (lb : List Bool) (u v x : Int) (y m d : Int) : Option (Int × Int) :=
 (ephemerisref1_Years_Month.f k nm ep cy ms ls lb u v x y m).bind fun q => (ephemerisref1_Years_ToDay.f k nm ep cy ms ls lb u v x y m (if d > q then q else d)).bind fun t => some (t.1, t.2)
mutual
def ephemerisref1_Years_Later.l0 : Nat → ByteArray → Int → Int → List S125 → List Int → List Bool → Int → Int → Int → Int → Int → Int → Int → Int → Int → Option (Int × Int)
 | 0, _, _, _, _, _, _, _, _, _, _, _, _, _, _, _ => none
 | k + 1, nm, ep, cy, ms, ls, lb, u, v, x, b, left, way, y, m, d => ephemerisref1_Years_Later.l1 k nm ep cy ms ls lb u v x b left way y m d
def ephemerisref1_Years_Later.l1 : Nat → ByteArray → Int → Int → List S125 → List Int → List Bool → Int → Int → Int → Int → Int → Int → Int → Int → Int → Option (Int × Int)
 | 0, _, _, _, _, _, _, _, _, _, _, _, _, _, _, _ => none
 | k + 1, nm, ep, cy, ms, ls, lb, u, v, x, b, left, way, y, m, d => (ephemerisref1_Years_Later.cond k nm ep cy ms ls lb u v x y m).bind fun t => (if t = true then ephemerisref1_Years_Later.l1 k nm ep cy ms ls lb u v x b left way (ephemerisref1_Years_step.mv ms.length y m way).1 (ephemerisref1_Years_step.mv ms.length y m way).2 d else
   (if ephemerisref1_Years_Later.inB y = true then (if left = 0 then ephemerisref1_Years_Later.fin k nm ep cy ms ls lb u v x y m d else
    ephemerisref1_Years_Later.l0 k nm ep cy ms ls lb u v x b (wrap64 (left - 1)) b (ephemerisref1_Years_step.mv ms.length y m b).1 (ephemerisref1_Years_step.mv ms.length y m b).2 d) else some (0, 3)))
end
def ephemerisref1_Years_Later.f (k : Nat) (nm : ByteArray) (ep cy : Int) (ms : List S125) (ls : List Int) (lb : List Bool) (u v x : Int) (day yrs mon : Int) : Option (Int × Int) :=
 (ephemerisref1_Years_FromDay.f k nm ep cy ms ls lb u v x day).bind fun t => (if t.2.2.2 = 0 then (if ephemerisref1_Years_Later.inB yrs = true then (if ephemerisref1_Years_Later.inB mon = true then
  ephemerisref1_Years_Later.l0 k nm ep cy ms ls lb u v x (if mon < 0 then -1 else 1) (if mon < 0 then wrap64 (-mon) else mon) 1 (wrap64 (t.1 + yrs)) t.2.1 t.2.2.1 else some (0, 1)) else some (0, 1)) else some (0, t.2.2.2))
theorem ephemerisref1_Years_Later.mono_c : ∀ a1 a2 a3 a4 a5 a6 a7 a8 a9 y m k, LeO (ephemerisref1_Years_Later.cond k a1 a2 a3 a4 a5 a6 a7 a8 a9 y m) (ephemerisref1_Years_Later.cond (k + 1) a1 a2 a3 a4 a5 a6 a7 a8 a9 y m) := by
 intro a1 a2 a3 a4 a5 a6 a7 a8 a9 y m k
 unfold ephemerisref1_Years_Later.cond
 exact LeO.ite (LeO.bind (ephemerisref1_Years_Month.mono _ _ _ _ _ _ _ _ _ _ _ _) (fun _ => LeO.refl _)) (LeO.refl _)
theorem ephemerisref1_Years_Later.mono_f : ∀ a1 a2 a3 a4 a5 a6 a7 a8 a9 y m d k, LeO (ephemerisref1_Years_Later.fin k a1 a2 a3 a4 a5 a6 a7 a8 a9 y m d) (ephemerisref1_Years_Later.fin (k + 1) a1 a2 a3 a4 a5 a6 a7 a8 a9 y m d) := by
 intro a1 a2 a3 a4 a5 a6 a7 a8 a9 y m d k
 unfold ephemerisref1_Years_Later.fin
 exact LeO.bind (ephemerisref1_Years_Month.mono _ _ _ _ _ _ _ _ _ _ _ _) (fun _ => LeO.bind (ephemerisref1_Years_ToDay.mono _ _ _ _ _ _ _ _ _ _ _ _ _) (fun _ => LeO.refl _))
theorem ephemerisref1_Years_Later.mono_l : ∀ k, (∀ a1 a2 a3 a4 a5 a6 a7 a8 a9 a10 a11 a12 a13 a14 a15, LeO (ephemerisref1_Years_Later.l0 k a1 a2 a3 a4 a5 a6 a7 a8 a9 a10 a11 a12 a13 a14 a15) (ephemerisref1_Years_Later.l0 (k + 1) a1 a2 a3 a4 a5 a6 a7 a8 a9 a10 a11 a12 a13 a14 a15)) ∧ (∀ a1 a2 a3 a4 a5 a6 a7 a8 a9 a10 a11 a12 a13 a14 a15, LeO (ephemerisref1_Years_Later.l1 k a1 a2 a3 a4 a5 a6 a7 a8 a9 a10 a11 a12 a13 a14 a15) (ephemerisref1_Years_Later.l1 (k + 1) a1 a2 a3 a4 a5 a6 a7 a8 a9 a10 a11 a12 a13 a14 a15))
 | 0 => ⟨fun _ _ _ _ _ _ _ _ _ _ _ _ _ _ _ r h => by simp [ephemerisref1_Years_Later.l0] at h, fun _ _ _ _ _ _ _ _ _ _ _ _ _ _ _ r h => by simp [ephemerisref1_Years_Later.l1] at h⟩
 | k + 1 => by
  obtain ⟨i1, i2⟩ := ephemerisref1_Years_Later.mono_l k
  constructor
  ·intro a1 a2 a3 a4 a5 a6 a7 a8 a9 a10 a11 a12 a13 a14 a15
   unfold ephemerisref1_Years_Later.l0
   exact i2 _ _ _ _ _ _ _ _ _ _ _ _ _ _ _
  ·intro a1 a2 a3 a4 a5 a6 a7 a8 a9 a10 a11 a12 a13 a14 a15
   unfold ephemerisref1_Years_Later.l1
   exact LeO.bind (ephemerisref1_Years_Later.mono_c _ _ _ _ _ _ _ _ _ _ _ _) (fun _ => LeO.ite (i2 _ _ _ _ _ _ _ _ _ _ _ _ _ _ _) (LeO.ite (LeO.ite (ephemerisref1_Years_Later.mono_f _ _ _ _ _ _ _ _ _ _ _ _ _) (i1 _ _ _ _ _ _ _ _ _ _ _ _ _ _ _)) (LeO.refl _)))
theorem ephemerisref1_Years_Later.mono : ∀ a0 a1 a2 a3 a4 a5 a6 a7 a8 a9 a10 a11 k, LeO (ephemerisref1_Years_Later.f k a0 a1 a2 a3 a4 a5 a6 a7 a8 a9 a10 a11) (ephemerisref1_Years_Later.f (k + 1) a0 a1 a2 a3 a4 a5 a6 a7 a8 a9 a10 a11) := by
 intro a0 a1 a2 a3 a4 a5 a6 a7 a8 a9 a10 a11 k
 unfold ephemerisref1_Years_Later.f
 exact LeO.bind (ephemerisref1_Years_FromDay.mono _ _ _ _ _ _ _ _ _ _ _) (fun _ => LeO.ite (LeO.ite (LeO.ite ((ephemerisref1_Years_Later.mono_l _).1 _ _ _ _ _ _ _ _ _ _ _ _ _ _ _) (LeO.refl _)) (LeO.refl _)) (LeO.refl _))
theorem ephemerisref1_Years_Later.box {w : World} {g : Nat} {s : ByteArray} {a b c d e : Int} {u v x : Value} (h : w.heap[g]? = some (.cells #[.string s, .int .i64 a, .int .i64 b, u, v, x, .int .i64 c, .int .i64 d, .int .i64 e] 53 (0, 0))) : (w.cell? ⟨g, 0, none⟩ = some (.string s) ∧ w.cell? ⟨g, 1, none⟩ = some (.int .i64 a) ∧ w.cell? ⟨g, 2, none⟩ = some (.int .i64 b) ∧ w.cell? ⟨g, 3, none⟩ = some u ∧ w.cell? ⟨g, 4, none⟩ = some v ∧ w.cell? ⟨g, 5, none⟩ = some x ∧ w.cell? ⟨g, 6, none⟩ = some (.int .i64 c) ∧ w.cell? ⟨g, 7, none⟩ = some (.int .i64 d) ∧ w.cell? ⟨g, 8, none⟩ = some (.int .i64 e)) ∧ w.frozen? ⟨g, 0, none⟩ = false ∧ w.frozen? ⟨g, 1, none⟩ = false ∧ w.frozen? ⟨g, 2, none⟩ = false ∧ w.frozen? ⟨g, 3, none⟩ = false ∧ w.frozen? ⟨g, 4, none⟩ = false ∧ w.frozen? ⟨g, 5, none⟩ = false ∧ w.frozen? ⟨g, 6, none⟩ = false ∧ w.frozen? ⟨g, 7, none⟩ = false ∧ w.frozen? ⟨g, 8, none⟩ = false :=
 ⟨⟨(blk_cell h 0).trans rfl, (blk_cell h 1).trans rfl, (blk_cell h 2).trans rfl, (blk_cell h 3).trans rfl, (blk_cell h 4).trans rfl, (blk_cell h 5).trans rfl, (blk_cell h 6).trans rfl, (blk_cell h 7).trans rfl, (blk_cell h 8).trans rfl⟩, blk_frozen h 0, blk_frozen h 1, blk_frozen h 2, blk_frozen h 3, blk_frozen h 4, blk_frozen h 5, blk_frozen h 6, blk_frozen h 7, blk_frozen h 8⟩
set_option maxHeartbeats 16000000 in
set_option maxRecDepth 100000 in
theorem ephemerisref1_Years_Later.calls (k : Nat) (a0_0 : ByteArray) (a0_1 : Int) (a0_2 : Int) (A0_3 : Option Addr) (c0_3 : Nat) (l0_3 : List (S125)) (A0_4 : Option Addr) (c0_4 : Nat) (l0_4 : List Int) (A0_5 : Option Addr) (c0_5 : Nat) (l0_5 : List Bool) (a0_6 : Int) (a0_7 : Int) (a0_8 : Int) (a1 : Int) (a2 : Int) (a3 : Int) (r1 : Int) (r2 : Int) (w : World) (hr0_3 : Kd.C k125 w A0_3 l0_3.length l0_3) (hc0_3 : l0_3.length ≤ c0_3) (hr0_4 : Kd.C (Kd.int .i64) w A0_4 l0_4.length l0_4) (hc0_4 : l0_4.length ≤ c0_4) (hr0_5 : Kd.C Kd.bool w A0_5 l0_5.length l0_5) (hc0_5 : l0_5.length ≤ c0_5) (h : ephemerisref1_Years_Later.f k a0_0 a0_1 a0_2 l0_3 l0_4 l0_5 a0_6 a0_7 a0_8 a1 a2 a3 = some (r1, r2)) :
  Calls Try.prog 24 #[.agg #[.string a0_0, .int .i64 a0_1, .int .i64 a0_2, .slice A0_3 l0_3.length c0_3, .slice A0_4 l0_4.length c0_4, .slice A0_5 l0_5.length c0_5, .int .i64 a0_6, .int .i64 a0_7, .int .i64 a0_8], .int .i64 a1, .int .i64 a2, .int .i64 a3] w fun e w' => e = .returned (.tuple #[.int .i64 r1, .int .i64 r2]) ∧ Below w.heap.size w w' := by
 have hu53 := Try.underlying53
 have hu107 := Try.underlying107
 have HR0_3 := Aside0.mk hr0_3
 have HC0_3 := Aside0.mk hc0_3
 clear hr0_3 hc0_3
 have HR0_4 := Aside0.mk hr0_4
 have HC0_4 := Aside0.mk hc0_4
 clear hr0_4 hc0_4
 have HR0_5 := Aside0.mk hr0_5
 have HC0_5 := Aside0.mk hc0_5
 clear hr0_5 hc0_5
 have HB := Aside0.mk (Below.refl w.heap.size w)
 unfold ephemerisref1_Years_Later.f at h
 obtain ⟨⟨t270, t271, t272, t273⟩, A50, H⟩ := Option.bind_eq_some_iff.mp h
 have A5 := Aside0.mk A50
 clear A50 h
 have H' := Aside0.mk H
 clear H
 go_enter Try.func24, Try.ntmps24
 go_upto_region 2 with (first | ((with_reducible refine gate_dst (N := 4) rfl ?_); refine box_event ?hg (N := 4) ?hd (cs := #[.string a0_0, .int .i64 a0_1, .int .i64 a0_2, .slice A0_3 l0_3.length c0_3, .slice A0_4 l0_4.length c0_4, .slice A0_5 l0_5.length c0_5, .int .i64 a0_6, .int .i64 a0_7, .int .i64 a0_8]) (t := 53) ?hr ?_; (case hd => rfl); (case hg => rfl); (case hr => first | (go_simp; done) | (go_simp; rfl)); intro gb269 hg w7 hbox hb; have n0_ := Aside0.mk (below_step be hb); have n1_ := Aside0.mk (hbox); have n2_ := gs hg HB; have n3_ := n2_; clear HB; have HB := n0_; have BK269 := n1_; have GW269 := n2_; have GE269 := n3_; clear n0_ n1_ n2_ n3_; clear hb hbox hg; obtain ⟨hcz8_0, hcz8_1, hcz8_2, hcz8_3, hcz8_4, hcz8_5, hcz8_6, hcz8_7, hcz8_8, hfz8_0, hfz8_1, hfz8_2, hfz8_3, hfz8_4, hfz8_5, hfz8_6, hfz8_7, hfz8_8⟩ := bc9 BK269) | ((with_reducible refine gate_callee (f := 69) rfl ?_); refine goesL_ (some 19) rfl rfl Try.func69 kx rfl #[.agg #[.string a0_0, .int .i64 a0_1, .int .i64 a0_2, .slice A0_3 l0_3.length c0_3, .slice A0_4 l0_4.length c0_4, .slice A0_5 l0_5.length c0_5, .int .i64 a0_6, .int .i64 a0_7, .int .i64 a0_8], .int .i64 a1] rfl aa ?_; (with_reducible refine (ephemerisref1_Years_FromDay.calls k a0_0 a0_1 a0_2 _ _ l0_3 _ _ l0_4 _ _ l0_5 a0_6 a0_7 a0_8 a1 t270 t271 t272 t273 _ ?side1 ?side2 ?side3 ?side4 ?side5 ?side6 A5.out).mono ?_); (case side1 => exact kc (Kd.C_below HR0_3.out HB.out)); (case side2 => exact HC0_3.out); (case side3 => exact kc (Kd.C_below HR0_4.out HB.out)); (case side4 => exact HC0_4.out); (case side5 => exact kc (Kd.C_below HR0_5.out HB.out)); (case side6 => exact HC0_5.out); rintro e w9 ⟨rfl, hb⟩; refine ⟨_, rfl, ?_⟩; have n0_ := bb BK269 hb; have n1_ := Aside0.mk (below_step be hb); clear BK269; clear HB; have BK269 := n0_; have HB := n1_; clear n0_ n1_; (try clear hb); (try clear hb2); (try clear hk); (try clear hi)) | ((with_reducible refine gate_dst (N := 10) rfl ?_); refine box_event ?hg (N := 10) ?hd (cs := #[.int .i64 0, .int .i64 0, .int .i64 0]) (t := 107) ?hr ?_; (case hd => rfl); (case hg => rfl); (case hr => first | (go_simp; done) | (go_simp; rfl)); intro gb274 hg w10 hbox hb; have n0_ := bb BK269 hb; have n1_ := Aside0.mk (below_step be hb); have n2_ := Aside0.mk (hbox); have n3_ := gs hg HB; have n4_ := n3_; have n5_ := nl BK269 hg; have n6_ := ns n5_; clear BK269; clear HB; have BK269 := n0_; have HB := n1_; have BK274 := n2_; have GW274 := n3_; have GE274 := n4_; have NB269_274 := n5_; have NB274_269 := n6_; clear n0_ n1_ n2_ n3_ n4_ n5_ n6_; clear hb hbox hg; have hnb11 := NB274_269.out; have hnc11 := NB269_274.out; obtain ⟨hcz12_0, hcz12_1, hcz12_2, hfz12_0, hfz12_1, hfz12_2⟩ := bc3 BK274; obtain ⟨hcz13_0, hcz13_1, hcz13_2, hcz13_3, hcz13_4, hcz13_5, hcz13_6, hcz13_7, hcz13_8, hfz13_0, hfz13_1, hfz13_2, hfz13_3, hfz13_4, hfz13_5, hfz13_6, hfz13_7, hfz13_8⟩ := bc9 BK269))
 have HI := Aside0.mk (((IsS107.set_0 (w0 := w) (W := w10) (g := gb274) ⟨BK274.out, GE274.out⟩ t270).set_1 t271).set_2 t272)
 have n0_ := Aside0.mk (blk_far (blk_far (blk_far BK269.out (p := ⟨gb274, 0, none⟩) NB269_274.out (.int .i64 t270)) (p := ⟨gb274, 1, none⟩) NB269_274.out (.int .i64 t271)) (p := ⟨gb274, 2, none⟩) NB269_274.out (.int .i64 t272))
 have n1_ := Aside0.mk (((HB.out.setCell (p := ⟨gb274, 0, none⟩) GE274.out (.int .i64 t270)).setCell (p := ⟨gb274, 1, none⟩) GE274.out (.int .i64 t271)).setCell (p := ⟨gb274, 2, none⟩) GE274.out (.int .i64 t272))
 clear BK269 BK274 HB
 generalize ((w10.setCell ⟨gb274, 0, none⟩ (.int .i64 t270)).setCell ⟨gb274, 1, none⟩ (.int .i64 t271)).setCell ⟨gb274, 2, none⟩ (.int .i64 t272) = w15 at HI n0_ n1_ ⊢
 have BK269 := n0_
 have HB := n1_
 clear n0_ n1_
 obtain ⟨⟨h0, h1, h2⟩, f0, f1, f2⟩ := ephemerisref1_Years_step.cells HI.out
 obtain ⟨⟨k0, k1, k2, k3, k4, k5, k6, k7, k8⟩, q0, q1, q2, q3, q4, q5, q6, q7, q8⟩ := ephemerisref1_Years_Later.box BK269.out
 have H := H'.out
 simp only at H
 by_cases cE : t273 = 0
 rotate_left
 ·rw [if_neg cE] at H
  simp only [Option.some.injEq, Prod.mk.injEq] at H
  obtain ⟨rfl, rfl⟩ := H
  have e1 : (t273 != 0) = true := bne_iff_ne.mpr cE
  have e2 : decide (t273 = 0) = false := decide_eq_false cE
  clear H'
  go_wp2
  go_ret2
  exact ⟨rfl, HB.out⟩
 rw [if_pos cE] at H
 subst cE
 obtain ⟨b2_, hb2_⟩ : ∃ b, ephemerisref1_Years_Later.inB a2 = b := ⟨_, rfl⟩
 have HI2_ := Aside0.mk ((ephemerisref1_Years_Later.in_ a2).trans (congrArg some hb2_))
 obtain ⟨b3_, hb3_⟩ : ∃ b, ephemerisref1_Years_Later.inB a3 = b := ⟨_, rfl⟩
 have HI3_ := Aside0.mk ((ephemerisref1_Years_Later.in_ a3).trans (congrArg some hb3_))
 rw [hb2_, hb3_] at H
 clear hb2_ hb3_ H'
 cases b2_ with
 | false =>
  rw [if_neg (by decide)] at H
  simp only [Option.some.injEq, Prod.mk.injEq] at H
  obtain ⟨rfl, rfl⟩ := H
  go_wp2_with (go_at_call 21; (with_reducible refine (ephemerisref1_In.calls a2 (-10000) 10000 false _ HI2_.out).mono ?_); rintro e w' ⟨rfl, ⟨nd, rfl⟩⟩)
  go_ret2
  exact ⟨rfl, by first | exact HB.out | exact pw_below_drewN HB.out _⟩
 | true =>
 rw [if_pos rfl] at H
 cases b3_ with
 | false =>
  rw [if_neg (by decide)] at H
  simp only [Option.some.injEq, Prod.mk.injEq] at H
  obtain ⟨rfl, rfl⟩ := H
  go_wp2_with (first | (go_at_call 21; (with_reducible refine (ephemerisref1_In.calls a2 (-10000) 10000 true _ HI2_.out).mono ?_); rintro e w' ⟨rfl, ⟨nd, rfl⟩⟩) | (go_at_call 21; (with_reducible refine (ephemerisref1_In.calls a3 (-10000) 10000 false _ HI3_.out).mono ?_); rintro e w' ⟨rfl, ⟨nd, rfl⟩⟩))
  go_ret2
  exact ⟨rfl, by first | exact HB.out | exact pw_below_drewN HB.out _ | exact pw_below_drewN (pw_below_drewN HB.out _) _⟩
 | true =>
 rw [if_pos rfl] at H
 have H0 := Aside0.mk H
 clear H
 go_upto_region 6 with (first | (go_at_call 21; (with_reducible refine (ephemerisref1_In.calls a2 (-10000) 10000 true _ HI2_.out).mono ?_); rintro e w' ⟨rfl, ⟨nd, rfl⟩⟩) | (go_at_call 21; (with_reducible refine (ephemerisref1_In.calls a3 (-10000) 10000 true _ HI3_.out).mono ?_); rintro e w' ⟨rfl, ⟨nd, rfl⟩⟩))
 generalize hq_ : World.drewN w15 _ = wA
 have HI4_ := Aside0.mk (show IsS107 w wA gb274 t270 t271 t272 from hq_ ▸ HI.out.drewN _)
 have BK4_ := Aside0.mk (show wA.heap[gb269]? = some (.cells #[.string a0_0, .int .i64 a0_1, .int .i64 a0_2, .slice A0_3 l0_3.length c0_3, .slice A0_4 l0_4.length c0_4, .slice A0_5 l0_5.length c0_5, .int .i64 a0_6, .int .i64 a0_7, .int .i64 a0_8] 53 (0, 0)) from hq_ ▸ blk_drewN BK269.out _)
 have HB4_ := Aside0.mk (show Below w.heap.size w wA from hq_ ▸ pw_below_drewN HB.out _)
 clear hq_ HI BK269 HB h0 h1 h2 f0 f1 f2 k0 k1 k2 k3 k4 k5 k6 k7 k8 q0 q1 q2 q3 q4 q5 q6 q7 q8
 have HI := HI4_
 have BK269 := BK4_
 have HB := HB4_
 clear HI4_ BK4_ HB4_ HI2_ HI3_
 obtain ⟨⟨h0, h1, h2⟩, f0, f1, f2⟩ := ephemerisref1_Years_step.cells HI.out
 obtain ⟨⟨k0, k1_, k2_, k3_, k4_, k5_, k6_, k7_, k8_⟩, q0, q1, q2, q3, q4, q5, q6, q7, q8⟩ := ephemerisref1_Years_Later.box BK269.out
 obtain ⟨B_, hB_⟩ : ∃ b, (if a3 < 0 then (-1 : Int) else 1) = b := ⟨_, rfl⟩
 obtain ⟨L_, hL_⟩ : ∃ b, (if a3 < 0 then wrap64 (-a3) else a3) = b := ⟨_, rfl⟩
 have H1 := Aside0.mk (show ephemerisref1_Years_Later.l0 k a0_0 a0_1 a0_2 l0_3 l0_4 l0_5 a0_6 a0_7 a0_8 B_ L_ 1 (wrap64 (t270 + a2)) t271 t272 = some (r1, r2) from by rw [← hB_, ← hL_]; exact H0.out)
 have HBB_ := Aside0.mk hB_
 have HLL_ := Aside0.mk hL_
 clear hB_ hL_ H0
 go_upto_if 40 with (fail)
 go_cut [12, 13] (fun v12 v13 wc => v12 = .int .i64 L_ ∧ v13 = .int .i64 B_ ∧ Aside0 (IsS107 w wc gb274 (wrap64 (t270 + a2)) t271 t272) ∧ Aside0 (wc.heap[gb269]? = some (.cells #[.string a0_0, .int .i64 a0_1, .int .i64 a0_2, .slice A0_3 l0_3.length c0_3, .slice A0_4 l0_4.length c0_4, .slice A0_5 l0_5.length c0_5, .int .i64 a0_6, .int .i64 a0_7, .int .i64 a0_8] 53 (0, 0))) ∧ Aside0 (Below w.heap.size w wc))
 case first =>
  have hB_ := HBB_.out
  have hL_ := HLL_.out
  by_cases hn : a3 < 0
  ·rw [if_pos hn] at hB_ hL_
   subst hB_ hL_
   have e5 : decide (a3 < 0) = true := decide_eq_true hn
   have e7 : (a3 < 0) = True := eq_true hn
   go_wp2
   go_meet
   case rel => exact ⟨by first | rfl | (simp; done) | (simp [i64_w]; done), rfl, ⟨HI.out.set_0 _⟩, ⟨blk_far BK269.out (p := ⟨gb274, 0, none⟩) NB269_274.out _⟩, ⟨HB.out.setCell (p := ⟨gb274, 0, none⟩) GE274.out _⟩⟩
  ·rw [if_neg hn] at hB_ hL_
   subst hB_ hL_
   have e5 : decide (a3 < 0) = false := decide_eq_false hn
   have e7 : (a3 < 0) = False := eq_false hn
   go_wp2
   go_meet
   case rel => exact ⟨rfl, rfl, ⟨HI.out.set_0 _⟩, ⟨blk_far BK269.out (p := ⟨gb274, 0, none⟩) NB269_274.out _⟩, ⟨HB.out.setCell (p := ⟨gb274, 0, none⟩) GE274.out _⟩⟩
 case rest =>
  clear HI BK269 HB HBB_ HLL_ h0 h1 h2 f0 f1 f2 k0 k1_ k2_ k3_ k4_ k5_ k6_ k7_ k8_ q0 q1 q2 q3 q4 q5 q6 q7 q8
  obtain ⟨rfl, rfl, HI, BK269, HB⟩ := hcut
  go_wp2
  go_loopg [12, 14] k (fun kq v12 v14 w' => ∃ (left_ way_ y_ m_ : Int), v12 = .int .i64 left_ ∧ v14 = .int .i64 way_ ∧ Aside0 (ephemerisref1_Years_Later.l0 kq a0_0 a0_1 a0_2 l0_3 l0_4 l0_5 a0_6 a0_7 a0_8 B_ left_ way_ y_ m_ t272 = some (r1, r2)) ∧ Aside0 (kq ≤ k) ∧ Aside0 (IsS107 w w' gb274 y_ m_ t272) ∧ Aside0 (w'.heap[gb269]? = some (.cells #[.string a0_0, .int .i64 a0_1, .int .i64 a0_2, .slice A0_3 l0_3.length c0_3, .slice A0_4 l0_4.length c0_4, .slice A0_5 l0_5.length c0_5, .int .i64 a0_6, .int .i64 a0_7, .int .i64 a0_8] 53 (0, 0))) ∧ Aside0 (Below w.heap.size w w'))
  case atStart => exact ⟨_, _, _, _, rfl, rfl, H1, ⟨Nat.le_refl _⟩, HI, BK269, HB⟩
  case round =>
   clear H1 HI BK269 HB
   obtain ⟨left_, way_, y_, m_, rfl, rfl, HA, HK1, HI, BK269, HB⟩ := hrel
   cases gk with
   | zero => exact absurd HA.out (by simp [ephemerisref1_Years_Later.l0])
   | succ k1 =>
    have H := HA.out
    clear HA
    simp only [ephemerisref1_Years_Later.l0] at H
    have H1 := Aside0.mk H
    clear H
    go_wp2
    go_loopg [] k1 (fun kq w' => ∃ (y_ m_ : Int), Aside0 (ephemerisref1_Years_Later.l1 kq a0_0 a0_1 a0_2 l0_3 l0_4 l0_5 a0_6 a0_7 a0_8 B_ left_ way_ y_ m_ t272 = some (r1, r2)) ∧ Aside0 (kq ≤ k1) ∧ Aside0 (IsS107 w w' gb274 y_ m_ t272) ∧ Aside0 (w'.heap[gb269]? = some (.cells #[.string a0_0, .int .i64 a0_1, .int .i64 a0_2, .slice A0_3 l0_3.length c0_3, .slice A0_4 l0_4.length c0_4, .slice A0_5 l0_5.length c0_5, .int .i64 a0_6, .int .i64 a0_7, .int .i64 a0_8] 53 (0, 0))) ∧ Aside0 (Below w.heap.size w w'))
    case atStart => exact ⟨_, _, H1, ⟨Nat.le_refl _⟩, HI, BK269, HB⟩
    case round =>
     clear H1 HI BK269 HB
     obtain ⟨y_, m_, HA, HK2, HI, BK269, HB⟩ := hrel
     cases gk with
     | zero => exact absurd HA.out (by simp [ephemerisref1_Years_Later.l1])
     | succ k2 =>
      have H := HA.out
      clear HA
      simp only [ephemerisref1_Years_Later.l1] at H
      obtain ⟨b_, hb0_, H⟩ := Option.bind_eq_some_iff.mp H
      have HC_ := Aside0.mk hb0_
      have H' := Aside0.mk H
      clear hb0_ H
      go_upto_region 12 with (fail)
      go_cut [55] (fun v55 wc => v55 = .bool b_ ∧ Aside0 (IsS107 w wc gb274 y_ m_ t272) ∧ Aside0 (wc.heap[gb269]? = some (.cells #[.string a0_0, .int .i64 a0_1, .int .i64 a0_2, .slice A0_3 l0_3.length c0_3, .slice A0_4 l0_4.length c0_4, .slice A0_5 l0_5.length c0_5, .int .i64 a0_6, .int .i64 a0_7, .int .i64 a0_8] 53 (0, 0))) ∧ Aside0 (Below w.heap.size w wc))
      case first =>
       obtain ⟨⟨h0, h1, h2⟩, f0, f1, f2⟩ := ephemerisref1_Years_step.cells HI.out
       obtain ⟨⟨k0, k1_, k2_, k3_, k4_, k5_, k6_, k7_, k8_⟩, q0, q1, q2, q3, q4, q5, q6, q7, q8⟩ := ephemerisref1_Years_Later.box BK269.out
       have hcd_ := HC_.out
       unfold ephemerisref1_Years_Later.cond at hcd_
       obtain ⟨b3_, hb3_⟩ : ∃ b, ephemerisref1_Years_Later.inB y_ = b := ⟨_, rfl⟩
       have HN_ := Aside0.mk ((ephemerisref1_Years_Later.in_ y_).trans (congrArg some hb3_))
       rw [hb3_] at hcd_
       clear hb3_ HC_ H'
       cases b3_ with
       | false =>
        rw [if_neg (by decide)] at hcd_
        obtain rfl := Option.some.inj hcd_
        clear hcd_
        go_wp2_with (go_at_call 21; (with_reducible refine (ephemerisref1_In.calls y_ (-10000) 10000 false _ HN_.out).mono ?_); rintro e w' ⟨rfl, ⟨nd, rfl⟩⟩)
        go_meet
        case rel => exact ⟨rfl, ⟨by first | exact HI.out | exact HI.out.drewN _⟩, ⟨by first | exact BK269.out | exact blk_drewN BK269.out _⟩, ⟨by first | exact HB.out | exact pw_below_drewN HB.out _⟩⟩
       | true =>
        rw [if_pos rfl] at hcd_
        obtain ⟨q_, hq0_, hqb_⟩ := Option.bind_eq_some_iff.mp hcd_
        have HQ_ := Aside0.mk hq0_
        have HQB_ := Aside0.mk (Option.some.inj hqb_)
        clear hcd_ hq0_ hqb_
        by_cases hqz : q_ = 0
        ·have hb_ : b_ = true := by rw [← HQB_.out]; exact decide_eq_true hqz
         subst hb_
         have e5 : decide (q_ = 0) = true := decide_eq_true hqz
         have e6 : (q_ == 0) = true := beq_iff_eq.mpr hqz
         clear hqz
         go_wp2_with (first | (go_at_call 21; (with_reducible refine (ephemerisref1_In.calls y_ (-10000) 10000 true _ HN_.out).mono ?_); rintro e w' ⟨rfl, ⟨nd, rfl⟩⟩) | (go_at_call 70; (with_reducible refine (ephemerisref1_Years_Month.calls k2 a0_0 a0_1 a0_2 _ _ l0_3 _ _ l0_4 _ _ l0_5 a0_6 a0_7 a0_8 y_ m_ q_ _ (Kd.C_below HR0_3.out (by first | exact HB.out | exact pw_below_drewN HB.out _)) HC0_3.out (Kd.C_below HR0_4.out (by first | exact HB.out | exact pw_below_drewN HB.out _)) HC0_4.out (Kd.C_below HR0_5.out (by first | exact HB.out | exact pw_below_drewN HB.out _)) HC0_5.out HQ_.out).mono ?_); rintro e w2_ ⟨rfl, hb2_⟩; have HI3_ := Aside0.mk (IsS107.below (by first | exact HI.out | exact HI.out.drewN _) hb2_); have BK3_ := Aside0.mk (blk_below (by first | exact BK269.out | exact blk_drewN BK269.out _) hb2_); have HB3_ := Aside0.mk (below_step (by first | exact HB.out | exact pw_below_drewN HB.out _) hb2_); clear hb2_; obtain ⟨⟨h0_, h1_, h2_⟩, f0_, f1_, f2_⟩ := ephemerisref1_Years_step.cells HI3_.out; obtain ⟨⟨p0_, p1_, p2_, p3_, p4_, p5_, p6_, p7_, p8_⟩, r0_, r1_, r2_, r3_, r4_, r5_, r6_, r7_, r8_⟩ := ephemerisref1_Years_Later.box BK3_.out))
         go_meet
         case rel => exact ⟨by first | rfl | (simp; done) | (simp [*]; done), HI3_, BK3_, HB3_⟩
        ·have hb_ : b_ = false := by rw [← HQB_.out]; exact decide_eq_false hqz
         subst hb_
         have e5 : decide (q_ = 0) = false := decide_eq_false hqz
         have e6 : (q_ == 0) = false := beq_eq_false_iff_ne.mpr hqz
         clear hqz
         go_wp2_with (first | (go_at_call 21; (with_reducible refine (ephemerisref1_In.calls y_ (-10000) 10000 true _ HN_.out).mono ?_); rintro e w' ⟨rfl, ⟨nd, rfl⟩⟩) | (go_at_call 70; (with_reducible refine (ephemerisref1_Years_Month.calls k2 a0_0 a0_1 a0_2 _ _ l0_3 _ _ l0_4 _ _ l0_5 a0_6 a0_7 a0_8 y_ m_ q_ _ (Kd.C_below HR0_3.out (by first | exact HB.out | exact pw_below_drewN HB.out _)) HC0_3.out (Kd.C_below HR0_4.out (by first | exact HB.out | exact pw_below_drewN HB.out _)) HC0_4.out (Kd.C_below HR0_5.out (by first | exact HB.out | exact pw_below_drewN HB.out _)) HC0_5.out HQ_.out).mono ?_); rintro e w2_ ⟨rfl, hb2_⟩; have HI3_ := Aside0.mk (IsS107.below (by first | exact HI.out | exact HI.out.drewN _) hb2_); have BK3_ := Aside0.mk (blk_below (by first | exact BK269.out | exact blk_drewN BK269.out _) hb2_); have HB3_ := Aside0.mk (below_step (by first | exact HB.out | exact pw_below_drewN HB.out _) hb2_); clear hb2_; obtain ⟨⟨h0_, h1_, h2_⟩, f0_, f1_, f2_⟩ := ephemerisref1_Years_step.cells HI3_.out; obtain ⟨⟨p0_, p1_, p2_, p3_, p4_, p5_, p6_, p7_, p8_⟩, r0_, r1_, r2_, r3_, r4_, r5_, r6_, r7_, r8_⟩ := ephemerisref1_Years_Later.box BK3_.out))
         go_meet
         case rel => exact ⟨by first | rfl | (simp; done) | (simp [*]; done), HI3_, BK3_, HB3_⟩
      case rest =>
       clear HI BK269 HB HC_
       obtain ⟨rfl, HI, BK269, HB⟩ := hcut
       obtain ⟨⟨h0, h1, h2⟩, f0, f1, f2⟩ := ephemerisref1_Years_step.cells HI.out
       obtain ⟨⟨k0, k1_, k2_, k3_, k4_, k5_, k6_, k7_, k8_⟩, q0, q1, q2, q3, q4, q5, q6, q7, q8⟩ := ephemerisref1_Years_Later.box BK269.out
       cases b_ with
       | true =>
        go_wp2_with (go_at_call 71; (with_reducible refine (ephemerisref1_Years_step.calls a0_0 a0_1 a0_2 A0_3 c0_3 l0_3 A0_4 c0_4 l0_4 A0_5 c0_5 l0_5 a0_6 a0_7 a0_8 gb274 y_ m_ t272 way_ w _ (by first | exact HI.out | exact HI.out.drewN _) (by first | exact HB.out | exact pw_below_drewN HB.out _)).mono ?_); rintro e w3_ ⟨rfl, hI3_, hB3_, hK3_⟩)
        go_roundg k2
        case measure => have := HK2.out; omega
        case rel => exact ⟨_, _, ⟨by simpa using H'.out⟩, ⟨by have := HK2.out; omega⟩, ⟨by assumption⟩, ⟨KeepBut.blk (by assumption) BK269.out NB269_274.out (by simp)⟩, ⟨by assumption⟩⟩
       | false =>
        have H := H'.out
        rw [if_neg (by decide)] at H
        clear H'
        obtain ⟨b3_, hb3_⟩ : ∃ b, ephemerisref1_Years_Later.inB y_ = b := ⟨_, rfl⟩
        have HN_ := Aside0.mk ((ephemerisref1_Years_Later.in_ y_).trans (congrArg some hb3_))
        rw [hb3_] at H
        clear hb3_
        cases b3_ with
        | false =>
         rw [if_neg (by decide)] at H
         simp only [Option.some.injEq, Prod.mk.injEq] at H
         obtain ⟨rfl, rfl⟩ := H
         go_wp2_with (go_at_call 21; (with_reducible refine (ephemerisref1_In.calls y_ (-10000) 10000 false _ HN_.out).mono ?_); rintro e w' ⟨rfl, ⟨nd, rfl⟩⟩)
         go_ret2
         exact ⟨rfl, by first | exact HB.out | exact pw_below_drewN HB.out _⟩
        | true =>
         rw [if_pos rfl] at H
         by_cases hl : left_ = 0
         ·rw [if_pos hl] at H
          have e5 : decide (left_ = 0) = true := decide_eq_true hl
          have e6 : (left_ == 0) = true := beq_iff_eq.mpr hl
          clear hl
          unfold ephemerisref1_Years_Later.fin at H
          obtain ⟨q_, hq0_, H⟩ := Option.bind_eq_some_iff.mp H
          have HQ_ := Aside0.mk hq0_
          clear hq0_
          obtain ⟨⟨t275, t276⟩, A80, H⟩ := Option.bind_eq_some_iff.mp H
          simp only [Option.some.injEq, Prod.mk.injEq] at H
          obtain ⟨rfl, rfl⟩ := H
          by_cases hd : t272 > q_
          ·rw [if_pos hd] at A80
           have A8 := Aside0.mk A80
           have e7 : decide (q_ < t272) = true := decide_eq_true hd
           clear A80 hd
           go_wp2_with (first | (go_at_call 21; (with_reducible refine (ephemerisref1_In.calls y_ (-10000) 10000 true _ HN_.out).mono ?_); rintro e w' ⟨rfl, ⟨nd, rfl⟩⟩) | (go_at_call 70; (with_reducible refine (ephemerisref1_Years_Month.calls k2 a0_0 a0_1 a0_2 _ _ l0_3 _ _ l0_4 _ _ l0_5 a0_6 a0_7 a0_8 y_ m_ q_ _ (Kd.C_below HR0_3.out (by first | exact HB.out | exact pw_below_drewN HB.out _)) HC0_3.out (Kd.C_below HR0_4.out (by first | exact HB.out | exact pw_below_drewN HB.out _)) HC0_4.out (Kd.C_below HR0_5.out (by first | exact HB.out | exact pw_below_drewN HB.out _)) HC0_5.out HQ_.out).mono ?_); rintro e w2_ ⟨rfl, hb2_⟩; have HI3_ := Aside0.mk (IsS107.below (by first | exact HI.out | exact HI.out.drewN _) hb2_); have BK3_ := Aside0.mk (blk_below (by first | exact BK269.out | exact blk_drewN BK269.out _) hb2_); have HB3_ := Aside0.mk (below_step (by first | exact HB.out | exact pw_below_drewN HB.out _) hb2_); clear hb2_; obtain ⟨⟨h0_, h1_, h2_⟩, f0_, f1_, f2_⟩ := ephemerisref1_Years_step.cells HI3_.out; obtain ⟨⟨p0_, p1_, p2_, p3_, p4_, p5_, p6_, p7_, p8_⟩, r0_, r1_, r2_, r3_, r4_, r5_, r6_, r7_, r8_⟩ := ephemerisref1_Years_Later.box BK3_.out) | (go_at_call 72; (with_reducible refine (ephemerisref1_Years_ToDay.calls k2 a0_0 a0_1 a0_2 _ _ l0_3 _ _ l0_4 _ _ l0_5 a0_6 a0_7 a0_8 y_ m_ q_ t275 t276 _ (Kd.C_below HR0_3.out (by first | exact HB3_.out | exact HB3_.out.setCell (p := ⟨gb274, 2, none⟩) GE274.out _)) HC0_3.out (Kd.C_below HR0_4.out (by first | exact HB3_.out | exact HB3_.out.setCell (p := ⟨gb274, 2, none⟩) GE274.out _)) HC0_4.out (Kd.C_below HR0_5.out (by first | exact HB3_.out | exact HB3_.out.setCell (p := ⟨gb274, 2, none⟩) GE274.out _)) HC0_5.out A8.out).mono ?_); rintro e w4_ ⟨rfl, hb4_⟩))
           go_ret2
           exact ⟨rfl, by first | exact below_step HB3_.out hb4_ | exact below_step (HB3_.out.setCell (p := ⟨gb274, 2, none⟩) GE274.out _) hb4_⟩
          ·rw [if_neg hd] at A80
           have A8 := Aside0.mk A80
           have e7 : decide (q_ < t272) = false := decide_eq_false hd
           clear A80 hd
           go_wp2_with (first | (go_at_call 21; (with_reducible refine (ephemerisref1_In.calls y_ (-10000) 10000 true _ HN_.out).mono ?_); rintro e w' ⟨rfl, ⟨nd, rfl⟩⟩) | (go_at_call 70; (with_reducible refine (ephemerisref1_Years_Month.calls k2 a0_0 a0_1 a0_2 _ _ l0_3 _ _ l0_4 _ _ l0_5 a0_6 a0_7 a0_8 y_ m_ q_ _ (Kd.C_below HR0_3.out (by first | exact HB.out | exact pw_below_drewN HB.out _)) HC0_3.out (Kd.C_below HR0_4.out (by first | exact HB.out | exact pw_below_drewN HB.out _)) HC0_4.out (Kd.C_below HR0_5.out (by first | exact HB.out | exact pw_below_drewN HB.out _)) HC0_5.out HQ_.out).mono ?_); rintro e w2_ ⟨rfl, hb2_⟩; have HI3_ := Aside0.mk (IsS107.below (by first | exact HI.out | exact HI.out.drewN _) hb2_); have BK3_ := Aside0.mk (blk_below (by first | exact BK269.out | exact blk_drewN BK269.out _) hb2_); have HB3_ := Aside0.mk (below_step (by first | exact HB.out | exact pw_below_drewN HB.out _) hb2_); clear hb2_; obtain ⟨⟨h0_, h1_, h2_⟩, f0_, f1_, f2_⟩ := ephemerisref1_Years_step.cells HI3_.out; obtain ⟨⟨p0_, p1_, p2_, p3_, p4_, p5_, p6_, p7_, p8_⟩, r0_, r1_, r2_, r3_, r4_, r5_, r6_, r7_, r8_⟩ := ephemerisref1_Years_Later.box BK3_.out) | (go_at_call 72; (with_reducible refine (ephemerisref1_Years_ToDay.calls k2 a0_0 a0_1 a0_2 _ _ l0_3 _ _ l0_4 _ _ l0_5 a0_6 a0_7 a0_8 y_ m_ t272 t275 t276 _ (Kd.C_below HR0_3.out (by first | exact HB3_.out | exact HB3_.out.setCell (p := ⟨gb274, 2, none⟩) GE274.out _)) HC0_3.out (Kd.C_below HR0_4.out (by first | exact HB3_.out | exact HB3_.out.setCell (p := ⟨gb274, 2, none⟩) GE274.out _)) HC0_4.out (Kd.C_below HR0_5.out (by first | exact HB3_.out | exact HB3_.out.setCell (p := ⟨gb274, 2, none⟩) GE274.out _)) HC0_5.out A8.out).mono ?_); rintro e w4_ ⟨rfl, hb4_⟩))
           go_ret2
           exact ⟨rfl, by first | exact below_step HB3_.out hb4_ | exact below_step (HB3_.out.setCell (p := ⟨gb274, 2, none⟩) GE274.out _) hb4_⟩
         ·rw [if_neg hl] at H
          have e5 : decide (left_ = 0) = false := decide_eq_false hl
          have e6 : (left_ == 0) = false := beq_eq_false_iff_ne.mpr hl
          have H2 := Aside0.mk H
          clear hl H
          go_wp2_with (first | (go_at_call 21; (with_reducible refine (ephemerisref1_In.calls y_ (-10000) 10000 true _ HN_.out).mono ?_); rintro e w' ⟨rfl, ⟨nd, rfl⟩⟩) | (go_at_call 71; (with_reducible refine (ephemerisref1_Years_step.calls a0_0 a0_1 a0_2 A0_3 c0_3 l0_3 A0_4 c0_4 l0_4 A0_5 c0_5 l0_5 a0_6 a0_7 a0_8 gb274 y_ m_ t272 B_ w _ (by first | exact HI.out | exact HI.out.drewN _) (by first | exact HB.out | exact pw_below_drewN HB.out _)).mono ?_); rintro e w3_ ⟨rfl, hI3_, hB3_, hK3_⟩))
          go_roundg k2
          case measure => have := HK2.out; have := HK1.out; omega
          case rel => exact ⟨wrap64 (left_ - 1), B_, _, _, by first | rfl | (simp; done) | (simp [*]; done) | (simp [i64_w]; done), rfl, H2, ⟨by have := HK2.out; have := HK1.out; omega⟩, ⟨by assumption⟩, ⟨KeepBut.blk (by assumption) (by first | exact BK269.out | exact blk_drewN BK269.out _) NB269_274.out (by simp)⟩, ⟨by assumption⟩⟩

end Go.Proofs.Ytlfammlboncmeaa.PArithLaters
