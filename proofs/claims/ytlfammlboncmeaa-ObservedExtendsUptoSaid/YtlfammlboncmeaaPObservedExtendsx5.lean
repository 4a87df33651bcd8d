/- The walks of the functions of this part. The proof of ephemerislaw1_ObservedExtends (in part) is written by hand; the other ones are as the kit's print tells them. -/
-- The walks of the law's functions, told by a program.
import Derived.Test.YtlfammlboncmeaaY
import Derived.Test.YtlfammlboncmeaaPObservedExtendsx0
import Derived.Test.YtlfammlboncmeaaPObservedExtendsx2
import Derived.Test.YtlfammlboncmeaaPObservedExtendsx3
import Derived.Test.YtlfammlboncmeaaPObservedExtendsx4
namespace Go.Proofs.Ytlfammlboncmeaa.PObservedExtends
open Go.RowKit Go.Proofs.YtlfammlboncmeaaW.PrintWords Go.Proofs.YtlfammlboncmeaaW.PrintLast Go.Proofs.YtlfammlboncmeaaW.PrintMore Go.Proofs.Ytlfammlboncmeaa.Y
attribute [local go_sem] max2_int min2_int max_two min_two max_three min_three max_four min_four   -- for this text's walks alone
set_option linter.unusedVariables false
set_option linter.unusedSimpArgs false

/-! ### ephemerislaw1_ObservedExtends: function 3 -/
mutual
def ephemerislaw1_ObservedExtends.l0 : Nat → List Int → List Int → Int → Int → ByteArray → Int → List Int → List Int → Option (Bool)
 | 0, _, _, _, _, _, _, _, _ => none
 | k + 1, x1, x5, x15, x16, x163000, x163001, x163002, x163003 => if x16 < x15 then (if 0 ≤ x16 then (if x16 < (x5.length : Int) then (ephemerislaw1_ObservedExtends.l0 k x1 (x5.set (x16 : Int).toNat (wrap64 (490 + (wrap64 (30 * x16))))) x15 (wrap64 (x16 + 1)) x163000 x163001 x163002 x163003) else (none)) else (none)) else ((ephemerislaw1_year12.f k).bind fun bt167 => ((observed_Extend.f k bt167.1 bt167.2.1 bt167.2.2.1 bt167.2.2.2 x5).bind fun bt175 => (if bt175.2.2.2.2 = 0 then (if (bt175.2.2.1.length : Int) = 2 then (if 24 < (bt175.2.2.2.1.length : Int) then (ephemerislaw1_ObservedExtends.j1 k x1 ((rd bt175.2.2.2.1 24) != 820) x163000 x163001 x163002 x163003) else (none)) else (ephemerislaw1_ObservedExtends.j1 k x1 true x163000 x163001 x163002 x163003)) else (ephemerislaw1_ObservedExtends.j1 k x1 true x163000 x163001 x163002 x163003))))
def ephemerislaw1_ObservedExtends.j1 : Nat → List Int → Bool → ByteArray → Int → List Int → List Int → Option (Bool)
 | 0, _, _, _, _, _, _ => none
 | k + 1, x1, x46, x163000, x163001, x163002, x163003 => if x46 = true then (some false) else ((observed_Extend.f k x163000 x163001 x163002 x163003 x1).bind fun bt186 => ((ephemerisref1_TableError.f k x163000 x163001 x163002 x163003).bind fun t196 => (if t196 = 0 then (if (x1.length : Int) = 12 then (ephemerislaw1_ObservedExtends.j2 k x1 bt186.2.2.2.2 t196 false x163000 x163001 x163002 x163003 bt186.1 bt186.2.1 bt186.2.2.1 bt186.2.2.2.1) else (ephemerislaw1_ObservedExtends.j2 k x1 bt186.2.2.2.2 t196 ((x1.length : Int) != 13) x163000 x163001 x163002 x163003 bt186.1 bt186.2.1 bt186.2.2.1 bt186.2.2.2.1)) else (ephemerislaw1_ObservedExtends.j2 k x1 bt186.2.2.2.2 t196 false x163000 x163001 x163002 x163003 bt186.1 bt186.2.1 bt186.2.2.1 bt186.2.2.2.1))))
def ephemerislaw1_ObservedExtends.j2 : Nat → List Int → Int → Int → Bool → ByteArray → Int → List Int → List Int → ByteArray → Int → List Int → List Int → Option (Bool)
 | 0, _, _, _, _, _, _, _, _, _, _, _, _ => none
 | k + 1, x1, x10, x11, x66, x163000, x163001, x163002, x163003, x196000, x196001, x196002, x196003 => if x66 = true then (ephemerislaw1_ObservedExtends.j3 k x1 x10 1 x163000 x163001 x163002 x163003 x196000 x196001 x196002 x196003) else (ephemerislaw1_ObservedExtends.j3 k x1 x10 x11 x163000 x163001 x163002 x163003 x196000 x196001 x196002 x196003)
def ephemerislaw1_ObservedExtends.j3 : Nat → List Int → Int → Int → ByteArray → Int → List Int → List Int → ByteArray → Int → List Int → List Int → Option (Bool)
 | 0, _, _, _, _, _, _, _, _, _, _, _ => none
 | k + 1, x1, x10, x11, x163000, x163001, x163002, x163003, x196000, x196001, x196002, x196003 => if ([] : List Int).length + x163002.length < 17592186044416 then ((some (([] : List Int) ++ x163002 : List Int)).bind fun y198 => (if y198.length < 17592186044416 then ((some (y198 ++ [(x1.length : Int)] : List Int)).bind fun y201 => (if ([] : List Int).length + x163003.length < 17592186044416 then ((some (([] : List Int) ++ x163003 : List Int)).bind fun y204 => (if y204.length + x1.length < 17592186044416 then ((some (y204 ++ x1 : List Int)).bind fun y207 => (if x11 = 0 then ((ephemerisref1_TableError.f k x163000 x163001 y201 y207).bind fun t210 => (ephemerislaw1_ObservedExtends.j4 k x10 t210 x196000 x196001 x196002 x196003 x163000 x163001 y201 y207)) else (ephemerislaw1_ObservedExtends.j4 k x10 x11 x196000 x196001 x196002 x196003 x163000 x163001 y201 y207))) else (none))) else (none))) else (none))) else (none)
def ephemerislaw1_ObservedExtends.j4 : Nat → Int → Int → ByteArray → Int → List Int → List Int → ByteArray → Int → List Int → List Int → Option (Bool)
 | 0, _, _, _, _, _, _, _, _, _, _ => none
 | k + 1, x10, x11, x196000, x196001, x196002, x196003, x198000, x198001, x198002, x198003 => if x11 = 0 then (if x10 = 0 then ((ephemerisref1_SameTable.f k x196000 x196001 x196002 x196003 x198000 x198001 x198002 x198003).bind fun t211 => (some t211)) else (some false)) else ((ephemerisref1_SameTable.f k x196000 x196001 x196002 x196003 (⟨#[]⟩ : ByteArray) 0 ([] : List Int) ([] : List Int)).bind fun t212 => (if t212 = true then (some (x10 == x11)) else (some false)))
end
def ephemerislaw1_ObservedExtends.f (k : Nat) (a0_0 : ByteArray) (a0_1 : Int) (l0_2 : List Int) (l0_3 : List Int) (l1 : List Int) : Option (Bool) := if 12 ≤ 35184372088832 then ((some (List.replicate 12 0 : List Int)).bind fun y163 => (ephemerislaw1_ObservedExtends.l0 k l1 y163 (y163.length : Int) 0 a0_0 a0_1 l0_2 l0_3)) else (none)
theorem ephemerislaw1_ObservedExtends.mono_l : ∀ k, (∀ y0 y1 y2 y3 y4 y5 y6 y7, LeO (ephemerislaw1_ObservedExtends.l0 k y0 y1 y2 y3 y4 y5 y6 y7) (ephemerislaw1_ObservedExtends.l0 (k + 1) y0 y1 y2 y3 y4 y5 y6 y7)) ∧ (∀ y0 y1 y2 y3 y4 y5, LeO (ephemerislaw1_ObservedExtends.j1 k y0 y1 y2 y3 y4 y5) (ephemerislaw1_ObservedExtends.j1 (k + 1) y0 y1 y2 y3 y4 y5)) ∧ (∀ y0 y1 y2 y3 y4 y5 y6 y7 y8 y9 y10 y11, LeO (ephemerislaw1_ObservedExtends.j2 k y0 y1 y2 y3 y4 y5 y6 y7 y8 y9 y10 y11) (ephemerislaw1_ObservedExtends.j2 (k + 1) y0 y1 y2 y3 y4 y5 y6 y7 y8 y9 y10 y11)) ∧ (∀ y0 y1 y2 y3 y4 y5 y6 y7 y8 y9 y10, LeO (ephemerislaw1_ObservedExtends.j3 k y0 y1 y2 y3 y4 y5 y6 y7 y8 y9 y10) (ephemerislaw1_ObservedExtends.j3 (k + 1) y0 y1 y2 y3 y4 y5 y6 y7 y8 y9 y10)) ∧ (∀ y0 y1 y2 y3 y4 y5 y6 y7 y8 y9, LeO (ephemerislaw1_ObservedExtends.j4 k y0 y1 y2 y3 y4 y5 y6 y7 y8 y9) (ephemerislaw1_ObservedExtends.j4 (k + 1) y0 y1 y2 y3 y4 y5 y6 y7 y8 y9))
 | 0 => ⟨fun _ _ _ _ _ _ _ _ r h => by simp [ephemerislaw1_ObservedExtends.l0] at h, fun _ _ _ _ _ _ r h => by simp [ephemerislaw1_ObservedExtends.j1] at h, fun _ _ _ _ _ _ _ _ _ _ _ _ r h => by simp [ephemerislaw1_ObservedExtends.j2] at h, fun _ _ _ _ _ _ _ _ _ _ _ r h => by simp [ephemerislaw1_ObservedExtends.j3] at h, fun _ _ _ _ _ _ _ _ _ _ r h => by simp [ephemerislaw1_ObservedExtends.j4] at h⟩
 | k + 1 => by
  obtain ⟨ih0, ih1, ih2, ih3, ih4⟩ := ephemerislaw1_ObservedExtends.mono_l k
  refine ⟨?_, ?_, ?_, ?_, ?_⟩
  ·intro y0 y1 y2 y3 y4 y5 y6 y7
   unfold ephemerislaw1_ObservedExtends.l0
   repeat' first
   | (with_reducible exact ih0 _ _ _ _ _ _ _ _)
   | (with_reducible exact ih1 _ _ _ _ _ _)
   | (with_reducible exact ih2 _ _ _ _ _ _ _ _ _ _ _ _)
   | (with_reducible exact ih3 _ _ _ _ _ _ _ _ _ _ _)
   | (with_reducible exact ih4 _ _ _ _ _ _ _ _ _ _)
   | (with_reducible exact ephemerislaw1_year12.mono _)
   | (with_reducible exact ephemerisref1_SameTable.mono _ _ _ _ _ _ _ _ _)
   | (with_reducible exact ephemerisref1_TableError.mono _ _ _ _ _)
   | (with_reducible exact observed_Extend.mono _ _ _ _ _ _)
   | (with_reducible exact LeO.refl _)
   | (with_reducible exact LeO.none _)
   | (with_reducible refine LeO.ite ?_ ?_)
   | (with_reducible refine LeO.bind ?_ (fun _ => ?_))
   | exact ih0 _ _ _ _ _ _ _ _
   | exact ih1 _ _ _ _ _ _
   | exact ih2 _ _ _ _ _ _ _ _ _ _ _ _
   | exact ih3 _ _ _ _ _ _ _ _ _ _ _
   | exact ih4 _ _ _ _ _ _ _ _ _ _
   | exact ephemerislaw1_year12.mono _
   | exact ephemerisref1_SameTable.mono _ _ _ _ _ _ _ _ _
   | exact ephemerisref1_TableError.mono _ _ _ _ _
   | exact observed_Extend.mono _ _ _ _ _ _
   | exact LeO.none _
   | refine LeO.ite ?_ ?_
   | refine LeO.bind ?_ (fun _ => ?_)
  ·intro y0 y1 y2 y3 y4 y5
   unfold ephemerislaw1_ObservedExtends.j1
   repeat' first
   | (with_reducible exact ih0 _ _ _ _ _ _ _ _)
   | (with_reducible exact ih1 _ _ _ _ _ _)
   | (with_reducible exact ih2 _ _ _ _ _ _ _ _ _ _ _ _)
   | (with_reducible exact ih3 _ _ _ _ _ _ _ _ _ _ _)
   | (with_reducible exact ih4 _ _ _ _ _ _ _ _ _ _)
   | (with_reducible exact ephemerislaw1_year12.mono _)
   | (with_reducible exact ephemerisref1_SameTable.mono _ _ _ _ _ _ _ _ _)
   | (with_reducible exact ephemerisref1_TableError.mono _ _ _ _ _)
   | (with_reducible exact observed_Extend.mono _ _ _ _ _ _)
   | (with_reducible exact LeO.refl _)
   | (with_reducible exact LeO.none _)
   | (with_reducible refine LeO.ite ?_ ?_)
   | (with_reducible refine LeO.bind ?_ (fun _ => ?_))
   | exact ih0 _ _ _ _ _ _ _ _
   | exact ih1 _ _ _ _ _ _
   | exact ih2 _ _ _ _ _ _ _ _ _ _ _ _
   | exact ih3 _ _ _ _ _ _ _ _ _ _ _
   | exact ih4 _ _ _ _ _ _ _ _ _ _
   | exact ephemerislaw1_year12.mono _
   | exact ephemerisref1_SameTable.mono _ _ _ _ _ _ _ _ _
   | exact ephemerisref1_TableError.mono _ _ _ _ _
   | exact observed_Extend.mono _ _ _ _ _ _
   | exact LeO.none _
   | refine LeO.ite ?_ ?_
   | refine LeO.bind ?_ (fun _ => ?_)
  ·intro y0 y1 y2 y3 y4 y5 y6 y7 y8 y9 y10 y11
   unfold ephemerislaw1_ObservedExtends.j2
   repeat' first
   | (with_reducible exact ih0 _ _ _ _ _ _ _ _)
   | (with_reducible exact ih1 _ _ _ _ _ _)
   | (with_reducible exact ih2 _ _ _ _ _ _ _ _ _ _ _ _)
   | (with_reducible exact ih3 _ _ _ _ _ _ _ _ _ _ _)
   | (with_reducible exact ih4 _ _ _ _ _ _ _ _ _ _)
   | (with_reducible exact ephemerislaw1_year12.mono _)
   | (with_reducible exact ephemerisref1_SameTable.mono _ _ _ _ _ _ _ _ _)
   | (with_reducible exact ephemerisref1_TableError.mono _ _ _ _ _)
   | (with_reducible exact observed_Extend.mono _ _ _ _ _ _)
   | (with_reducible exact LeO.refl _)
   | (with_reducible exact LeO.none _)
   | (with_reducible refine LeO.ite ?_ ?_)
   | (with_reducible refine LeO.bind ?_ (fun _ => ?_))
   | exact ih0 _ _ _ _ _ _ _ _
   | exact ih1 _ _ _ _ _ _
   | exact ih2 _ _ _ _ _ _ _ _ _ _ _ _
   | exact ih3 _ _ _ _ _ _ _ _ _ _ _
   | exact ih4 _ _ _ _ _ _ _ _ _ _
   | exact ephemerislaw1_year12.mono _
   | exact ephemerisref1_SameTable.mono _ _ _ _ _ _ _ _ _
   | exact ephemerisref1_TableError.mono _ _ _ _ _
   | exact observed_Extend.mono _ _ _ _ _ _
   | exact LeO.none _
   | refine LeO.ite ?_ ?_
   | refine LeO.bind ?_ (fun _ => ?_)
  ·intro y0 y1 y2 y3 y4 y5 y6 y7 y8 y9 y10
   unfold ephemerislaw1_ObservedExtends.j3
   repeat' first
   | (with_reducible exact ih0 _ _ _ _ _ _ _ _)
   | (with_reducible exact ih1 _ _ _ _ _ _)
   | (with_reducible exact ih2 _ _ _ _ _ _ _ _ _ _ _ _)
   | (with_reducible exact ih3 _ _ _ _ _ _ _ _ _ _ _)
   | (with_reducible exact ih4 _ _ _ _ _ _ _ _ _ _)
   | (with_reducible exact ephemerislaw1_year12.mono _)
   | (with_reducible exact ephemerisref1_SameTable.mono _ _ _ _ _ _ _ _ _)
   | (with_reducible exact ephemerisref1_TableError.mono _ _ _ _ _)
   | (with_reducible exact observed_Extend.mono _ _ _ _ _ _)
   | (with_reducible exact LeO.refl _)
   | (with_reducible exact LeO.none _)
   | (with_reducible refine LeO.ite ?_ ?_)
   | (with_reducible refine LeO.bind ?_ (fun _ => ?_))
   | exact ih0 _ _ _ _ _ _ _ _
   | exact ih1 _ _ _ _ _ _
   | exact ih2 _ _ _ _ _ _ _ _ _ _ _ _
   | exact ih3 _ _ _ _ _ _ _ _ _ _ _
   | exact ih4 _ _ _ _ _ _ _ _ _ _
   | exact ephemerislaw1_year12.mono _
   | exact ephemerisref1_SameTable.mono _ _ _ _ _ _ _ _ _
   | exact ephemerisref1_TableError.mono _ _ _ _ _
   | exact observed_Extend.mono _ _ _ _ _ _
   | exact LeO.none _
   | refine LeO.ite ?_ ?_
   | refine LeO.bind ?_ (fun _ => ?_)
  ·intro y0 y1 y2 y3 y4 y5 y6 y7 y8 y9
   unfold ephemerislaw1_ObservedExtends.j4
   repeat' first
   | (with_reducible exact ih0 _ _ _ _ _ _ _ _)
   | (with_reducible exact ih1 _ _ _ _ _ _)
   | (with_reducible exact ih2 _ _ _ _ _ _ _ _ _ _ _ _)
   | (with_reducible exact ih3 _ _ _ _ _ _ _ _ _ _ _)
   | (with_reducible exact ih4 _ _ _ _ _ _ _ _ _ _)
   | (with_reducible exact ephemerislaw1_year12.mono _)
   | (with_reducible exact ephemerisref1_SameTable.mono _ _ _ _ _ _ _ _ _)
   | (with_reducible exact ephemerisref1_TableError.mono _ _ _ _ _)
   | (with_reducible exact observed_Extend.mono _ _ _ _ _ _)
   | (with_reducible exact LeO.refl _)
   | (with_reducible exact LeO.none _)
   | (with_reducible refine LeO.ite ?_ ?_)
   | (with_reducible refine LeO.bind ?_ (fun _ => ?_))
   | exact ih0 _ _ _ _ _ _ _ _
   | exact ih1 _ _ _ _ _ _
   | exact ih2 _ _ _ _ _ _ _ _ _ _ _ _
   | exact ih3 _ _ _ _ _ _ _ _ _ _ _
   | exact ih4 _ _ _ _ _ _ _ _ _ _
   | exact ephemerislaw1_year12.mono _
   | exact ephemerisref1_SameTable.mono _ _ _ _ _ _ _ _ _
   | exact ephemerisref1_TableError.mono _ _ _ _ _
   | exact observed_Extend.mono _ _ _ _ _ _
   | exact LeO.none _
   | refine LeO.ite ?_ ?_
   | refine LeO.bind ?_ (fun _ => ?_)
theorem ephemerislaw1_ObservedExtends.mono : ∀ a0 a1 a2 a3 a4 k, LeO (ephemerislaw1_ObservedExtends.f k a0 a1 a2 a3 a4) (ephemerislaw1_ObservedExtends.f (k + 1) a0 a1 a2 a3 a4) := by
 intro a0 a1 a2 a3 a4 k
 obtain ⟨ih0, ih1, ih2, ih3, ih4⟩ := ephemerislaw1_ObservedExtends.mono_l k
 unfold ephemerislaw1_ObservedExtends.f
 repeat' first
   | (with_reducible exact ih0 _ _ _ _ _ _ _ _)
   | (with_reducible exact ih1 _ _ _ _ _ _)
   | (with_reducible exact ih2 _ _ _ _ _ _ _ _ _ _ _ _)
   | (with_reducible exact ih3 _ _ _ _ _ _ _ _ _ _ _)
   | (with_reducible exact ih4 _ _ _ _ _ _ _ _ _ _)
   | (with_reducible exact ephemerislaw1_year12.mono _)
   | (with_reducible exact ephemerisref1_SameTable.mono _ _ _ _ _ _ _ _ _)
   | (with_reducible exact ephemerisref1_TableError.mono _ _ _ _ _)
   | (with_reducible exact observed_Extend.mono _ _ _ _ _ _)
   | (with_reducible exact LeO.refl _)
   | (with_reducible exact LeO.none _)
   | (with_reducible refine LeO.ite ?_ ?_)
   | (with_reducible refine LeO.bind ?_ (fun _ => ?_))
   | exact ih0 _ _ _ _ _ _ _ _
   | exact ih1 _ _ _ _ _ _
   | exact ih2 _ _ _ _ _ _ _ _ _ _ _ _
   | exact ih3 _ _ _ _ _ _ _ _ _ _ _
   | exact ih4 _ _ _ _ _ _ _ _ _ _
   | exact ephemerislaw1_year12.mono _
   | exact ephemerisref1_SameTable.mono _ _ _ _ _ _ _ _ _
   | exact ephemerisref1_TableError.mono _ _ _ _ _
   | exact observed_Extend.mono _ _ _ _ _ _
   | exact LeO.none _
   | refine LeO.ite ?_ ?_
   | refine LeO.bind ?_ (fun _ => ?_)
set_option maxHeartbeats 8000000 in
set_option maxRecDepth 100000 in
theorem ephemerislaw1_ObservedExtends.calls (k : Nat) (a0_0 : ByteArray) (a0_1 : Int) (A0_2 : Option Addr) (c0_2 : Nat) (l0_2 : List Int) (A0_3 : Option Addr) (c0_3 : Nat) (l0_3 : List Int) (A1 : Option Addr) (c1 : Nat) (l1 : List Int) (r : Bool) (w : World) (hr0_2 : Kd.C (Kd.int .i64) w A0_2 l0_2.length l0_2) (hc0_2 : l0_2.length ≤ c0_2) (hr0_3 : Kd.C (Kd.int .i64) w A0_3 l0_3.length l0_3) (hc0_3 : l0_3.length ≤ c0_3) (hr1 : Kd.C (Kd.int .i64) w A1 l1.length l1) (hc1 : l1.length ≤ c1) (h : ephemerislaw1_ObservedExtends.f k a0_0 a0_1 l0_2 l0_3 l1 = some r) :
  Calls Try.prog 3 #[.agg #[.string a0_0, .int .i64 a0_1, .slice A0_2 l0_2.length c0_2, .slice A0_3 l0_3.length c0_3], .slice A1 l1.length c1] w fun e w' => e = .returned (.bool r) ∧ Below w.heap.size w w' := by
 have hu24 := Try.underlying24
 have HR0_2 := Aside0.mk hr0_2
 have HC0_2 := Aside0.mk hc0_2
 clear hr0_2 hc0_2
 have HR0_3 := Aside0.mk hr0_3
 have HC0_3 := Aside0.mk hc0_3
 clear hr0_3 hc0_3
 have HR1 := Aside0.mk hr1
 have HC1 := Aside0.mk hc1
 clear hr1 hc1
 have HB := Aside0.mk (Below.refl w.heap.size w)
 have H : (if 12 ≤ 35184372088832 then ((some (List.replicate 12 0 : List Int)).bind fun y163 => (ephemerislaw1_ObservedExtends.l0 k l1 y163 (y163.length : Int) 0 a0_0 a0_1 l0_2 l0_3)) else (none)) = some r := h
 clear h
 by_cases c3 : 12 ≤ 35184372088832
 ·rw [if_pos c3] at H
  have c3b0 := eq_true c3
  have c3b1 : decide (12 ≤ 35184372088832) = true := decide_eq_true c3
  clear c3
  obtain ⟨y163, hy163⟩ : ∃ y_ : List Int, y_ = (List.replicate 12 0) := ⟨_, rfl⟩
  replace H : (ephemerislaw1_ObservedExtends.l0 k l1 y163 (y163.length : Int) 0 a0_0 a0_1 l0_2 l0_3) = some r := rp hy163 H
  have Ny163 := Aside0.mk hy163
  clear hy163
  have H' := Aside0.mk H
  clear H
  go_enter Try.func3, Try.ntmps3
  go_wp2_with (first | ((with_reducible refine gate_dst (N := 2) rfl ?_); (try (refine gate_guard (by rfl) ?_; dsimp only)); refine box_event ?hg (N := 2) ?hd (cs := #[.string a0_0, .int .i64 a0_1, .slice A0_2 l0_2.length c0_2, .slice A0_3 l0_3.length c0_3]) (t := 24) ?hr ?_; (case hd => rfl); (case hg => rfl); (case hr => first | (go_simp; done) | (go_simp; rfl)); intro gb162 hg w4 hbox hb; have n0_ := Aside0.mk (below_step be hb); have n1_ := Aside0.mk (hbox); have n2_ := gs hg HB; have n3_ := n2_; clear HB; have HB := n0_; have BK162 := n1_; have GW162 := n2_; have GE162 := n3_; clear n0_ n1_ n2_ n3_; clear hb hbox hg) | ((with_reducible refine gate_dst (N := 13) rfl ?_); (try (refine gate_guard (by rfl) ?_; dsimp only)); refine Kd.R_make (Kd.int .i64) _ 3 rfl (N := 13) rfl 22 _ _ rfl 12 rfl rfl Try.underlying22 (.int .i64 0) 8 info3 rfl (by decide) (by omega) 0 (ok := fun _ => True) (okp := fun _ => True) rfl (fun _ hk => hk) trivial (by omega) (by omega) (Below.refl _ _) (Nat.le_refl _) ?_; intro v164 w5 ho6 hb hg_ hnew_; clear hg_ hnew_; (first | rw [← Ny163.out] at ho6 | (simp only [Int.reduceToNat] at ho6; rw [← Ny163.out] at ho6)); have n0_ := Aside0.mk (Kd.R_lower ho6 (below_size be)); have n1_ := bb BK162 hb; have n2_ := Aside0.mk (below_step be hb); clear BK162; clear HB; have HO165 := n0_; have BK162 := n1_; have HB := n2_; clear n0_ n1_ n2_; clear hb ho6; obtain ⟨Ao7, co7, eo7⟩ := Kd.R_slice HO165.out; subst eo7))
  go_loopg [16] k (fun kq v16 w' => ∃ (x5_1 : List Int) (x16_1 : Int), v16 = .int .i64 x16_1 ∧ Aside0 (ephemerislaw1_ObservedExtends.l0 kq l1 x5_1 (y163.length : Int) x16_1 a0_0 a0_1 l0_2 l0_3 = some r) ∧ Aside0 (kq ≤ k) ∧ Aside0 (Kd.R (Kd.int .i64) 3 w' w.heap.size (fun _ => True) (.slice Ao7 y163.length co7) x5_1) ∧ Aside0 (w'.heap[gb162]? = some (.cells #[.string a0_0, .int .i64 a0_1, (.slice A0_2 l0_2.length c0_2), (.slice A0_3 l0_3.length c0_3)] 24 (0, 0))) ∧ Aside0 (Below w.heap.size w w'))
  case atStart => exact ⟨(y163), (0), rs, H', ⟨Nat.le_refl _⟩, ⟨by (with_reducible repeat (first | apply Kd.R_alloc | apply Kd.R_drewN | apply Kd.R_drew)); exact HO165.out⟩, ⟨bk BK162⟩, ⟨be⟩⟩
  case round =>
   clear H'
   (try clear c1); (try clear p2); (try clear c3); (try clear c3b0); (try clear c3b1)
   obtain ⟨x5_1, x16_1, rfl, HA, HK1, HO_5, BK162, HB⟩ := hrel
   have hl5_1 := (Kd.R_reads' HO_5.out).1
   rw [hl5_1] at HO_5
   (try simp only [hl5_1])
   (try simp only [hl5_1] at BK162)
   cases gk with
   | zero => exact absurd HA.out (by simp [ephemerislaw1_ObservedExtends.l0])
   | succ k1 =>
    have H := HA.out
    clear HA
    simp only [ephemerislaw1_ObservedExtends.l0] at H
    by_cases c8 : x16_1 < (y163.length : Int)
    ·rw [if_pos c8] at H
     have c8b0 : decide (x16_1 < (y163.length : Int)) = true := decide_eq_true c8
     have c8m : decide (x16_1 < 12) = true := by rw [← show (y163.length : Int) = 12 from by rw [Ny163.out]; simp]; exact c8b0
     have c8x : decide (x16_1 < (x5_1.length : Int)) = true := by rw [← hl5_1]; exact c8b0
     clear c8
     by_cases c9 : 0 ≤ x16_1
     ·rw [if_pos c9] at H
      have c9b0 : decide (0 ≤ x16_1) = true := decide_eq_true c9
      clear c9
      by_cases c10 : x16_1 < (x5_1.length : Int)
      ·rw [if_pos c10] at H
       have c10b0 : decide (x16_1 < (x5_1.length : Int)) = true := decide_eq_true c10
       clear c10
       obtain ⟨y166, hy166⟩ : ∃ y_ : List Int, y_ = (x5_1.set (x16_1 : Int).toNat (wrap64 (490 + (wrap64 (30 * x16_1))))) := ⟨_, rfl⟩
       replace H : (ephemerislaw1_ObservedExtends.l0 k1 l1 y166 (y163.length : Int) (wrap64 (x16_1 + 1)) a0_0 a0_1 l0_2 l0_3) = some r := rp hy166 H
       have Ny166 := Aside0.mk hy166
       clear hy166
       have H' := Aside0.mk H
       clear H
       have p11 : 0 ≤ (x16_1 : Int) := of_decide_eq_true ka
       have q11 : (x16_1 : Int) < ((x5_1.length : Int) : Int) := of_decide_eq_true ka
       obtain ⟨go11, co11, eo11, gb11, gl11, cl11, HG11⟩ := Kd.R_form HO_5.out (by omega)
       (first | cases eo11 | (injection eo11 with ea_ en_ ec_; (first | subst ea_ | (injection ea_ with ea_; subst ea_)); subst ec_; clear en_))
       have GB11 := Aside0.mk gb11
       have GG11 := Aside0.mk HG11
       clear gb11 gl11 HG11
       obtain ⟨hx11_0, hf11_0⟩ := Kd.R_celln 0 HO_5.out (x16_1 : Int) p11 q11
       replace p11 := eq_true p11
       replace q11 := eq_true q11
       have HP12 := Kd.R_putg HO_5.out (x16_1 : Int) (wrap64 (490 + (wrap64 (30 * x16_1))))
       go_wp2_with (first | ((with_reducible refine gate_store (t := 3) (p := 24) rfl ?_); refine store_event (t := 3) (p := 24) (v := ?vo_w13) (w1 := (wr.setCell ⟨go11, (x16_1 : Int).toNat, none⟩ (.int .i64 (wrap64 (490 + (wrap64 (30 * x16_1))))))) ?hg ?ho ?hn ?hr ?_; (case ho => rfl); (case hg => rfl); (case hn => rfl); (case hr => first | (go_simp; done) | (go_simp; rfl)); intro w13 hw; have hg : wr.grownBy w13 (some go11) := (by rw [hw]; exact HP12.2); have hp_ : Kd.R (Kd.int .i64) 3 w13 w.heap.size (fun _ => True) (.slice (some ⟨go11, 0, none⟩) x5_1.length co7) y166 := (by rw [hw, Ny166.out]; exact HP12.1); clear HP12; have n0_ := Aside0.mk (hp_); have n1_ := Aside0.mk (blk_grown (g := gb162) (o := .cells #[.string a0_0, .int .i64 a0_1, .slice A0_2 l0_2.length c0_2, .slice A0_3 l0_3.length c0_3] 24 (0, 0)) (bk BK162) hg (Kd.R_ne HO_5.out BK162.out (by decide))); have n2_ := Aside0.mk ((by rw [hw]; exact below_set (HB.out) GB11.out : Below w.heap.size w w13)); clear HO_5; clear BK162; clear HB; have HO_5 := n0_; have BK162 := n1_; have HB := n2_; clear n0_ n1_ n2_; clear hg hw hp_))
       (try simp only [← hl5_1])
       go_roundg k1
       case measure => have := HK1.out; omega
       case rel => exact ⟨(y166), (wrap64 (x16_1 + 1)), rs, H', ⟨by have := HK1.out; omega⟩, ⟨by (try simp only [hl5_1]); (with_reducible repeat (first | apply Kd.R_alloc | apply Kd.R_drewN | apply Kd.R_drew)); exact HO_5.out⟩, ⟨by (try simp only [hl5_1]); (with_reducible repeat (first | refine blk_drewN ?_ _ | refine blk_drew ?_ | refine blk_alloc ?_ _)); exact BK162.out⟩, ⟨be⟩⟩
      ·rw [if_neg c10] at H
       exact absurd H (by simp)
     ·rw [if_neg c9] at H
      exact absurd H (by simp)
    ·rw [if_neg c8] at H
     have c8b0 : decide (x16_1 < (y163.length : Int)) = false := decide_eq_false c8
     have c8m : decide (x16_1 < 12) = false := by rw [← show (y163.length : Int) = 12 from by rw [Ny163.out]; simp]; exact c8b0
     have c8x : decide (x16_1 < (x5_1.length : Int)) = false := by rw [← hl5_1]; exact c8b0
     clear c8
     replace H := Option.bind_eq_some_iff.mp H
     obtain ⟨⟨t167, t168, t169, t172⟩, A140, H⟩ := H
     replace H : ((observed_Extend.f k1 t167 t168 t169 t172 x5_1).bind fun bt175 => (if bt175.2.2.2.2 = 0 then (if (bt175.2.2.1.length : Int) = 2 then (if 24 < (bt175.2.2.2.1.length : Int) then (ephemerislaw1_ObservedExtends.j1 k1 l1 ((rd bt175.2.2.2.1 24) != 820) a0_0 a0_1 l0_2 l0_3) else (none)) else (ephemerislaw1_ObservedExtends.j1 k1 l1 true a0_0 a0_1 l0_2 l0_3)) else (ephemerislaw1_ObservedExtends.j1 k1 l1 true a0_0 a0_1 l0_2 l0_3))) = some r := H
     have A14 := Aside0.mk A140
     clear A140
     replace H := Option.bind_eq_some_iff.mp H
     obtain ⟨⟨t175, t176, t177, t180, t183⟩, A150, H⟩ := H
     replace H : (if t183 = 0 then (if (t177.length : Int) = 2 then (if 24 < (t180.length : Int) then (ephemerislaw1_ObservedExtends.j1 k1 l1 ((rd t180 24) != 820) a0_0 a0_1 l0_2 l0_3) else (none)) else (ephemerislaw1_ObservedExtends.j1 k1 l1 true a0_0 a0_1 l0_2 l0_3)) else (ephemerislaw1_ObservedExtends.j1 k1 l1 true a0_0 a0_1 l0_2 l0_3)) = some r := H
     have A15 := Aside0.mk A150
     clear A150
     have HC16 := Aside0.mk H
     clear H
     go_upto_region 8 with (first | ((with_reducible refine gate_callee (f := 11) rfl ?_); refine goesL_ (some 27) rfl rfl Try.func11 kx rfl #[] rfl aa ?_; (with_reducible refine (ephemerislaw1_year12.calls k1  t167 t168 t169 t172 _ A14.out).mono ?_); rintro e w17 ⟨v170, v173, rfl, ho0, ho1, hb⟩; refine ⟨_, rfl, ?_⟩; have n0_ := Aside0.mk (Kd.R_mono (Kd.R_told (Kd.R_told (Kd.R_old (by (with_reducible repeat (first | apply Kd.R_alloc | apply Kd.R_drewN | apply Kd.R_drew)); exact HO_5.out) hb) (Kd.R_base ho0)) (Kd.R_base ho1)) (fun _ h_ => h_.1)); have n1_ := Aside0.mk (Kd.R_lower (Kd.R_new' ho0 (Kd.R_lt (by (with_reducible repeat (first | apply Kd.R_alloc | apply Kd.R_drewN | apply Kd.R_drew)); exact HO_5.out))) (below_size be)); have n2_ := Aside0.mk (Kd.R_lower (Kd.R_new' ho1 (Kd.R_lt (by (with_reducible repeat (first | apply Kd.R_alloc | apply Kd.R_drewN | apply Kd.R_drew)); exact HO_5.out))) (below_size be)); have n3_ := bb BK162 hb; have n4_ := Aside0.mk (below_step be hb); clear HO_5; clear BK162; clear HB; have HO_5 := n0_; have HO171 := n1_; have HO174 := n2_; have BK162 := n3_; have HB := n4_; clear n0_ n1_ n2_ n3_ n4_; (try clear hb); (try clear hb2); (try clear hk); (try clear hi); (try clear ho0); (try clear ho1); obtain ⟨Ao18, co18, eo18⟩ := Kd.R_slice HO171.out; subst eo18; obtain ⟨Ao19, co19, eo19⟩ := Kd.R_slice HO174.out; subst eo19) | ((with_reducible refine gate_callee (f := 10) rfl ?_); refine goesL_ (some 29) rfl rfl Try.func10 kx rfl #[.agg #[.string t167, .int .i64 t168, .slice Ao18 t169.length co18, .slice Ao19 t172.length co19], .slice Ao7 x5_1.length co7] rfl aa ?_; (with_reducible refine (observed_Extend.calls k1 t167 t168 _ _ t169 _ _ t172 _ _ x5_1 t175 t176 t177 t180 t183 _ ?side1 ?side2 ?side3 ?side4 ?side5 ?side6 A15.out).mono ?_); (case side1 => repeat (first | exact (Kd.R_reads' HO171.out).2.2 | (with_reducible refine Kd.C_alloc ?_ _) | (with_reducible refine Kd.C_drewN ?_ _) | (with_reducible refine Kd.C_drew ?_))); (case side2 => exact (Kd.R_reads' HO171.out).2.1); (case side3 => repeat (first | exact (Kd.R_reads' HO174.out).2.2 | (with_reducible refine Kd.C_alloc ?_ _) | (with_reducible refine Kd.C_drewN ?_ _) | (with_reducible refine Kd.C_drew ?_))); (case side4 => exact (Kd.R_reads' HO174.out).2.1); (case side5 => repeat (first | exact (Kd.R_reads' HO_5.out).2.2 | (with_reducible refine Kd.C_alloc ?_ _) | (with_reducible refine Kd.C_drewN ?_ _) | (with_reducible refine Kd.C_drew ?_))); (case side6 => exact (Kd.R_reads' HO_5.out).2.1); rintro e w20 ⟨v178, v181, rfl, ho0, ho1, hb⟩; refine ⟨_, rfl, ?_⟩; have n0_ := Aside0.mk (Kd.R_mono (Kd.R_told (Kd.R_told (Kd.R_old (by (with_reducible repeat (first | apply Kd.R_alloc | apply Kd.R_drewN | apply Kd.R_drew)); exact HO_5.out) hb) (Kd.R_base ho0)) (Kd.R_base ho1)) (fun _ h_ => h_.1)); have n1_ := Aside0.mk (Kd.R_mono (Kd.R_told (Kd.R_told (Kd.R_old (by (with_reducible repeat (first | apply Kd.R_alloc | apply Kd.R_drewN | apply Kd.R_drew)); exact HO171.out) hb) (Kd.R_base ho0)) (Kd.R_base ho1)) (fun _ h_ => h_.1)); have n2_ := Aside0.mk (Kd.R_mono (Kd.R_told (Kd.R_told (Kd.R_old (by (with_reducible repeat (first | apply Kd.R_alloc | apply Kd.R_drewN | apply Kd.R_drew)); exact HO174.out) hb) (Kd.R_base ho0)) (Kd.R_base ho1)) (fun _ h_ => h_.1)); have n3_ := Aside0.mk (Kd.R_lower (Kd.R_new' (Kd.R_new' (Kd.R_new' ho0 (Kd.R_lt (by (with_reducible repeat (first | apply Kd.R_alloc | apply Kd.R_drewN | apply Kd.R_drew)); exact HO_5.out))) (Kd.R_lt (by (with_reducible repeat (first | apply Kd.R_alloc | apply Kd.R_drewN | apply Kd.R_drew)); exact HO171.out))) (Kd.R_lt (by (with_reducible repeat (first | apply Kd.R_alloc | apply Kd.R_drewN | apply Kd.R_drew)); exact HO174.out))) (below_size be)); have n4_ := Aside0.mk (Kd.R_lower (Kd.R_new' (Kd.R_new' (Kd.R_new' ho1 (Kd.R_lt (by (with_reducible repeat (first | apply Kd.R_alloc | apply Kd.R_drewN | apply Kd.R_drew)); exact HO_5.out))) (Kd.R_lt (by (with_reducible repeat (first | apply Kd.R_alloc | apply Kd.R_drewN | apply Kd.R_drew)); exact HO171.out))) (Kd.R_lt (by (with_reducible repeat (first | apply Kd.R_alloc | apply Kd.R_drewN | apply Kd.R_drew)); exact HO174.out))) (below_size be)); have n5_ := bb BK162 hb; have n6_ := Aside0.mk (below_step be hb); clear HO_5; clear HO171; clear HO174; clear BK162; clear HB; have HO_5 := n0_; have HO171 := n1_; have HO174 := n2_; have HO179 := n3_; have HO182 := n4_; have BK162 := n5_; have HB := n6_; clear n0_ n1_ n2_ n3_ n4_ n5_ n6_; (try clear hb); (try clear hb2); (try clear hk); (try clear hi); (try clear ho0); (try clear ho1)) | ((with_reducible refine gate_dst (N := 7) rfl ?_); (try (refine gate_guard (by rfl) ?_; dsimp only)); refine box_event ?hg (N := 7) ?hd (cs := #[.string (⟨#[]⟩ : ByteArray), .int .i64 0, .slice none 0 0, .slice none 0 0]) (t := 24) ?hr ?_; (case hd => rfl); (case hg => rfl); (case hr => first | (go_simp; done) | (go_simp; rfl)); intro gb184 hg w21 hbox hb; have n0_ := Aside0.mk (Kd.R_below (by (with_reducible repeat (first | apply Kd.R_alloc | apply Kd.R_drewN | apply Kd.R_drew)); exact HO_5.out) hb); have n1_ := Aside0.mk (Kd.R_below (by (with_reducible repeat (first | apply Kd.R_alloc | apply Kd.R_drewN | apply Kd.R_drew)); exact HO171.out) hb); have n2_ := Aside0.mk (Kd.R_below (by (with_reducible repeat (first | apply Kd.R_alloc | apply Kd.R_drewN | apply Kd.R_drew)); exact HO174.out) hb); have n3_ := Aside0.mk (Kd.R_below (by (with_reducible repeat (first | apply Kd.R_alloc | apply Kd.R_drewN | apply Kd.R_drew)); exact HO179.out) hb); have n4_ := Aside0.mk (Kd.R_below (by (with_reducible repeat (first | apply Kd.R_alloc | apply Kd.R_drewN | apply Kd.R_drew)); exact HO182.out) hb); have n5_ := bb BK162 hb; have n6_ := Aside0.mk (below_step be hb); have n7_ := Aside0.mk (hbox); have n8_ := gs hg HB; have n9_ := n8_; have n10_ := nl BK162 hg; have n11_ := ns n10_; clear HO_5; clear HO171; clear HO174; clear HO179; clear HO182; clear BK162; clear HB; have HO_5 := n0_; have HO171 := n1_; have HO174 := n2_; have HO179 := n3_; have HO182 := n4_; have BK162 := n5_; have HB := n6_; have BK184 := n7_; have GW184 := n8_; have GE184 := n9_; have NB162_184 := n10_; have NB184_162 := n11_; clear n0_ n1_ n2_ n3_ n4_ n5_ n6_ n7_ n8_ n9_ n10_ n11_; clear hb hbox hg; have hnb22 := NB184_162.out; have hnc22 := NB162_184.out; obtain ⟨hcz23_0, hcz23_1, hcz23_2, hcz23_3, hfz23_0, hfz23_1, hfz23_2, hfz23_3⟩ := bc4 BK184; obtain ⟨Ao24, co24, eo24⟩ := Kd.R_slice HO179.out; subst eo24; obtain ⟨Ao25, co25, eo25⟩ := Kd.R_slice HO182.out; subst eo25))
     (try simp only [Act.put, List.setIfInBounds_toArray, List.set_cons_zero, List.set_cons_succ])
     go_cut [46] (fun v46 wc => ∃ (kq : Nat) (x46_15 : Bool), v46 = .bool x46_15 ∧ Aside0 (ephemerislaw1_ObservedExtends.j1 kq l1 x46_15 a0_0 a0_1 l0_2 l0_3 = some r) ∧ Aside0 (kq ≤ k1) ∧ Aside0 (Kd.R (Kd.int .i64) 3 wc w.heap.size (fun k_ => some k_ ≠ ((.slice Ao25 t180.length co25) : Value).ownBlock) (.slice Ao24 t177.length co24) t177) ∧ Aside0 (Kd.R (Kd.int .i64) 3 wc w.heap.size (fun k_ => some k_ ≠ ((.slice Ao24 t177.length co24) : Value).ownBlock) (.slice Ao25 t180.length co25) t180) ∧ Aside0 (wc.heap[gb162]? = some (.cells #[.string a0_0, .int .i64 a0_1, (.slice A0_2 l0_2.length c0_2), (.slice A0_3 l0_3.length c0_3)] 24 (0, 0))) ∧ Aside0 (wc.heap[gb184]? = some (.cells #[.string t175, .int .i64 t176, (.slice Ao24 t177.length co24), (.slice Ao25 t180.length co25)] 24 (0, 0))) ∧ Aside0 (Below w.heap.size w wc))
     case first =>
      have H := HC16.out
      clear HC16
      by_cases c26 : t183 = 0
      ·rw [if_pos c26] at H
       have c26b0 : (t183 == 0) = true := beq_iff_eq.mpr c26
       have c26b1 : (t183 != 0) = false := bne_eq_false_iff_eq.mpr c26
       clear c26
       (first | rw [c26b0] | (simp only [i64_w, i32_w]; rw [c26b0]) | skip)
       by_cases c27 : (t177.length : Int) = 2
       ·rw [if_pos c27] at H
        have c27b0 : ((t177.length : Int) == 2) = true := beq_iff_eq.mpr c27
        have c27b1 : ((t177.length : Int) != 2) = false := bne_eq_false_iff_eq.mpr c27
        clear c27
        by_cases c28 : 24 < (t180.length : Int)
        ·rw [if_pos c28] at H
         have c28b0 : decide (24 < (t180.length : Int)) = true := decide_eq_true c28
         have c28b1 : decide (24 < t180.length) = true := decide_eq_true (by omega)
         clear c28
         have H' := Aside0.mk H
         clear H
         have hnb29 := NB184_162.out
         have hnc29 := NB162_184.out
         obtain ⟨hcz30_0, hcz30_1, hcz30_2, hcz30_3, hfz30_0, hfz30_1, hfz30_2, hfz30_3⟩ := bc4 BK184
         have p185 : 0 ≤ (24 : Int) := (by omega)
         have q185 : 24 < (t180.length : Int) := of_decide_eq_true ka
         obtain ⟨ad185, e185, hx185_0⟩ := Kd.at_int (Kd.R_reads' HO182.out).2.2 24 p185 q185
         cases e185
         (try simp only [show (24 : Int).toNat = 24 from rfl, Nat.reduceMul, Nat.reduceEqDiff, Go.Addr.add, ↓reduceIte] at hx185_0)
         have qi185 : (24 < t180.length) = True := eq_true (by omega)
         (try rw [show ((24 : Int)).toNat = 24 from rfl] at hx185_0)
         have hn185_0 : ad185.block ≠ gb184 := Kd.own_blk (Kd.R_ne HO182.out BK184.out (by decide))
         have hn185_1 : ad185.block ≠ gb184 := Kd.own_blk (Kd.R_ne HO182.out BK184.out (by decide))
         have hn185_2 : ad185.block ≠ gb184 := Kd.own_blk (Kd.R_ne HO182.out BK184.out (by decide))
         have hn185_3 : ad185.block ≠ gb184 := Kd.own_blk (Kd.R_ne HO182.out BK184.out (by decide))
         replace hx185_0 := (cell_far (p := ⟨gb184, 0, none⟩) (by first | (rw [add_block]; exact hn185_0) | (show (Addr.add _ _).block ≠ _; rw [add_block]; exact hn185_0) | exact hn185_0) (.string t175)).trans hx185_0
         replace hx185_0 := (cell_far (p := ⟨gb184, 1, none⟩) (by first | (rw [add_block]; exact hn185_1) | (show (Addr.add _ _).block ≠ _; rw [add_block]; exact hn185_1) | exact hn185_1) (.int .i64 t176)).trans hx185_0
         replace hx185_0 := (cell_far (p := ⟨gb184, 2, none⟩) (by first | (rw [add_block]; exact hn185_2) | (show (Addr.add _ _).block ≠ _; rw [add_block]; exact hn185_2) | exact hn185_2) (.slice Ao24 t177.length co24)).trans hx185_0
         replace hx185_0 := (cell_far (p := ⟨gb184, 3, none⟩) (by first | (rw [add_block]; exact hn185_3) | (show (Addr.add _ _).block ≠ _; rw [add_block]; exact hn185_3) | exact hn185_3) (.slice (some ad185) t180.length co25)).trans hx185_0
         clear hn185_0
         clear hn185_1
         clear hn185_2
         clear hn185_3
         replace p185 := eq_true p185
         replace q185 := eq_true q185
         go_wp2
         go_meet
         case rel => exact ⟨_, (((rd t180 24) != 820)), rs, H', ⟨by have := HK1.out; first | omega | exact Nat.le_refl _⟩, ⟨by (try simp only [hl5_1]); (with_reducible repeat (first | apply Kd.R_alloc | apply Kd.R_drewN | apply Kd.R_drew)); exact Kd.R_mono (Kd.R_far (p := ⟨gb184, 3, none⟩) (Kd.R_far (p := ⟨gb184, 2, none⟩) (Kd.R_far (p := ⟨gb184, 1, none⟩) (Kd.R_far (p := ⟨gb184, 0, none⟩) (Kd.R_types HO179.out BK184.out (by decide)) (fun _ hk => hk.2) (.string t175)) (fun _ hk => hk.2) (.int .i64 t176)) (fun _ hk => hk.2) (.slice Ao24 t177.length co24)) (fun _ hk => hk.2) (.slice (some ad185) t180.length co25)) (fun _ hk => hk.1.1.1.1)⟩, ⟨by (try simp only [hl5_1]); (with_reducible repeat (first | apply Kd.R_alloc | apply Kd.R_drewN | apply Kd.R_drew)); exact Kd.R_mono (Kd.R_far (p := ⟨gb184, 3, none⟩) (Kd.R_far (p := ⟨gb184, 2, none⟩) (Kd.R_far (p := ⟨gb184, 1, none⟩) (Kd.R_far (p := ⟨gb184, 0, none⟩) (Kd.R_types HO182.out BK184.out (by decide)) (fun _ hk => hk.2) (.string t175)) (fun _ hk => hk.2) (.int .i64 t176)) (fun _ hk => hk.2) (.slice Ao24 t177.length co24)) (fun _ hk => hk.2) (.slice (some ad185) t180.length co25)) (fun _ hk => hk.1.1.1.1)⟩, ⟨by (try simp only [hl5_1]); (with_reducible repeat (first | refine blk_drewN ?_ _ | refine blk_drew ?_ | refine blk_alloc ?_ _)); refine blk_far ?_ NB162_184.out _; (with_reducible repeat (first | refine blk_drewN ?_ _ | refine blk_drew ?_ | refine blk_alloc ?_ _)); refine blk_far ?_ NB162_184.out _; (with_reducible repeat (first | refine blk_drewN ?_ _ | refine blk_drew ?_ | refine blk_alloc ?_ _)); refine blk_far ?_ NB162_184.out _; (with_reducible repeat (first | refine blk_drewN ?_ _ | refine blk_drew ?_ | refine blk_alloc ?_ _)); refine blk_far ?_ NB162_184.out _; (with_reducible repeat (first | refine blk_drewN ?_ _ | refine blk_drew ?_ | refine blk_alloc ?_ _)); exact BK162.out⟩, ⟨by (try simp only [hl5_1]); (with_reducible repeat (first | refine blk_drewN ?_ _ | refine blk_drew ?_ | refine blk_alloc ?_ _)); refine blk_put (cs := #[.string t175, .int .i64 t176, .slice Ao24 t177.length co24, .slice none 0 0]) ?_ 3 _ rfl; (with_reducible repeat (first | refine blk_drewN ?_ _ | refine blk_drew ?_ | refine blk_alloc ?_ _)); refine blk_put (cs := #[.string t175, .int .i64 t176, .slice none 0 0, .slice none 0 0]) ?_ 2 _ rfl; (with_reducible repeat (first | refine blk_drewN ?_ _ | refine blk_drew ?_ | refine blk_alloc ?_ _)); refine blk_put (cs := #[.string t175, .int .i64 0, .slice none 0 0, .slice none 0 0]) ?_ 1 _ rfl; (with_reducible repeat (first | refine blk_drewN ?_ _ | refine blk_drew ?_ | refine blk_alloc ?_ _)); refine blk_put (cs := #[.string (⟨#[]⟩ : ByteArray), .int .i64 0, .slice none 0 0, .slice none 0 0]) ?_ 0 _ rfl; (with_reducible repeat (first | refine blk_drewN ?_ _ | refine blk_drew ?_ | refine blk_alloc ?_ _)); exact BK184.out⟩, ⟨be⟩⟩
        ·rw [if_neg c28] at H
         exact absurd H (by simp)
       ·rw [if_neg c27] at H
        have c27b0 : ((t177.length : Int) == 2) = false := beq_eq_false_iff_ne.mpr c27
        have c27b1 : ((t177.length : Int) != 2) = true := bne_iff_ne.mpr c27
        have H' := Aside0.mk H
        clear H
        have hnb31 := NB184_162.out
        have hnc31 := NB162_184.out
        obtain ⟨hcz32_0, hcz32_1, hcz32_2, hcz32_3, hfz32_0, hfz32_1, hfz32_2, hfz32_3⟩ := bc4 BK184
        go_wp2
        go_meet
        case rel => exact ⟨_, (true), rs, H', ⟨by have := HK1.out; first | omega | exact Nat.le_refl _⟩, ⟨by (try simp only [hl5_1]); (with_reducible repeat (first | apply Kd.R_alloc | apply Kd.R_drewN | apply Kd.R_drew)); exact Kd.R_mono (Kd.R_far (p := ⟨gb184, 3, none⟩) (Kd.R_far (p := ⟨gb184, 2, none⟩) (Kd.R_far (p := ⟨gb184, 1, none⟩) (Kd.R_far (p := ⟨gb184, 0, none⟩) (Kd.R_types HO179.out BK184.out (by decide)) (fun _ hk => hk.2) (.string t175)) (fun _ hk => hk.2) (.int .i64 t176)) (fun _ hk => hk.2) (.slice Ao24 t177.length co24)) (fun _ hk => hk.2) (.slice Ao25 t180.length co25)) (fun _ hk => hk.1.1.1.1)⟩, ⟨by (try simp only [hl5_1]); (with_reducible repeat (first | apply Kd.R_alloc | apply Kd.R_drewN | apply Kd.R_drew)); exact Kd.R_mono (Kd.R_far (p := ⟨gb184, 3, none⟩) (Kd.R_far (p := ⟨gb184, 2, none⟩) (Kd.R_far (p := ⟨gb184, 1, none⟩) (Kd.R_far (p := ⟨gb184, 0, none⟩) (Kd.R_types HO182.out BK184.out (by decide)) (fun _ hk => hk.2) (.string t175)) (fun _ hk => hk.2) (.int .i64 t176)) (fun _ hk => hk.2) (.slice Ao24 t177.length co24)) (fun _ hk => hk.2) (.slice Ao25 t180.length co25)) (fun _ hk => hk.1.1.1.1)⟩, ⟨by (try simp only [hl5_1]); (with_reducible repeat (first | refine blk_drewN ?_ _ | refine blk_drew ?_ | refine blk_alloc ?_ _)); refine blk_far ?_ NB162_184.out _; (with_reducible repeat (first | refine blk_drewN ?_ _ | refine blk_drew ?_ | refine blk_alloc ?_ _)); refine blk_far ?_ NB162_184.out _; (with_reducible repeat (first | refine blk_drewN ?_ _ | refine blk_drew ?_ | refine blk_alloc ?_ _)); refine blk_far ?_ NB162_184.out _; (with_reducible repeat (first | refine blk_drewN ?_ _ | refine blk_drew ?_ | refine blk_alloc ?_ _)); refine blk_far ?_ NB162_184.out _; (with_reducible repeat (first | refine blk_drewN ?_ _ | refine blk_drew ?_ | refine blk_alloc ?_ _)); exact BK162.out⟩, ⟨by (try simp only [hl5_1]); (with_reducible repeat (first | refine blk_drewN ?_ _ | refine blk_drew ?_ | refine blk_alloc ?_ _)); refine blk_put (cs := #[.string t175, .int .i64 t176, .slice Ao24 t177.length co24, .slice none 0 0]) ?_ 3 _ rfl; (with_reducible repeat (first | refine blk_drewN ?_ _ | refine blk_drew ?_ | refine blk_alloc ?_ _)); refine blk_put (cs := #[.string t175, .int .i64 t176, .slice none 0 0, .slice none 0 0]) ?_ 2 _ rfl; (with_reducible repeat (first | refine blk_drewN ?_ _ | refine blk_drew ?_ | refine blk_alloc ?_ _)); refine blk_put (cs := #[.string t175, .int .i64 0, .slice none 0 0, .slice none 0 0]) ?_ 1 _ rfl; (with_reducible repeat (first | refine blk_drewN ?_ _ | refine blk_drew ?_ | refine blk_alloc ?_ _)); refine blk_put (cs := #[.string (⟨#[]⟩ : ByteArray), .int .i64 0, .slice none 0 0, .slice none 0 0]) ?_ 0 _ rfl; (with_reducible repeat (first | refine blk_drewN ?_ _ | refine blk_drew ?_ | refine blk_alloc ?_ _)); exact BK184.out⟩, ⟨be⟩⟩
      ·rw [if_neg c26] at H
       have c26b0 : (t183 == 0) = false := beq_eq_false_iff_ne.mpr c26
       have c26b1 : (t183 != 0) = true := bne_iff_ne.mpr c26
       (first | rw [c26b0] | (simp only [i64_w, i32_w]; rw [c26b0]) | skip)
       have H' := Aside0.mk H
       clear H
       go_wp2
       go_meet
       case rel => exact ⟨_, (true), rs, H', ⟨by have := HK1.out; first | omega | exact Nat.le_refl _⟩, ⟨by (try simp only [hl5_1]); (with_reducible repeat (first | apply Kd.R_alloc | apply Kd.R_drewN | apply Kd.R_drew)); exact Kd.R_mono (Kd.R_far (p := ⟨gb184, 3, none⟩) (Kd.R_far (p := ⟨gb184, 2, none⟩) (Kd.R_far (p := ⟨gb184, 1, none⟩) (Kd.R_far (p := ⟨gb184, 0, none⟩) (Kd.R_types HO179.out BK184.out (by decide)) (fun _ hk => hk.2) (.string t175)) (fun _ hk => hk.2) (.int .i64 t176)) (fun _ hk => hk.2) (.slice Ao24 t177.length co24)) (fun _ hk => hk.2) (.slice Ao25 t180.length co25)) (fun _ hk => hk.1.1.1.1)⟩, ⟨by (try simp only [hl5_1]); (with_reducible repeat (first | apply Kd.R_alloc | apply Kd.R_drewN | apply Kd.R_drew)); exact Kd.R_mono (Kd.R_far (p := ⟨gb184, 3, none⟩) (Kd.R_far (p := ⟨gb184, 2, none⟩) (Kd.R_far (p := ⟨gb184, 1, none⟩) (Kd.R_far (p := ⟨gb184, 0, none⟩) (Kd.R_types HO182.out BK184.out (by decide)) (fun _ hk => hk.2) (.string t175)) (fun _ hk => hk.2) (.int .i64 t176)) (fun _ hk => hk.2) (.slice Ao24 t177.length co24)) (fun _ hk => hk.2) (.slice Ao25 t180.length co25)) (fun _ hk => hk.1.1.1.1)⟩, ⟨by (try simp only [hl5_1]); (with_reducible repeat (first | refine blk_drewN ?_ _ | refine blk_drew ?_ | refine blk_alloc ?_ _)); refine blk_far ?_ NB162_184.out _; (with_reducible repeat (first | refine blk_drewN ?_ _ | refine blk_drew ?_ | refine blk_alloc ?_ _)); refine blk_far ?_ NB162_184.out _; (with_reducible repeat (first | refine blk_drewN ?_ _ | refine blk_drew ?_ | refine blk_alloc ?_ _)); refine blk_far ?_ NB162_184.out _; (with_reducible repeat (first | refine blk_drewN ?_ _ | refine blk_drew ?_ | refine blk_alloc ?_ _)); refine blk_far ?_ NB162_184.out _; (with_reducible repeat (first | refine blk_drewN ?_ _ | refine blk_drew ?_ | refine blk_alloc ?_ _)); exact BK162.out⟩, ⟨by (try simp only [hl5_1]); (with_reducible repeat (first | refine blk_drewN ?_ _ | refine blk_drew ?_ | refine blk_alloc ?_ _)); refine blk_put (cs := #[.string t175, .int .i64 t176, .slice Ao24 t177.length co24, .slice none 0 0]) ?_ 3 _ rfl; (with_reducible repeat (first | refine blk_drewN ?_ _ | refine blk_drew ?_ | refine blk_alloc ?_ _)); refine blk_put (cs := #[.string t175, .int .i64 t176, .slice none 0 0, .slice none 0 0]) ?_ 2 _ rfl; (with_reducible repeat (first | refine blk_drewN ?_ _ | refine blk_drew ?_ | refine blk_alloc ?_ _)); refine blk_put (cs := #[.string t175, .int .i64 0, .slice none 0 0, .slice none 0 0]) ?_ 1 _ rfl; (with_reducible repeat (first | refine blk_drewN ?_ _ | refine blk_drew ?_ | refine blk_alloc ?_ _)); refine blk_put (cs := #[.string (⟨#[]⟩ : ByteArray), .int .i64 0, .slice none 0 0, .slice none 0 0]) ?_ 0 _ rfl; (with_reducible repeat (first | refine blk_drewN ?_ _ | refine blk_drew ?_ | refine blk_alloc ?_ _)); exact BK184.out⟩, ⟨be⟩⟩
     case rest =>
      clear HC16
      (try clear c1); (try clear p1); (try clear q1); (try clear hx1); (try clear qi1); (try clear c2); (try clear p2); (try clear c3); (try clear c3b0); (try clear c3b1); (try clear p6); (try clear c8); (try clear c8b0); (try clear c9); (try clear c9b0); (try clear c10); (try clear c10b0); (try clear c11); (try clear p11); (try clear q11); (try clear hx11); (try clear hf11); (try clear p18); (try clear q18); (try clear hx18); (try clear qi18); (try clear c22); (try clear c26); (try clear c26b0); (try clear c26b1); (try clear c27); (try clear c27b0); (try clear c27b1); (try clear c28); (try clear c28b0); (try clear c28b1); (try clear c29); (try clear c31); (try clear hcz23_0); (try clear hcz23_1); (try clear hcz23_2); (try clear hcz23_3); (try clear hcz30_0); (try clear hcz30_1); (try clear hcz30_2); (try clear hcz30_3); (try clear hcz32_0); (try clear hcz32_1); (try clear hcz32_2); (try clear hcz32_3); (try clear hfz23_0); (try clear hfz23_1); (try clear hfz23_2); (try clear hfz23_3); (try clear hfz30_0); (try clear hfz30_1); (try clear hfz30_2); (try clear hfz30_3); (try clear hfz32_0); (try clear hfz32_1); (try clear hfz32_2); (try clear hfz32_3); (try clear hx11_0); (try clear hx185_0); (try clear p11); (try clear p185); (try clear p2); (try clear q11); (try clear q185)
      obtain ⟨kq, x46_15, rfl, HA, HJ15, HO_185002, HO_185003, BK162, BK184, HB⟩ := hcut
      cases kq with
      | zero => exact absurd HA.out (by simp [ephemerislaw1_ObservedExtends.j1])
      | succ kj15 =>
       have H := HA.out
       clear HA
       simp only [ephemerislaw1_ObservedExtends.j1] at H
       by_cases c33 : x46_15 = true
       ·subst c33
        have H1 : (some false) = some r := by rw [if_pos rfl] at H; exact H
        clear H
        have H := H1
        clear H1
        obtain rfl := Option.some.inj H
        go_wp2
        go_ret
        exact ⟨by first | rfl | (simp [errW_none, errW_some] <;> rfl) | (simp [*, errW_none, errW_some] <;> rfl), be⟩
       ·replace c33 := Bool.eq_false_iff.mpr c33
        subst c33
        have H1 : ((observed_Extend.f kj15 a0_0 a0_1 l0_2 l0_3 l1).bind fun bt186 => ((ephemerisref1_TableError.f kj15 a0_0 a0_1 l0_2 l0_3).bind fun t196 => (if t196 = 0 then (if (l1.length : Int) = 12 then (ephemerislaw1_ObservedExtends.j2 kj15 l1 bt186.2.2.2.2 t196 false a0_0 a0_1 l0_2 l0_3 bt186.1 bt186.2.1 bt186.2.2.1 bt186.2.2.2.1) else (ephemerislaw1_ObservedExtends.j2 kj15 l1 bt186.2.2.2.2 t196 ((l1.length : Int) != 13) a0_0 a0_1 l0_2 l0_3 bt186.1 bt186.2.1 bt186.2.2.1 bt186.2.2.2.1)) else (ephemerislaw1_ObservedExtends.j2 kj15 l1 bt186.2.2.2.2 t196 false a0_0 a0_1 l0_2 l0_3 bt186.1 bt186.2.1 bt186.2.2.1 bt186.2.2.2.1)))) = some r := by rw [if_neg (show ¬ (false = true) by decide)] at H; exact H
        clear H
        have H := H1
        clear H1
        replace H := Option.bind_eq_some_iff.mp H
        obtain ⟨⟨t186, t187, t188, t191, t194⟩, A340, H⟩ := H
        replace H : ((ephemerisref1_TableError.f kj15 a0_0 a0_1 l0_2 l0_3).bind fun t196 => (if t196 = 0 then (if (l1.length : Int) = 12 then (ephemerislaw1_ObservedExtends.j2 kj15 l1 t194 t196 false a0_0 a0_1 l0_2 l0_3 t186 t187 t188 t191) else (ephemerislaw1_ObservedExtends.j2 kj15 l1 t194 t196 ((l1.length : Int) != 13) a0_0 a0_1 l0_2 l0_3 t186 t187 t188 t191)) else (ephemerislaw1_ObservedExtends.j2 kj15 l1 t194 t196 false a0_0 a0_1 l0_2 l0_3 t186 t187 t188 t191))) = some r := H
        have A34 := Aside0.mk A340
        clear A340
        replace H := Option.bind_eq_some_iff.mp H
        obtain ⟨t196, A350, H⟩ := H
        replace H : (if t196 = 0 then (if (l1.length : Int) = 12 then (ephemerislaw1_ObservedExtends.j2 kj15 l1 t194 t196 false a0_0 a0_1 l0_2 l0_3 t186 t187 t188 t191) else (ephemerislaw1_ObservedExtends.j2 kj15 l1 t194 t196 ((l1.length : Int) != 13) a0_0 a0_1 l0_2 l0_3 t186 t187 t188 t191)) else (ephemerislaw1_ObservedExtends.j2 kj15 l1 t194 t196 false a0_0 a0_1 l0_2 l0_3 t186 t187 t188 t191)) = some r := H
        have A35 := Aside0.mk A350
        clear A350
        have HC36 := Aside0.mk H
        clear H
        have hnb37 := NB162_184.out
        have hnc37 := NB184_162.out
        obtain ⟨hcz38_0, hcz38_1, hcz38_2, hcz38_3, hfz38_0, hfz38_1, hfz38_2, hfz38_3⟩ := bc4 BK162
        go_upto_region 12 with (first | ((with_reducible refine gate_callee (f := 10) rfl ?_); refine goesL_ (some 50) rfl rfl Try.func10 kx rfl #[.agg #[.string a0_0, .int .i64 a0_1, .slice A0_2 l0_2.length c0_2, .slice A0_3 l0_3.length c0_3], .slice A1 l1.length c1] rfl aa ?_; (with_reducible refine (observed_Extend.calls kj15 a0_0 a0_1 _ _ l0_2 _ _ l0_3 _ _ l1 t186 t187 t188 t191 t194 _ ?side1 ?side2 ?side3 ?side4 ?side5 ?side6 A34.out).mono ?_); (case side1 => exact kc (Kd.C_below HR0_2.out HB.out)); (case side2 => exact HC0_2.out); (case side3 => exact kc (Kd.C_below HR0_3.out HB.out)); (case side4 => exact HC0_3.out); (case side5 => exact kc (Kd.C_below HR1.out HB.out)); (case side6 => exact HC1.out); rintro e w39 ⟨v189, v192, rfl, ho0, ho1, hb⟩; refine ⟨_, rfl, ?_⟩; have n0_ := Aside0.mk (Kd.R_mono (Kd.R_told (Kd.R_told (Kd.R_old (by (with_reducible repeat (first | apply Kd.R_alloc | apply Kd.R_drewN | apply Kd.R_drew)); exact HO_185002.out) hb) (Kd.R_base ho0)) (Kd.R_base ho1)) (fun _ h_ => h_.1)); have n1_ := Aside0.mk (Kd.R_mono (Kd.R_told (Kd.R_told (Kd.R_old (by (with_reducible repeat (first | apply Kd.R_alloc | apply Kd.R_drewN | apply Kd.R_drew)); exact HO_185003.out) hb) (Kd.R_base ho0)) (Kd.R_base ho1)) (fun _ h_ => h_.1)); have n2_ := Aside0.mk (Kd.R_lower (Kd.R_new' (Kd.R_new' ho0 (Kd.R_lt (by (with_reducible repeat (first | apply Kd.R_alloc | apply Kd.R_drewN | apply Kd.R_drew)); exact HO_185002.out))) (Kd.R_lt (by (with_reducible repeat (first | apply Kd.R_alloc | apply Kd.R_drewN | apply Kd.R_drew)); exact HO_185003.out))) (below_size be)); have n3_ := Aside0.mk (Kd.R_lower (Kd.R_new' (Kd.R_new' ho1 (Kd.R_lt (by (with_reducible repeat (first | apply Kd.R_alloc | apply Kd.R_drewN | apply Kd.R_drew)); exact HO_185002.out))) (Kd.R_lt (by (with_reducible repeat (first | apply Kd.R_alloc | apply Kd.R_drewN | apply Kd.R_drew)); exact HO_185003.out))) (below_size be)); have n4_ := bb BK162 hb; have n5_ := bb BK184 hb; have n6_ := Aside0.mk (below_step be hb); clear HO_185002; clear HO_185003; clear BK162; clear BK184; clear HB; have HO_185002 := n0_; have HO_185003 := n1_; have HO190 := n2_; have HO193 := n3_; have BK162 := n4_; have BK184 := n5_; have HB := n6_; clear n0_ n1_ n2_ n3_ n4_ n5_ n6_; (try clear hb); (try clear hb2); (try clear hk); (try clear hi); (try clear ho0); (try clear ho1)) | ((with_reducible refine gate_dst (N := 9) rfl ?_); (try (refine gate_guard (by rfl) ?_; dsimp only)); refine box_event ?hg (N := 9) ?hd (cs := #[.string (⟨#[]⟩ : ByteArray), .int .i64 0, .slice none 0 0, .slice none 0 0]) (t := 24) ?hr ?_; (case hd => rfl); (case hg => rfl); (case hr => first | (go_simp; done) | (go_simp; rfl)); intro gb195 hg w40 hbox hb; have n0_ := Aside0.mk (Kd.R_below (by (with_reducible repeat (first | apply Kd.R_alloc | apply Kd.R_drewN | apply Kd.R_drew)); exact HO_185002.out) hb); have n1_ := Aside0.mk (Kd.R_below (by (with_reducible repeat (first | apply Kd.R_alloc | apply Kd.R_drewN | apply Kd.R_drew)); exact HO_185003.out) hb); have n2_ := Aside0.mk (Kd.R_below (by (with_reducible repeat (first | apply Kd.R_alloc | apply Kd.R_drewN | apply Kd.R_drew)); exact HO190.out) hb); have n3_ := Aside0.mk (Kd.R_below (by (with_reducible repeat (first | apply Kd.R_alloc | apply Kd.R_drewN | apply Kd.R_drew)); exact HO193.out) hb); have n4_ := bb BK162 hb; have n5_ := bb BK184 hb; have n6_ := Aside0.mk (below_step be hb); have n7_ := Aside0.mk (hbox); have n8_ := gs hg HB; have n9_ := n8_; have n10_ := nl BK162 hg; have n11_ := ns n10_; have n12_ := nl BK184 hg; have n13_ := ns n12_; clear HO_185002; clear HO_185003; clear HO190; clear HO193; clear BK162; clear BK184; clear HB; have HO_185002 := n0_; have HO_185003 := n1_; have HO190 := n2_; have HO193 := n3_; have BK162 := n4_; have BK184 := n5_; have HB := n6_; have BK195 := n7_; have GW195 := n8_; have GE195 := n9_; have NB162_195 := n10_; have NB195_162 := n11_; have NB184_195 := n12_; have NB195_184 := n13_; clear n0_ n1_ n2_ n3_ n4_ n5_ n6_ n7_ n8_ n9_ n10_ n11_ n12_ n13_; clear hb hbox hg; have hnb41 := NB195_162.out; have hnc41 := NB162_195.out; have hnb42 := NB195_184.out; have hnc42 := NB184_195.out; obtain ⟨hcz43_0, hcz43_1, hcz43_2, hcz43_3, hfz43_0, hfz43_1, hfz43_2, hfz43_3⟩ := bc4 BK195; obtain ⟨Ao44, co44, eo44⟩ := Kd.R_slice HO190.out; subst eo44; obtain ⟨Ao45, co45, eo45⟩ := Kd.R_slice HO193.out; subst eo45; obtain ⟨hcz46_0, hcz46_1, hcz46_2, hcz46_3, hfz46_0, hfz46_1, hfz46_2, hfz46_3⟩ := bc4 BK162) | ((with_reducible refine gate_callee (f := 12) rfl ?_); refine goesL_ (some 54) rfl rfl Try.func12 kx rfl #[.agg #[.string a0_0, .int .i64 a0_1, .slice A0_2 l0_2.length c0_2, .slice A0_3 l0_3.length c0_3]] rfl aa ?_; (with_reducible refine (ephemerisref1_TableError.calls kj15 a0_0 a0_1 _ _ l0_2 _ _ l0_3 t196 _ ?side1 ?side2 ?side3 ?side4 A35.out).mono ?_); (case side1 => exact Kd.C_below HR0_2.out be); (case side2 => exact HC0_2.out); (case side3 => exact Kd.C_below HR0_3.out be); (case side4 => exact HC0_3.out); rintro e w47 ⟨rfl, hb⟩; refine ⟨_, rfl, ?_⟩; have n0_ := Aside0.mk (Kd.R_below (by (with_reducible repeat (first | apply Kd.R_alloc | apply Kd.R_drewN | apply Kd.R_drew)); exact (Kd.R_mono (Kd.R_far (p := ⟨gb195, 3, none⟩) (Kd.R_far (p := ⟨gb195, 2, none⟩) (Kd.R_far (p := ⟨gb195, 1, none⟩) (Kd.R_far (p := ⟨gb195, 0, none⟩) (Kd.R_types HO_185002.out BK195.out (by decide)) (fun _ hk => hk.2) (.string t186)) (fun _ hk => hk.2) (.int .i64 t187)) (fun _ hk => hk.2) (.slice Ao44 t188.length co44)) (fun _ hk => hk.2) (.slice Ao45 t191.length co45)) (fun _ h_ => h_.1))) hb); have n1_ := Aside0.mk (Kd.R_below (by (with_reducible repeat (first | apply Kd.R_alloc | apply Kd.R_drewN | apply Kd.R_drew)); exact (Kd.R_mono (Kd.R_far (p := ⟨gb195, 3, none⟩) (Kd.R_far (p := ⟨gb195, 2, none⟩) (Kd.R_far (p := ⟨gb195, 1, none⟩) (Kd.R_far (p := ⟨gb195, 0, none⟩) (Kd.R_types HO_185003.out BK195.out (by decide)) (fun _ hk => hk.2) (.string t186)) (fun _ hk => hk.2) (.int .i64 t187)) (fun _ hk => hk.2) (.slice Ao44 t188.length co44)) (fun _ hk => hk.2) (.slice Ao45 t191.length co45)) (fun _ h_ => h_.1))) hb); have n2_ := Aside0.mk (Kd.R_below (by (with_reducible repeat (first | apply Kd.R_alloc | apply Kd.R_drewN | apply Kd.R_drew)); exact (Kd.R_mono (Kd.R_far (p := ⟨gb195, 3, none⟩) (Kd.R_far (p := ⟨gb195, 2, none⟩) (Kd.R_far (p := ⟨gb195, 1, none⟩) (Kd.R_far (p := ⟨gb195, 0, none⟩) (Kd.R_types HO190.out BK195.out (by decide)) (fun _ hk => hk.2) (.string t186)) (fun _ hk => hk.2) (.int .i64 t187)) (fun _ hk => hk.2) (.slice Ao44 t188.length co44)) (fun _ hk => hk.2) (.slice Ao45 t191.length co45)) (fun _ h_ => h_.1))) hb); have n3_ := Aside0.mk (Kd.R_below (by (with_reducible repeat (first | apply Kd.R_alloc | apply Kd.R_drewN | apply Kd.R_drew)); exact (Kd.R_mono (Kd.R_far (p := ⟨gb195, 3, none⟩) (Kd.R_far (p := ⟨gb195, 2, none⟩) (Kd.R_far (p := ⟨gb195, 1, none⟩) (Kd.R_far (p := ⟨gb195, 0, none⟩) (Kd.R_types HO193.out BK195.out (by decide)) (fun _ hk => hk.2) (.string t186)) (fun _ hk => hk.2) (.int .i64 t187)) (fun _ hk => hk.2) (.slice Ao44 t188.length co44)) (fun _ hk => hk.2) (.slice Ao45 t191.length co45)) (fun _ h_ => h_.1))) hb); have n4_ := bb BK162 hb; have n5_ := bb BK184 hb; have n6_ := Aside0.mk (blk_below (g := gb195) (o := .cells #[.string t186, .int .i64 t187, .slice Ao44 t188.length co44, .slice Ao45 t191.length co45] 24 (0, 0)) (bk BK195) hb); have n7_ := Aside0.mk (below_step be hb); clear HO_185002; clear HO_185003; clear HO190; clear HO193; clear BK162; clear BK184; clear BK195; clear HB; have HO_185002 := n0_; have HO_185003 := n1_; have HO190 := n2_; have HO193 := n3_; have BK162 := n4_; have BK184 := n5_; have BK195 := n6_; have HB := n7_; clear n0_ n1_ n2_ n3_ n4_ n5_ n6_ n7_; (try clear hb); (try clear hb2); (try clear hk); (try clear hi)))
        (try simp only [Act.put, List.setIfInBounds_toArray, List.set_cons_zero, List.set_cons_succ])
        go_cut [66] (fun v66 wc => ∃ (kq : Nat) (x66_35 : Bool), v66 = .bool x66_35 ∧ Aside0 (ephemerislaw1_ObservedExtends.j2 kq l1 t194 t196 x66_35 a0_0 a0_1 l0_2 l0_3 t186 t187 t188 t191 = some r) ∧ Aside0 (kq ≤ kj15) ∧ Aside0 (Kd.R (Kd.int .i64) 3 wc w.heap.size (fun k_ => some k_ ≠ ((.slice Ao25 t180.length co25) : Value).ownBlock ∧ some k_ ≠ ((.slice Ao44 t188.length co44) : Value).ownBlock ∧ some k_ ≠ ((.slice Ao45 t191.length co45) : Value).ownBlock) (.slice Ao24 t177.length co24) t177) ∧ Aside0 (Kd.R (Kd.int .i64) 3 wc w.heap.size (fun k_ => some k_ ≠ ((.slice Ao24 t177.length co24) : Value).ownBlock ∧ some k_ ≠ ((.slice Ao44 t188.length co44) : Value).ownBlock ∧ some k_ ≠ ((.slice Ao45 t191.length co45) : Value).ownBlock) (.slice Ao25 t180.length co25) t180) ∧ Aside0 (Kd.R (Kd.int .i64) 3 wc w.heap.size (fun k_ => some k_ ≠ ((.slice Ao24 t177.length co24) : Value).ownBlock ∧ some k_ ≠ ((.slice Ao25 t180.length co25) : Value).ownBlock ∧ some k_ ≠ ((.slice Ao45 t191.length co45) : Value).ownBlock) (.slice Ao44 t188.length co44) t188) ∧ Aside0 (Kd.R (Kd.int .i64) 3 wc w.heap.size (fun k_ => some k_ ≠ ((.slice Ao24 t177.length co24) : Value).ownBlock ∧ some k_ ≠ ((.slice Ao25 t180.length co25) : Value).ownBlock ∧ some k_ ≠ ((.slice Ao44 t188.length co44) : Value).ownBlock) (.slice Ao45 t191.length co45) t191) ∧ Aside0 (wc.heap[gb162]? = some (.cells #[.string a0_0, .int .i64 a0_1, (.slice A0_2 l0_2.length c0_2), (.slice A0_3 l0_3.length c0_3)] 24 (0, 0))) ∧ Aside0 (wc.heap[gb184]? = some (.cells #[.string t175, .int .i64 t176, (.slice Ao24 t177.length co24), (.slice Ao25 t180.length co25)] 24 (0, 0))) ∧ Aside0 (wc.heap[gb195]? = some (.cells #[.string t186, .int .i64 t187, (.slice Ao44 t188.length co44), (.slice Ao45 t191.length co45)] 24 (0, 0))) ∧ Aside0 (Below w.heap.size w wc))
        case first =>
         have H := HC36.out
         clear HC36
         by_cases c48 : t196 = 0
         ·rw [if_pos c48] at H
          have c48b0 : (t196 == 0) = true := beq_iff_eq.mpr c48
          have c48b1 : (t196 != 0) = false := bne_eq_false_iff_eq.mpr c48
          clear c48
          (first | rw [c48b0] | (simp only [i64_w, i32_w]; rw [c48b0]) | skip)
          by_cases c49 : (l1.length : Int) = 12
          ·rw [if_pos c49] at H
           have c49b0 : ((l1.length : Int) == 12) = true := beq_iff_eq.mpr c49
           have c49b1 : ((l1.length : Int) != 12) = false := bne_eq_false_iff_eq.mpr c49
           clear c49
           have H' := Aside0.mk H
           clear H
           go_wp2
           go_meet
           case rel => exact ⟨_, (false), rs, H', ⟨by have := HK1.out; have := HJ15.out; first | omega | exact Nat.le_refl _⟩, ⟨by (try simp only [hl5_1]); (with_reducible repeat (first | apply Kd.R_alloc | apply Kd.R_drewN | apply Kd.R_drew)); exact Kd.R_mono HO_185002.out (fun _ hk => ⟨hk.1.1, ⟨hk.1.2, hk.2⟩⟩)⟩, ⟨by (try simp only [hl5_1]); (with_reducible repeat (first | apply Kd.R_alloc | apply Kd.R_drewN | apply Kd.R_drew)); exact Kd.R_mono HO_185003.out (fun _ hk => ⟨hk.1.1, ⟨hk.1.2, hk.2⟩⟩)⟩, ⟨by (try simp only [hl5_1]); (with_reducible repeat (first | apply Kd.R_alloc | apply Kd.R_drewN | apply Kd.R_drew)); exact Kd.R_mono HO190.out (fun _ hk => ⟨hk.1.2, ⟨hk.2, hk.1.1⟩⟩)⟩, ⟨by (try simp only [hl5_1]); (with_reducible repeat (first | apply Kd.R_alloc | apply Kd.R_drewN | apply Kd.R_drew)); exact Kd.R_mono HO193.out (fun _ hk => ⟨hk.1.2, ⟨hk.2, hk.1.1⟩⟩)⟩, ⟨by (try simp only [hl5_1]); (with_reducible repeat (first | refine blk_drewN ?_ _ | refine blk_drew ?_ | refine blk_alloc ?_ _)); exact BK162.out⟩, ⟨by (try simp only [hl5_1]); (with_reducible repeat (first | refine blk_drewN ?_ _ | refine blk_drew ?_ | refine blk_alloc ?_ _)); exact BK184.out⟩, ⟨by (try simp only [hl5_1]); (with_reducible repeat (first | refine blk_drewN ?_ _ | refine blk_drew ?_ | refine blk_alloc ?_ _)); exact BK195.out⟩, ⟨be⟩⟩
          ·rw [if_neg c49] at H
           have c49b0 : ((l1.length : Int) == 12) = false := beq_eq_false_iff_ne.mpr c49
           have c49b1 : ((l1.length : Int) != 12) = true := bne_iff_ne.mpr c49
           have H' := Aside0.mk H
           clear H
           go_wp2
           go_meet
           case rel => exact ⟨_, (((l1.length : Int) != 13)), rs, H', ⟨by have := HK1.out; have := HJ15.out; first | omega | exact Nat.le_refl _⟩, ⟨by (try simp only [hl5_1]); (with_reducible repeat (first | apply Kd.R_alloc | apply Kd.R_drewN | apply Kd.R_drew)); exact Kd.R_mono HO_185002.out (fun _ hk => ⟨hk.1.1, ⟨hk.1.2, hk.2⟩⟩)⟩, ⟨by (try simp only [hl5_1]); (with_reducible repeat (first | apply Kd.R_alloc | apply Kd.R_drewN | apply Kd.R_drew)); exact Kd.R_mono HO_185003.out (fun _ hk => ⟨hk.1.1, ⟨hk.1.2, hk.2⟩⟩)⟩, ⟨by (try simp only [hl5_1]); (with_reducible repeat (first | apply Kd.R_alloc | apply Kd.R_drewN | apply Kd.R_drew)); exact Kd.R_mono HO190.out (fun _ hk => ⟨hk.1.2, ⟨hk.2, hk.1.1⟩⟩)⟩, ⟨by (try simp only [hl5_1]); (with_reducible repeat (first | apply Kd.R_alloc | apply Kd.R_drewN | apply Kd.R_drew)); exact Kd.R_mono HO193.out (fun _ hk => ⟨hk.1.2, ⟨hk.2, hk.1.1⟩⟩)⟩, ⟨by (try simp only [hl5_1]); (with_reducible repeat (first | refine blk_drewN ?_ _ | refine blk_drew ?_ | refine blk_alloc ?_ _)); exact BK162.out⟩, ⟨by (try simp only [hl5_1]); (with_reducible repeat (first | refine blk_drewN ?_ _ | refine blk_drew ?_ | refine blk_alloc ?_ _)); exact BK184.out⟩, ⟨by (try simp only [hl5_1]); (with_reducible repeat (first | refine blk_drewN ?_ _ | refine blk_drew ?_ | refine blk_alloc ?_ _)); exact BK195.out⟩, ⟨be⟩⟩
         ·rw [if_neg c48] at H
          have c48b0 : (t196 == 0) = false := beq_eq_false_iff_ne.mpr c48
          have c48b1 : (t196 != 0) = true := bne_iff_ne.mpr c48
          (first | rw [c48b0] | (simp only [i64_w, i32_w]; rw [c48b0]) | skip)
          have H' := Aside0.mk H
          clear H
          go_wp2
          go_meet
          case rel => exact ⟨_, (false), rs, H', ⟨by have := HK1.out; have := HJ15.out; first | omega | exact Nat.le_refl _⟩, ⟨by (try simp only [hl5_1]); (with_reducible repeat (first | apply Kd.R_alloc | apply Kd.R_drewN | apply Kd.R_drew)); exact Kd.R_mono HO_185002.out (fun _ hk => ⟨hk.1.1, ⟨hk.1.2, hk.2⟩⟩)⟩, ⟨by (try simp only [hl5_1]); (with_reducible repeat (first | apply Kd.R_alloc | apply Kd.R_drewN | apply Kd.R_drew)); exact Kd.R_mono HO_185003.out (fun _ hk => ⟨hk.1.1, ⟨hk.1.2, hk.2⟩⟩)⟩, ⟨by (try simp only [hl5_1]); (with_reducible repeat (first | apply Kd.R_alloc | apply Kd.R_drewN | apply Kd.R_drew)); exact Kd.R_mono HO190.out (fun _ hk => ⟨hk.1.2, ⟨hk.2, hk.1.1⟩⟩)⟩, ⟨by (try simp only [hl5_1]); (with_reducible repeat (first | apply Kd.R_alloc | apply Kd.R_drewN | apply Kd.R_drew)); exact Kd.R_mono HO193.out (fun _ hk => ⟨hk.1.2, ⟨hk.2, hk.1.1⟩⟩)⟩, ⟨by (try simp only [hl5_1]); (with_reducible repeat (first | refine blk_drewN ?_ _ | refine blk_drew ?_ | refine blk_alloc ?_ _)); exact BK162.out⟩, ⟨by (try simp only [hl5_1]); (with_reducible repeat (first | refine blk_drewN ?_ _ | refine blk_drew ?_ | refine blk_alloc ?_ _)); exact BK184.out⟩, ⟨by (try simp only [hl5_1]); (with_reducible repeat (first | refine blk_drewN ?_ _ | refine blk_drew ?_ | refine blk_alloc ?_ _)); exact BK195.out⟩, ⟨be⟩⟩
        case rest =>
         clear HC36
         (try clear c1); (try clear p1); (try clear q1); (try clear hx1); (try clear qi1); (try clear c2); (try clear p2); (try clear c3); (try clear c3b0); (try clear c3b1); (try clear c4); (try clear p6); (try clear c8); (try clear c8b0); (try clear c9); (try clear c9b0); (try clear c10); (try clear c10b0); (try clear c11); (try clear p11); (try clear q11); (try clear hx11); (try clear hf11); (try clear c12); (try clear p18); (try clear q18); (try clear hx18); (try clear qi18); (try clear c22); (try clear c26); (try clear c26b0); (try clear c26b1); (try clear c27); (try clear c27b0); (try clear c27b1); (try clear c28); (try clear c28b0); (try clear c28b1); (try clear c29); (try clear c31); (try clear c33); (try clear c37); (try clear c41); (try clear c42); (try clear c48); (try clear c48b0); (try clear c48b1); (try clear c49); (try clear c49b0); (try clear c49b1); (try clear hcz23_0); (try clear hcz23_1); (try clear hcz23_2); (try clear hcz23_3); (try clear hcz30_0); (try clear hcz30_1); (try clear hcz30_2); (try clear hcz30_3); (try clear hcz32_0); (try clear hcz32_1); (try clear hcz32_2); (try clear hcz32_3); (try clear hcz38_0); (try clear hcz38_1); (try clear hcz38_2); (try clear hcz38_3); (try clear hcz43_0); (try clear hcz43_1); (try clear hcz43_2); (try clear hcz43_3); (try clear hcz46_0); (try clear hcz46_1); (try clear hcz46_2); (try clear hcz46_3); (try clear hfz23_0); (try clear hfz23_1); (try clear hfz23_2); (try clear hfz23_3); (try clear hfz30_0); (try clear hfz30_1); (try clear hfz30_2); (try clear hfz30_3); (try clear hfz32_0); (try clear hfz32_1); (try clear hfz32_2); (try clear hfz32_3); (try clear hfz38_0); (try clear hfz38_1); (try clear hfz38_2); (try clear hfz38_3); (try clear hfz43_0); (try clear hfz43_1); (try clear hfz43_2); (try clear hfz43_3); (try clear hfz46_0); (try clear hfz46_1); (try clear hfz46_2); (try clear hfz46_3); (try clear hx11_0); (try clear hx185_0); (try clear p1); (try clear p11); (try clear p18); (try clear p185); (try clear p2); (try clear p6); (try clear q1); (try clear q11); (try clear q18); (try clear q185)
         obtain ⟨kq, x66_35, rfl, HA, HJ35, HO_185002, HO_185003, HO_196002, HO_196003, BK162, BK184, BK195, HB⟩ := hcut
         cases kq with
         | zero => exact absurd HA.out (by simp [ephemerislaw1_ObservedExtends.j2])
         | succ kj35 =>
          have H := HA.out
          clear HA
          simp only [ephemerislaw1_ObservedExtends.j2] at H
          have HC50 := Aside0.mk H
          clear H
          go_upto_if 66 with (fail)
          go_cut [11] (fun v11 wc => ∃ (kq : Nat) (x11_49 : Int), v11 = .int .i64 x11_49 ∧ Aside0 (ephemerislaw1_ObservedExtends.j3 kq l1 t194 x11_49 a0_0 a0_1 l0_2 l0_3 t186 t187 t188 t191 = some r) ∧ Aside0 (kq ≤ kj35) ∧ Aside0 (Kd.R (Kd.int .i64) 3 wc w.heap.size (fun k_ => some k_ ≠ ((.slice Ao25 t180.length co25) : Value).ownBlock ∧ some k_ ≠ ((.slice Ao44 t188.length co44) : Value).ownBlock ∧ some k_ ≠ ((.slice Ao45 t191.length co45) : Value).ownBlock) (.slice Ao24 t177.length co24) t177) ∧ Aside0 (Kd.R (Kd.int .i64) 3 wc w.heap.size (fun k_ => some k_ ≠ ((.slice Ao24 t177.length co24) : Value).ownBlock ∧ some k_ ≠ ((.slice Ao44 t188.length co44) : Value).ownBlock ∧ some k_ ≠ ((.slice Ao45 t191.length co45) : Value).ownBlock) (.slice Ao25 t180.length co25) t180) ∧ Aside0 (Kd.R (Kd.int .i64) 3 wc w.heap.size (fun k_ => some k_ ≠ ((.slice Ao24 t177.length co24) : Value).ownBlock ∧ some k_ ≠ ((.slice Ao25 t180.length co25) : Value).ownBlock ∧ some k_ ≠ ((.slice Ao45 t191.length co45) : Value).ownBlock) (.slice Ao44 t188.length co44) t188) ∧ Aside0 (Kd.R (Kd.int .i64) 3 wc w.heap.size (fun k_ => some k_ ≠ ((.slice Ao24 t177.length co24) : Value).ownBlock ∧ some k_ ≠ ((.slice Ao25 t180.length co25) : Value).ownBlock ∧ some k_ ≠ ((.slice Ao44 t188.length co44) : Value).ownBlock) (.slice Ao45 t191.length co45) t191) ∧ Aside0 (wc.heap[gb162]? = some (.cells #[.string a0_0, .int .i64 a0_1, (.slice A0_2 l0_2.length c0_2), (.slice A0_3 l0_3.length c0_3)] 24 (0, 0))) ∧ Aside0 (wc.heap[gb184]? = some (.cells #[.string t175, .int .i64 t176, (.slice Ao24 t177.length co24), (.slice Ao25 t180.length co25)] 24 (0, 0))) ∧ Aside0 (wc.heap[gb195]? = some (.cells #[.string t186, .int .i64 t187, (.slice Ao44 t188.length co44), (.slice Ao45 t191.length co45)] 24 (0, 0))) ∧ Aside0 (Below w.heap.size w wc))
          case first =>
           have H := HC50.out
           clear HC50
           by_cases c51 : x66_35 = true
           ·subst c51
            have H1 : (ephemerislaw1_ObservedExtends.j3 kj35 l1 t194 1 a0_0 a0_1 l0_2 l0_3 t186 t187 t188 t191) = some r := by rw [if_pos rfl] at H; exact H
            clear H
            have H := H1
            clear H1
            have H' := Aside0.mk H
            clear H
            go_wp2
            go_meet
            case rel => exact ⟨_, (1), rs, H', ⟨by have := HK1.out; have := HJ15.out; have := HJ35.out; first | omega | exact Nat.le_refl _⟩, ⟨by (try simp only [hl5_1]); (with_reducible repeat (first | apply Kd.R_alloc | apply Kd.R_drewN | apply Kd.R_drew)); exact HO_185002.out⟩, ⟨by (try simp only [hl5_1]); (with_reducible repeat (first | apply Kd.R_alloc | apply Kd.R_drewN | apply Kd.R_drew)); exact HO_185003.out⟩, ⟨by (try simp only [hl5_1]); (with_reducible repeat (first | apply Kd.R_alloc | apply Kd.R_drewN | apply Kd.R_drew)); exact HO_196002.out⟩, ⟨by (try simp only [hl5_1]); (with_reducible repeat (first | apply Kd.R_alloc | apply Kd.R_drewN | apply Kd.R_drew)); exact HO_196003.out⟩, ⟨by (try simp only [hl5_1]); (with_reducible repeat (first | refine blk_drewN ?_ _ | refine blk_drew ?_ | refine blk_alloc ?_ _)); exact BK162.out⟩, ⟨by (try simp only [hl5_1]); (with_reducible repeat (first | refine blk_drewN ?_ _ | refine blk_drew ?_ | refine blk_alloc ?_ _)); exact BK184.out⟩, ⟨by (try simp only [hl5_1]); (with_reducible repeat (first | refine blk_drewN ?_ _ | refine blk_drew ?_ | refine blk_alloc ?_ _)); exact BK195.out⟩, ⟨be⟩⟩
           ·replace c51 := Bool.eq_false_iff.mpr c51
            subst c51
            have H1 : (ephemerislaw1_ObservedExtends.j3 kj35 l1 t194 t196 a0_0 a0_1 l0_2 l0_3 t186 t187 t188 t191) = some r := by rw [if_neg (show ¬ (false = true) by decide)] at H; exact H
            clear H
            have H := H1
            clear H1
            have H' := Aside0.mk H
            clear H
            go_wp2
            go_meet
            case rel => exact ⟨_, (t196), rs, H', ⟨by have := HK1.out; have := HJ15.out; have := HJ35.out; first | omega | exact Nat.le_refl _⟩, ⟨by (try simp only [hl5_1]); (with_reducible repeat (first | apply Kd.R_alloc | apply Kd.R_drewN | apply Kd.R_drew)); exact HO_185002.out⟩, ⟨by (try simp only [hl5_1]); (with_reducible repeat (first | apply Kd.R_alloc | apply Kd.R_drewN | apply Kd.R_drew)); exact HO_185003.out⟩, ⟨by (try simp only [hl5_1]); (with_reducible repeat (first | apply Kd.R_alloc | apply Kd.R_drewN | apply Kd.R_drew)); exact HO_196002.out⟩, ⟨by (try simp only [hl5_1]); (with_reducible repeat (first | apply Kd.R_alloc | apply Kd.R_drewN | apply Kd.R_drew)); exact HO_196003.out⟩, ⟨by (try simp only [hl5_1]); (with_reducible repeat (first | refine blk_drewN ?_ _ | refine blk_drew ?_ | refine blk_alloc ?_ _)); exact BK162.out⟩, ⟨by (try simp only [hl5_1]); (with_reducible repeat (first | refine blk_drewN ?_ _ | refine blk_drew ?_ | refine blk_alloc ?_ _)); exact BK184.out⟩, ⟨by (try simp only [hl5_1]); (with_reducible repeat (first | refine blk_drewN ?_ _ | refine blk_drew ?_ | refine blk_alloc ?_ _)); exact BK195.out⟩, ⟨be⟩⟩
          case rest =>
           clear HC50
           (try clear c1); (try clear p1); (try clear q1); (try clear hx1); (try clear qi1); (try clear c2); (try clear p2); (try clear c3); (try clear c3b0); (try clear c3b1); (try clear c4); (try clear c5); (try clear p6); (try clear c8); (try clear c8b0); (try clear c9); (try clear c9b0); (try clear c10); (try clear c10b0); (try clear c11); (try clear p11); (try clear q11); (try clear hx11); (try clear hf11); (try clear c12); (try clear p18); (try clear q18); (try clear hx18); (try clear qi18); (try clear c22); (try clear c26); (try clear c26b0); (try clear c26b1); (try clear c27); (try clear c27b0); (try clear c27b1); (try clear c28); (try clear c28b0); (try clear c28b1); (try clear c29); (try clear c31); (try clear c33); (try clear c37); (try clear c41); (try clear c42); (try clear c48); (try clear c48b0); (try clear c48b1); (try clear c49); (try clear c49b0); (try clear c49b1); (try clear c51); (try clear hcz23_0); (try clear hcz23_1); (try clear hcz23_2); (try clear hcz23_3); (try clear hcz30_0); (try clear hcz30_1); (try clear hcz30_2); (try clear hcz30_3); (try clear hcz32_0); (try clear hcz32_1); (try clear hcz32_2); (try clear hcz32_3); (try clear hcz38_0); (try clear hcz38_1); (try clear hcz38_2); (try clear hcz38_3); (try clear hcz43_0); (try clear hcz43_1); (try clear hcz43_2); (try clear hcz43_3); (try clear hcz46_0); (try clear hcz46_1); (try clear hcz46_2); (try clear hcz46_3); (try clear hfz23_0); (try clear hfz23_1); (try clear hfz23_2); (try clear hfz23_3); (try clear hfz30_0); (try clear hfz30_1); (try clear hfz30_2); (try clear hfz30_3); (try clear hfz32_0); (try clear hfz32_1); (try clear hfz32_2); (try clear hfz32_3); (try clear hfz38_0); (try clear hfz38_1); (try clear hfz38_2); (try clear hfz38_3); (try clear hfz43_0); (try clear hfz43_1); (try clear hfz43_2); (try clear hfz43_3); (try clear hfz46_0); (try clear hfz46_1); (try clear hfz46_2); (try clear hfz46_3); (try clear hx11_0); (try clear hx185_0); (try clear p1); (try clear p11); (try clear p18); (try clear p185); (try clear p2); (try clear p6); (try clear q1); (try clear q11); (try clear q18); (try clear q185)
           obtain ⟨kq, x11_49, rfl, HA, HJ49, HO_185002, HO_185003, HO_196002, HO_196003, BK162, BK184, BK195, HB⟩ := hcut
           cases kq with
           | zero => exact absurd HA.out (by simp [ephemerislaw1_ObservedExtends.j3])
           | succ kj49 =>
            have H := HA.out
            clear HA
            simp only [ephemerislaw1_ObservedExtends.j3] at H
            by_cases c52 : ([] : List Int).length + l0_2.length < 17592186044416
            ·rw [if_pos c52] at H
             have LMc52 := Aside0.mk c52
             clear c52
             obtain ⟨y198, hy198⟩ : ∃ y_ : List Int, y_ = (([] : List Int) ++ l0_2) := ⟨_, rfl⟩
             replace H : (if y198.length < 17592186044416 then ((some (y198 ++ [(l1.length : Int)] : List Int)).bind fun y201 => (if ([] : List Int).length + l0_3.length < 17592186044416 then ((some (([] : List Int) ++ l0_3 : List Int)).bind fun y204 => (if y204.length + l1.length < 17592186044416 then ((some (y204 ++ l1 : List Int)).bind fun y207 => (if x11_49 = 0 then ((ephemerisref1_TableError.f kj49 a0_0 a0_1 y201 y207).bind fun t210 => (ephemerislaw1_ObservedExtends.j4 kj49 t194 t210 t186 t187 t188 t191 a0_0 a0_1 y201 y207)) else (ephemerislaw1_ObservedExtends.j4 kj49 t194 x11_49 t186 t187 t188 t191 a0_0 a0_1 y201 y207))) else (none))) else (none))) else (none)) = some r := rp hy198 H
             have Ny198 := Aside0.mk hy198
             clear hy198
             by_cases c53 : y198.length < 17592186044416
             ·rw [if_pos c53] at H
              have LMc53 := Aside0.mk c53
              clear c53
              obtain ⟨y201, hy201⟩ : ∃ y_ : List Int, y_ = (y198 ++ [(l1.length : Int)]) := ⟨_, rfl⟩
              replace H : (if ([] : List Int).length + l0_3.length < 17592186044416 then ((some (([] : List Int) ++ l0_3 : List Int)).bind fun y204 => (if y204.length + l1.length < 17592186044416 then ((some (y204 ++ l1 : List Int)).bind fun y207 => (if x11_49 = 0 then ((ephemerisref1_TableError.f kj49 a0_0 a0_1 y201 y207).bind fun t210 => (ephemerislaw1_ObservedExtends.j4 kj49 t194 t210 t186 t187 t188 t191 a0_0 a0_1 y201 y207)) else (ephemerislaw1_ObservedExtends.j4 kj49 t194 x11_49 t186 t187 t188 t191 a0_0 a0_1 y201 y207))) else (none))) else (none)) = some r := rp hy201 H
              have Ny201 := Aside0.mk hy201
              clear hy201
              by_cases c54 : ([] : List Int).length + l0_3.length < 17592186044416
              ·rw [if_pos c54] at H
               have LMc54 := Aside0.mk c54
               clear c54
               obtain ⟨y204, hy204⟩ : ∃ y_ : List Int, y_ = (([] : List Int) ++ l0_3) := ⟨_, rfl⟩
               replace H : (if y204.length + l1.length < 17592186044416 then ((some (y204 ++ l1 : List Int)).bind fun y207 => (if x11_49 = 0 then ((ephemerisref1_TableError.f kj49 a0_0 a0_1 y201 y207).bind fun t210 => (ephemerislaw1_ObservedExtends.j4 kj49 t194 t210 t186 t187 t188 t191 a0_0 a0_1 y201 y207)) else (ephemerislaw1_ObservedExtends.j4 kj49 t194 x11_49 t186 t187 t188 t191 a0_0 a0_1 y201 y207))) else (none)) = some r := rp hy204 H
               have Ny204 := Aside0.mk hy204
               clear hy204
               by_cases c55 : y204.length + l1.length < 17592186044416
               ·rw [if_pos c55] at H
                have LMc55 := Aside0.mk c55
                clear c55
                obtain ⟨y207, hy207⟩ : ∃ y_ : List Int, y_ = (y204 ++ l1) := ⟨_, rfl⟩
                replace H : (if x11_49 = 0 then ((ephemerisref1_TableError.f kj49 a0_0 a0_1 y201 y207).bind fun t210 => (ephemerislaw1_ObservedExtends.j4 kj49 t194 t210 t186 t187 t188 t191 a0_0 a0_1 y201 y207)) else (ephemerislaw1_ObservedExtends.j4 kj49 t194 x11_49 t186 t187 t188 t191 a0_0 a0_1 y201 y207)) = some r := rp hy207 H
                have Ny207 := Aside0.mk hy207
                clear hy207
                have HC56 := Aside0.mk H
                clear H
                have hnb57 := NB162_184.out
                have hnc57 := NB184_162.out
                have hnb58 := NB162_195.out
                have hnc58 := NB195_162.out
                obtain ⟨hcz59_0, hcz59_1, hcz59_2, hcz59_3, hfz59_0, hfz59_1, hfz59_2, hfz59_3⟩ := bc4 BK162
                go_upto_if 91 with (first | ((with_reducible refine gate_dst (N := 12) rfl ?_); (try (refine gate_guard (by rfl) ?_; dsimp only)); refine box_event ?hg (N := 12) ?hd (cs := #[.string (⟨#[]⟩ : ByteArray), .int .i64 0, .slice none 0 0, .slice none 0 0]) (t := 24) ?hr ?_; (case hd => rfl); (case hg => rfl); (case hr => first | (go_simp; done) | (go_simp; rfl)); intro gb197 hg w60 hbox hb; have n0_ := Aside0.mk (Kd.R_below (by (with_reducible repeat (first | apply Kd.R_alloc | apply Kd.R_drewN | apply Kd.R_drew)); exact HO_185002.out) hb); have n1_ := Aside0.mk (Kd.R_below (by (with_reducible repeat (first | apply Kd.R_alloc | apply Kd.R_drewN | apply Kd.R_drew)); exact HO_185003.out) hb); have n2_ := Aside0.mk (Kd.R_below (by (with_reducible repeat (first | apply Kd.R_alloc | apply Kd.R_drewN | apply Kd.R_drew)); exact HO_196002.out) hb); have n3_ := Aside0.mk (Kd.R_below (by (with_reducible repeat (first | apply Kd.R_alloc | apply Kd.R_drewN | apply Kd.R_drew)); exact HO_196003.out) hb); have n4_ := bb BK162 hb; have n5_ := bb BK184 hb; have n6_ := bb BK195 hb; have n7_ := Aside0.mk (below_step be hb); have n8_ := Aside0.mk (hbox); have n9_ := gs hg HB; have n10_ := n9_; have n11_ := nl BK162 hg; have n12_ := ns n11_; have n13_ := nl BK184 hg; have n14_ := ns n13_; have n15_ := nl BK195 hg; have n16_ := ns n15_; clear HO_185002; clear HO_185003; clear HO_196002; clear HO_196003; clear BK162; clear BK184; clear BK195; clear HB; have HO_185002 := n0_; have HO_185003 := n1_; have HO_196002 := n2_; have HO_196003 := n3_; have BK162 := n4_; have BK184 := n5_; have BK195 := n6_; have HB := n7_; have BK197 := n8_; have GW197 := n9_; have GE197 := n10_; have NB162_197 := n11_; have NB197_162 := n12_; have NB184_197 := n13_; have NB197_184 := n14_; have NB195_197 := n15_; have NB197_195 := n16_; clear n0_ n1_ n2_ n3_ n4_ n5_ n6_ n7_ n8_ n9_ n10_ n11_ n12_ n13_ n14_ n15_ n16_; clear hb hbox hg; have hnb61 := NB197_162.out; have hnc61 := NB162_197.out; have hnb62 := NB197_184.out; have hnc62 := NB184_197.out; have hnb63 := NB197_195.out; have hnc63 := NB195_197.out; obtain ⟨hcz64_0, hcz64_1, hcz64_2, hcz64_3, hfz64_0, hfz64_1, hfz64_2, hfz64_3⟩ := bc4 BK197; obtain ⟨hcz65_0, hcz65_1, hcz65_2, hcz65_3, hfz65_0, hfz65_1, hfz65_2, hfz65_3⟩ := bc4 BK162) | ((with_reducible refine gate_builtin (b := .append) (xs := #[.tmp 73, .tmp 75]) rfl ?_); (try (refine gate_guard (by rfl) ?_; dsimp only)); at_builtin; refine Kd.R_append_rows (Kd.int .i64) (w0 := w) w.heap.size rfl (.tmp 73) (.tmp 75) 22 3 (.int .i64 0) 8 rfl Try.underlying22 info3 rfl (by decide) (by omega) (.slice none 0 0) ([] : List Int) l0_2 _ _ _ (fun k_ => some k_ ≠ (.slice Ao24 t177.length co24 : Value).ownBlock ∧ some k_ ≠ (.slice Ao25 t180.length co25 : Value).ownBlock ∧ some k_ ≠ (.slice Ao44 t188.length co44 : Value).ownBlock ∧ some k_ ≠ (.slice Ao45 t191.length co45 : Value).ownBlock) (fun _ => False) rfl rfl ?aO ?aR (fun _ _ h => h) (fun _ h => h.elim) ?aF ?aB ?aS ?aL ?_; (case aR => exact Kd.C_below HR0_2.out be); (case aB => exact be); (case aF => exact (fun k_ hk => ⟨Kd.fresh' (Kd.R_lt (by (with_reducible repeat (first | apply Kd.R_alloc | apply Kd.R_drewN | apply Kd.R_drew)); exact (Kd.R_mono (Kd.R_far (p := ⟨gb197, 3, none⟩) (Kd.R_far (p := ⟨gb197, 2, none⟩) (Kd.R_far (p := ⟨gb197, 1, none⟩) (Kd.R_far (p := ⟨gb197, 0, none⟩) (Kd.R_types HO_185002.out BK197.out (by decide)) (fun _ hk => hk.2) (.string a0_0)) (fun _ hk => hk.2) (.int .i64 a0_1)) (fun _ hk => hk.2) (.slice none 0 0)) (fun _ hk => hk.2) (.slice none 0 0)) (fun _ h_ => h_.1)))) k_ hk, Kd.fresh' (Kd.R_lt (by (with_reducible repeat (first | apply Kd.R_alloc | apply Kd.R_drewN | apply Kd.R_drew)); exact (Kd.R_mono (Kd.R_far (p := ⟨gb197, 3, none⟩) (Kd.R_far (p := ⟨gb197, 2, none⟩) (Kd.R_far (p := ⟨gb197, 1, none⟩) (Kd.R_far (p := ⟨gb197, 0, none⟩) (Kd.R_types HO_185003.out BK197.out (by decide)) (fun _ hk => hk.2) (.string a0_0)) (fun _ hk => hk.2) (.int .i64 a0_1)) (fun _ hk => hk.2) (.slice none 0 0)) (fun _ hk => hk.2) (.slice none 0 0)) (fun _ h_ => h_.1)))) k_ hk, Kd.fresh' (Kd.R_lt (by (with_reducible repeat (first | apply Kd.R_alloc | apply Kd.R_drewN | apply Kd.R_drew)); exact (Kd.R_mono (Kd.R_far (p := ⟨gb197, 3, none⟩) (Kd.R_far (p := ⟨gb197, 2, none⟩) (Kd.R_far (p := ⟨gb197, 1, none⟩) (Kd.R_far (p := ⟨gb197, 0, none⟩) (Kd.R_types HO_196002.out BK197.out (by decide)) (fun _ hk => hk.2) (.string a0_0)) (fun _ hk => hk.2) (.int .i64 a0_1)) (fun _ hk => hk.2) (.slice none 0 0)) (fun _ hk => hk.2) (.slice none 0 0)) (fun _ h_ => h_.1)))) k_ hk, Kd.fresh' (Kd.R_lt (by (with_reducible repeat (first | apply Kd.R_alloc | apply Kd.R_drewN | apply Kd.R_drew)); exact (Kd.R_mono (Kd.R_far (p := ⟨gb197, 3, none⟩) (Kd.R_far (p := ⟨gb197, 2, none⟩) (Kd.R_far (p := ⟨gb197, 1, none⟩) (Kd.R_far (p := ⟨gb197, 0, none⟩) (Kd.R_types HO_196003.out BK197.out (by decide)) (fun _ hk => hk.2) (.string a0_0)) (fun _ hk => hk.2) (.int .i64 a0_1)) (fun _ hk => hk.2) (.slice none 0 0)) (fun _ hk => hk.2) (.slice none 0 0)) (fun _ h_ => h_.1)))) k_ hk⟩)); (case aO => exact ((Kd.R_nil _ _ _ _ (fun k_ => some k_ ≠ (.slice Ao24 t177.length co24 : Value).ownBlock ∧ some k_ ≠ (.slice Ao25 t180.length co25 : Value).ownBlock ∧ some k_ ≠ (.slice Ao44 t188.length co44 : Value).ownBlock ∧ some k_ ≠ (.slice Ao45 t191.length co45 : Value).ownBlock)))); (case aS => exact (below_size be)); (case aL => have := LMc52.out; omega); intro v199 w66 ho hb hg hat; rw [← Ny198.out] at ho; have n0_ := Aside0.mk (Kd.R_after (Kd.R_apart_nil (by (with_reducible repeat (first | apply Kd.R_alloc | apply Kd.R_drewN | apply Kd.R_drew)); exact (Kd.R_mono (Kd.R_far (p := ⟨gb197, 3, none⟩) (Kd.R_far (p := ⟨gb197, 2, none⟩) (Kd.R_far (p := ⟨gb197, 1, none⟩) (Kd.R_far (p := ⟨gb197, 0, none⟩) (Kd.R_types HO_185002.out BK197.out (by decide)) (fun _ hk => hk.2) (.string a0_0)) (fun _ hk => hk.2) (.int .i64 a0_1)) (fun _ hk => hk.2) (.slice none 0 0)) (fun _ hk => hk.2) (.slice none 0 0)) (fun _ h_ => h_.1)))) hg hat); have n1_ := Aside0.mk (Kd.R_after (Kd.R_apart_nil (by (with_reducible repeat (first | apply Kd.R_alloc | apply Kd.R_drewN | apply Kd.R_drew)); exact (Kd.R_mono (Kd.R_far (p := ⟨gb197, 3, none⟩) (Kd.R_far (p := ⟨gb197, 2, none⟩) (Kd.R_far (p := ⟨gb197, 1, none⟩) (Kd.R_far (p := ⟨gb197, 0, none⟩) (Kd.R_types HO_185003.out BK197.out (by decide)) (fun _ hk => hk.2) (.string a0_0)) (fun _ hk => hk.2) (.int .i64 a0_1)) (fun _ hk => hk.2) (.slice none 0 0)) (fun _ hk => hk.2) (.slice none 0 0)) (fun _ h_ => h_.1)))) hg hat); have n2_ := Aside0.mk (Kd.R_after (Kd.R_apart_nil (by (with_reducible repeat (first | apply Kd.R_alloc | apply Kd.R_drewN | apply Kd.R_drew)); exact (Kd.R_mono (Kd.R_far (p := ⟨gb197, 3, none⟩) (Kd.R_far (p := ⟨gb197, 2, none⟩) (Kd.R_far (p := ⟨gb197, 1, none⟩) (Kd.R_far (p := ⟨gb197, 0, none⟩) (Kd.R_types HO_196002.out BK197.out (by decide)) (fun _ hk => hk.2) (.string a0_0)) (fun _ hk => hk.2) (.int .i64 a0_1)) (fun _ hk => hk.2) (.slice none 0 0)) (fun _ hk => hk.2) (.slice none 0 0)) (fun _ h_ => h_.1)))) hg hat); have n3_ := Aside0.mk (Kd.R_after (Kd.R_apart_nil (by (with_reducible repeat (first | apply Kd.R_alloc | apply Kd.R_drewN | apply Kd.R_drew)); exact (Kd.R_mono (Kd.R_far (p := ⟨gb197, 3, none⟩) (Kd.R_far (p := ⟨gb197, 2, none⟩) (Kd.R_far (p := ⟨gb197, 1, none⟩) (Kd.R_far (p := ⟨gb197, 0, none⟩) (Kd.R_types HO_196003.out BK197.out (by decide)) (fun _ hk => hk.2) (.string a0_0)) (fun _ hk => hk.2) (.int .i64 a0_1)) (fun _ hk => hk.2) (.slice none 0 0)) (fun _ hk => hk.2) (.slice none 0 0)) (fun _ h_ => h_.1)))) hg hat); have n4_ := Aside0.mk (blk_grown (g := gb162) (o := .cells #[.string a0_0, .int .i64 a0_1, .slice A0_2 l0_2.length c0_2, .slice A0_3 l0_3.length c0_3] 24 (0, 0)) (bk BK162) hg (by simp [Value.ownBlock])); have n5_ := Aside0.mk (blk_grown (g := gb184) (o := .cells #[.string t175, .int .i64 t176, .slice Ao24 t177.length co24, .slice Ao25 t180.length co25] 24 (0, 0)) (bk BK184) hg (by simp [Value.ownBlock])); have n6_ := Aside0.mk (blk_grown (g := gb195) (o := .cells #[.string t186, .int .i64 t187, .slice Ao44 t188.length co44, .slice Ao45 t191.length co45] 24 (0, 0)) (bk BK195) hg (by simp [Value.ownBlock])); have n7_ := Aside0.mk (blk_grown (g := gb197) (o := .cells #[.string a0_0, .int .i64 a0_1, .slice none 0 0, .slice none 0 0] 24 (0, 0)) (bk BK197) hg (by simp [Value.ownBlock])); have n8_ := Aside0.mk (hb); have n9_ := Aside0.mk (ho); clear HO_185002; clear HO_185003; clear HO_196002; clear HO_196003; clear BK162; clear BK184; clear BK195; clear BK197; clear HB; have HO_185002 := n0_; have HO_185003 := n1_; have HO_196002 := n2_; have HO_196003 := n3_; have BK162 := n4_; have BK184 := n5_; have BK195 := n6_; have BK197 := n7_; have HB := n8_; have HO200 := n9_; clear n0_ n1_ n2_ n3_ n4_ n5_ n6_ n7_ n8_ n9_; clear ho hb hg hat) | ((with_reducible refine gate_builtin (b := .append) (xs := #[.tmp 76, .tmp 79]) rfl ?_); (try (refine gate_guard (by rfl) ?_; dsimp only)); at_builtin; refine Kd.R_append (Kd.int .i64) (w0 := w) w.heap.size rfl (.tmp 76) (.tmp 79) 22 3 (.int .i64 0) 8 rfl Try.underlying22 info3 rfl (by decide) (by omega) v199 y198 (l1.length : Int) [.int .i64 (l1.length : Int)] (fun k_ => some k_ ≠ (.slice Ao24 t177.length co24 : Value).ownBlock ∧ some k_ ≠ (.slice Ao25 t180.length co25 : Value).ownBlock ∧ some k_ ≠ (.slice Ao44 t188.length co44 : Value).ownBlock ∧ some k_ ≠ (.slice Ao45 t191.length co45 : Value).ownBlock) (fun _ => False) rfl rfl ?aP (fun _ hk => hk.elim) ?aF ?aO ?aB ?aS ?aL ?_; (case aP => exact rfl); (case aB => exact be); (case aF => exact (fun k_ hk => ⟨Kd.fresh' (Kd.R_lt (by (with_reducible repeat (first | apply Kd.R_alloc | apply Kd.R_drewN | apply Kd.R_drew)); exact HO_185002.out)) k_ hk, Kd.fresh' (Kd.R_lt (by (with_reducible repeat (first | apply Kd.R_alloc | apply Kd.R_drewN | apply Kd.R_drew)); exact HO_185003.out)) k_ hk, Kd.fresh' (Kd.R_lt (by (with_reducible repeat (first | apply Kd.R_alloc | apply Kd.R_drewN | apply Kd.R_drew)); exact HO_196002.out)) k_ hk, Kd.fresh' (Kd.R_lt (by (with_reducible repeat (first | apply Kd.R_alloc | apply Kd.R_drewN | apply Kd.R_drew)); exact HO_196003.out)) k_ hk⟩)); (case aO => exact (by (with_reducible repeat (first | apply Kd.R_alloc | apply Kd.R_drewN | apply Kd.R_drew)); exact HO200.out)); (case aS => exact (below_size be)); (case aL => have := LMc53.out; omega); intro v202 w67 ho hb hg hat; rw [← Ny201.out] at ho; have n0_ := Aside0.mk (Kd.R_after (ok := (fun k_ => some k_ ≠ (.slice Ao25 t180.length co25 : Value).ownBlock ∧ some k_ ≠ (.slice Ao44 t188.length co44 : Value).ownBlock ∧ some k_ ≠ (.slice Ao45 t191.length co45 : Value).ownBlock)) (by (with_reducible repeat (first | apply Kd.R_alloc | apply Kd.R_drewN | apply Kd.R_drew)); exact HO_185002.out) hg hat); have n1_ := Aside0.mk (Kd.R_after (ok := (fun k_ => some k_ ≠ (.slice Ao24 t177.length co24 : Value).ownBlock ∧ some k_ ≠ (.slice Ao44 t188.length co44 : Value).ownBlock ∧ some k_ ≠ (.slice Ao45 t191.length co45 : Value).ownBlock)) (by (with_reducible repeat (first | apply Kd.R_alloc | apply Kd.R_drewN | apply Kd.R_drew)); exact HO_185003.out) hg hat); have n2_ := Aside0.mk (Kd.R_after (ok := (fun k_ => some k_ ≠ (.slice Ao24 t177.length co24 : Value).ownBlock ∧ some k_ ≠ (.slice Ao25 t180.length co25 : Value).ownBlock ∧ some k_ ≠ (.slice Ao45 t191.length co45 : Value).ownBlock)) (by (with_reducible repeat (first | apply Kd.R_alloc | apply Kd.R_drewN | apply Kd.R_drew)); exact HO_196002.out) hg hat); have n3_ := Aside0.mk (Kd.R_after (ok := (fun k_ => some k_ ≠ (.slice Ao24 t177.length co24 : Value).ownBlock ∧ some k_ ≠ (.slice Ao25 t180.length co25 : Value).ownBlock ∧ some k_ ≠ (.slice Ao44 t188.length co44 : Value).ownBlock)) (by (with_reducible repeat (first | apply Kd.R_alloc | apply Kd.R_drewN | apply Kd.R_drew)); exact HO_196003.out) hg hat); have n4_ := Aside0.mk (blk_grown (g := gb162) (o := .cells #[.string a0_0, .int .i64 a0_1, .slice A0_2 l0_2.length c0_2, .slice A0_3 l0_3.length c0_3] 24 (0, 0)) (bk BK162) hg (Kd.R_ne HO200.out BK162.out (by decide))); have n5_ := Aside0.mk (blk_grown (g := gb184) (o := .cells #[.string t175, .int .i64 t176, .slice Ao24 t177.length co24, .slice Ao25 t180.length co25] 24 (0, 0)) (bk BK184) hg (Kd.R_ne HO200.out BK184.out (by decide))); have n6_ := Aside0.mk (blk_grown (g := gb195) (o := .cells #[.string t186, .int .i64 t187, .slice Ao44 t188.length co44, .slice Ao45 t191.length co45] 24 (0, 0)) (bk BK195) hg (Kd.R_ne HO200.out BK195.out (by decide))); have n7_ := Aside0.mk (blk_grown (g := gb197) (o := .cells #[.string a0_0, .int .i64 a0_1, .slice none 0 0, .slice none 0 0] 24 (0, 0)) (bk BK197) hg (Kd.R_ne HO200.out BK197.out (by decide))); have n8_ := Aside0.mk (hb); have n9_ := Aside0.mk (ho); clear HO_185002; clear HO_185003; clear HO_196002; clear HO_196003; clear BK162; clear BK184; clear BK195; clear BK197; clear HB; clear HO200; have HO_185002 := n0_; have HO_185003 := n1_; have HO_196002 := n2_; have HO_196003 := n3_; have BK162 := n4_; have BK184 := n5_; have BK195 := n6_; have BK197 := n7_; have HB := n8_; have HO203 := n9_; clear n0_ n1_ n2_ n3_ n4_ n5_ n6_ n7_ n8_ n9_; clear ho hb hg hat; obtain ⟨Ao68, co68, eo68⟩ := Kd.R_slice HO203.out; subst eo68; obtain ⟨hcz69_0, hcz69_1, hcz69_2, hcz69_3, hfz69_0, hfz69_1, hfz69_2, hfz69_3⟩ := bc4 BK197; obtain ⟨hcz70_0, hcz70_1, hcz70_2, hcz70_3, hfz70_0, hfz70_1, hfz70_2, hfz70_3⟩ := bc4 BK162) | ((with_reducible refine gate_builtin (b := .append) (xs := #[.tmp 83, .tmp 85]) rfl ?_); (try (refine gate_guard (by rfl) ?_; dsimp only)); at_builtin; refine Kd.R_append_rows (Kd.int .i64) (w0 := w) w.heap.size rfl (.tmp 83) (.tmp 85) 22 3 (.int .i64 0) 8 rfl Try.underlying22 info3 rfl (by decide) (by omega) (.slice none 0 0) ([] : List Int) l0_3 _ _ _ (fun k_ => some k_ ≠ (.slice Ao24 t177.length co24 : Value).ownBlock ∧ some k_ ≠ (.slice Ao25 t180.length co25 : Value).ownBlock ∧ some k_ ≠ (.slice Ao44 t188.length co44 : Value).ownBlock ∧ some k_ ≠ (.slice Ao45 t191.length co45 : Value).ownBlock ∧ some k_ ≠ (.slice Ao68 y201.length co68 : Value).ownBlock) (fun _ => False) rfl rfl ?aO ?aR (fun _ _ h => h) (fun _ h => h.elim) ?aF ?aB ?aS ?aL ?_; (case aR => exact Kd.C_below HR0_3.out be); (case aB => exact be); (case aF => exact (fun k_ hk => ⟨Kd.fresh' (Kd.R_lt (by (with_reducible repeat (first | apply Kd.R_alloc | apply Kd.R_drewN | apply Kd.R_drew)); exact (Kd.R_mono (Kd.R_far (p := ⟨gb197, 2, none⟩) (Kd.R_types HO_185002.out BK197.out (by decide)) (fun _ hk => hk.2) (.slice Ao68 y201.length co68)) (fun _ h_ => h_.1)))) k_ hk, Kd.fresh' (Kd.R_lt (by (with_reducible repeat (first | apply Kd.R_alloc | apply Kd.R_drewN | apply Kd.R_drew)); exact (Kd.R_mono (Kd.R_far (p := ⟨gb197, 2, none⟩) (Kd.R_types HO_185003.out BK197.out (by decide)) (fun _ hk => hk.2) (.slice Ao68 y201.length co68)) (fun _ h_ => h_.1)))) k_ hk, Kd.fresh' (Kd.R_lt (by (with_reducible repeat (first | apply Kd.R_alloc | apply Kd.R_drewN | apply Kd.R_drew)); exact (Kd.R_mono (Kd.R_far (p := ⟨gb197, 2, none⟩) (Kd.R_types HO_196002.out BK197.out (by decide)) (fun _ hk => hk.2) (.slice Ao68 y201.length co68)) (fun _ h_ => h_.1)))) k_ hk, Kd.fresh' (Kd.R_lt (by (with_reducible repeat (first | apply Kd.R_alloc | apply Kd.R_drewN | apply Kd.R_drew)); exact (Kd.R_mono (Kd.R_far (p := ⟨gb197, 2, none⟩) (Kd.R_types HO_196003.out BK197.out (by decide)) (fun _ hk => hk.2) (.slice Ao68 y201.length co68)) (fun _ h_ => h_.1)))) k_ hk, Kd.fresh' (Kd.R_lt (by (with_reducible repeat (first | apply Kd.R_alloc | apply Kd.R_drewN | apply Kd.R_drew)); exact (Kd.R_mono (Kd.R_far (p := ⟨gb197, 2, none⟩) (Kd.R_types HO203.out BK197.out (by decide)) (fun _ hk => hk.2) (.slice Ao68 y201.length co68)) (fun _ h_ => h_.1)))) k_ hk⟩)); (case aO => exact ((Kd.R_nil _ _ _ _ (fun k_ => some k_ ≠ (.slice Ao24 t177.length co24 : Value).ownBlock ∧ some k_ ≠ (.slice Ao25 t180.length co25 : Value).ownBlock ∧ some k_ ≠ (.slice Ao44 t188.length co44 : Value).ownBlock ∧ some k_ ≠ (.slice Ao45 t191.length co45 : Value).ownBlock ∧ some k_ ≠ (.slice Ao68 y201.length co68 : Value).ownBlock)))); (case aS => exact (below_size be)); (case aL => have := LMc54.out; omega); intro v205 w71 ho hb hg hat; rw [← Ny204.out] at ho; have n0_ := Aside0.mk (Kd.R_after (Kd.R_apart_nil (by (with_reducible repeat (first | apply Kd.R_alloc | apply Kd.R_drewN | apply Kd.R_drew)); exact (Kd.R_mono (Kd.R_far (p := ⟨gb197, 2, none⟩) (Kd.R_types HO_185002.out BK197.out (by decide)) (fun _ hk => hk.2) (.slice Ao68 y201.length co68)) (fun _ h_ => h_.1)))) hg hat); have n1_ := Aside0.mk (Kd.R_after (Kd.R_apart_nil (by (with_reducible repeat (first | apply Kd.R_alloc | apply Kd.R_drewN | apply Kd.R_drew)); exact (Kd.R_mono (Kd.R_far (p := ⟨gb197, 2, none⟩) (Kd.R_types HO_185003.out BK197.out (by decide)) (fun _ hk => hk.2) (.slice Ao68 y201.length co68)) (fun _ h_ => h_.1)))) hg hat); have n2_ := Aside0.mk (Kd.R_after (Kd.R_apart_nil (by (with_reducible repeat (first | apply Kd.R_alloc | apply Kd.R_drewN | apply Kd.R_drew)); exact (Kd.R_mono (Kd.R_far (p := ⟨gb197, 2, none⟩) (Kd.R_types HO_196002.out BK197.out (by decide)) (fun _ hk => hk.2) (.slice Ao68 y201.length co68)) (fun _ h_ => h_.1)))) hg hat); have n3_ := Aside0.mk (Kd.R_after (Kd.R_apart_nil (by (with_reducible repeat (first | apply Kd.R_alloc | apply Kd.R_drewN | apply Kd.R_drew)); exact (Kd.R_mono (Kd.R_far (p := ⟨gb197, 2, none⟩) (Kd.R_types HO_196003.out BK197.out (by decide)) (fun _ hk => hk.2) (.slice Ao68 y201.length co68)) (fun _ h_ => h_.1)))) hg hat); have n4_ := Aside0.mk (blk_grown (g := gb162) (o := .cells #[.string a0_0, .int .i64 a0_1, .slice A0_2 l0_2.length c0_2, .slice A0_3 l0_3.length c0_3] 24 (0, 0)) (bk BK162) hg (by simp [Value.ownBlock])); have n5_ := Aside0.mk (blk_grown (g := gb184) (o := .cells #[.string t175, .int .i64 t176, .slice Ao24 t177.length co24, .slice Ao25 t180.length co25] 24 (0, 0)) (bk BK184) hg (by simp [Value.ownBlock])); have n6_ := Aside0.mk (blk_grown (g := gb195) (o := .cells #[.string t186, .int .i64 t187, .slice Ao44 t188.length co44, .slice Ao45 t191.length co45] 24 (0, 0)) (bk BK195) hg (by simp [Value.ownBlock])); have n7_ := Aside0.mk (blk_grown (g := gb197) (o := .cells #[.string a0_0, .int .i64 a0_1, .slice Ao68 y201.length co68, .slice none 0 0] 24 (0, 0)) (bk BK197) hg (by simp [Value.ownBlock])); have n8_ := Aside0.mk (Kd.R_after (Kd.R_apart_nil (by (with_reducible repeat (first | apply Kd.R_alloc | apply Kd.R_drewN | apply Kd.R_drew)); exact (Kd.R_mono (Kd.R_far (p := ⟨gb197, 2, none⟩) (Kd.R_types HO203.out BK197.out (by decide)) (fun _ hk => hk.2) (.slice Ao68 y201.length co68)) (fun _ h_ => h_.1)))) hg hat); have n9_ := Aside0.mk (hb); have n10_ := Aside0.mk (ho); clear HO_185002; clear HO_185003; clear HO_196002; clear HO_196003; clear BK162; clear BK184; clear BK195; clear BK197; clear HO203; clear HB; have HO_185002 := n0_; have HO_185003 := n1_; have HO_196002 := n2_; have HO_196003 := n3_; have BK162 := n4_; have BK184 := n5_; have BK195 := n6_; have BK197 := n7_; have HO203 := n8_; have HB := n9_; have HO206 := n10_; clear n0_ n1_ n2_ n3_ n4_ n5_ n6_ n7_ n8_ n9_ n10_; clear ho hb hg hat) | ((with_reducible refine gate_builtin (b := .append) (xs := #[.tmp 86, .tmp 87]) rfl ?_); (try (refine gate_guard (by rfl) ?_; dsimp only)); at_builtin; refine Kd.R_append_rows (Kd.int .i64) (w0 := w) w.heap.size rfl (.tmp 86) (.tmp 87) 22 3 (.int .i64 0) 8 rfl Try.underlying22 info3 rfl (by decide) (by omega) v205 y204 l1 _ _ _ (fun k_ => some k_ ≠ (.slice Ao24 t177.length co24 : Value).ownBlock ∧ some k_ ≠ (.slice Ao25 t180.length co25 : Value).ownBlock ∧ some k_ ≠ (.slice Ao44 t188.length co44 : Value).ownBlock ∧ some k_ ≠ (.slice Ao45 t191.length co45 : Value).ownBlock ∧ some k_ ≠ (.slice Ao68 y201.length co68 : Value).ownBlock) (fun _ => False) rfl rfl ?aO ?aR (fun _ _ h => h) (fun _ h => h.elim) ?aF ?aB ?aS ?aL ?_; (case aR => exact kc (Kd.C_below HR1.out HB.out)); (case aB => exact be); (case aF => exact (fun k_ hk => ⟨Kd.fresh' (Kd.R_lt (by (with_reducible repeat (first | apply Kd.R_alloc | apply Kd.R_drewN | apply Kd.R_drew)); exact HO_185002.out)) k_ hk, Kd.fresh' (Kd.R_lt (by (with_reducible repeat (first | apply Kd.R_alloc | apply Kd.R_drewN | apply Kd.R_drew)); exact HO_185003.out)) k_ hk, Kd.fresh' (Kd.R_lt (by (with_reducible repeat (first | apply Kd.R_alloc | apply Kd.R_drewN | apply Kd.R_drew)); exact HO_196002.out)) k_ hk, Kd.fresh' (Kd.R_lt (by (with_reducible repeat (first | apply Kd.R_alloc | apply Kd.R_drewN | apply Kd.R_drew)); exact HO_196003.out)) k_ hk, Kd.fresh' (Kd.R_lt (by (with_reducible repeat (first | apply Kd.R_alloc | apply Kd.R_drewN | apply Kd.R_drew)); exact HO203.out)) k_ hk⟩)); (case aO => exact (by (with_reducible repeat (first | apply Kd.R_alloc | apply Kd.R_drewN | apply Kd.R_drew)); exact HO206.out)); (case aS => exact (below_size be)); (case aL => have := LMc55.out; omega); intro v208 w72 ho hb hg hat; rw [← Ny207.out] at ho; have n0_ := Aside0.mk (Kd.R_after (ok := (fun k_ => some k_ ≠ (.slice Ao25 t180.length co25 : Value).ownBlock ∧ some k_ ≠ (.slice Ao44 t188.length co44 : Value).ownBlock ∧ some k_ ≠ (.slice Ao45 t191.length co45 : Value).ownBlock ∧ some k_ ≠ (.slice Ao68 y201.length co68 : Value).ownBlock)) (by (with_reducible repeat (first | apply Kd.R_alloc | apply Kd.R_drewN | apply Kd.R_drew)); exact Kd.R_mono HO_185002.out (fun _ hk => ⟨⟨hk.1.1.1, ⟨hk.1.1.2.1, ⟨hk.1.1.2.2, hk.1.2⟩⟩⟩, hk.2⟩)) hg hat); have n1_ := Aside0.mk (Kd.R_after (ok := (fun k_ => some k_ ≠ (.slice Ao24 t177.length co24 : Value).ownBlock ∧ some k_ ≠ (.slice Ao44 t188.length co44 : Value).ownBlock ∧ some k_ ≠ (.slice Ao45 t191.length co45 : Value).ownBlock ∧ some k_ ≠ (.slice Ao68 y201.length co68 : Value).ownBlock)) (by (with_reducible repeat (first | apply Kd.R_alloc | apply Kd.R_drewN | apply Kd.R_drew)); exact Kd.R_mono HO_185003.out (fun _ hk => ⟨⟨hk.1.1.1, ⟨hk.1.1.2.1, ⟨hk.1.1.2.2, hk.1.2⟩⟩⟩, hk.2⟩)) hg hat); have n2_ := Aside0.mk (Kd.R_after (ok := (fun k_ => some k_ ≠ (.slice Ao24 t177.length co24 : Value).ownBlock ∧ some k_ ≠ (.slice Ao25 t180.length co25 : Value).ownBlock ∧ some k_ ≠ (.slice Ao45 t191.length co45 : Value).ownBlock ∧ some k_ ≠ (.slice Ao68 y201.length co68 : Value).ownBlock)) (by (with_reducible repeat (first | apply Kd.R_alloc | apply Kd.R_drewN | apply Kd.R_drew)); exact Kd.R_mono HO_196002.out (fun _ hk => ⟨⟨hk.1.1.1, ⟨hk.1.1.2.1, ⟨hk.1.1.2.2, hk.1.2⟩⟩⟩, hk.2⟩)) hg hat); have n3_ := Aside0.mk (Kd.R_after (ok := (fun k_ => some k_ ≠ (.slice Ao24 t177.length co24 : Value).ownBlock ∧ some k_ ≠ (.slice Ao25 t180.length co25 : Value).ownBlock ∧ some k_ ≠ (.slice Ao44 t188.length co44 : Value).ownBlock ∧ some k_ ≠ (.slice Ao68 y201.length co68 : Value).ownBlock)) (by (with_reducible repeat (first | apply Kd.R_alloc | apply Kd.R_drewN | apply Kd.R_drew)); exact Kd.R_mono HO_196003.out (fun _ hk => ⟨⟨hk.1.1.1, ⟨hk.1.1.2.1, ⟨hk.1.1.2.2, hk.1.2⟩⟩⟩, hk.2⟩)) hg hat); have n4_ := Aside0.mk (blk_grown (g := gb162) (o := .cells #[.string a0_0, .int .i64 a0_1, .slice A0_2 l0_2.length c0_2, .slice A0_3 l0_3.length c0_3] 24 (0, 0)) (bk BK162) hg (Kd.R_ne HO206.out BK162.out (by decide))); have n5_ := Aside0.mk (blk_grown (g := gb184) (o := .cells #[.string t175, .int .i64 t176, .slice Ao24 t177.length co24, .slice Ao25 t180.length co25] 24 (0, 0)) (bk BK184) hg (Kd.R_ne HO206.out BK184.out (by decide))); have n6_ := Aside0.mk (blk_grown (g := gb195) (o := .cells #[.string t186, .int .i64 t187, .slice Ao44 t188.length co44, .slice Ao45 t191.length co45] 24 (0, 0)) (bk BK195) hg (Kd.R_ne HO206.out BK195.out (by decide))); have n7_ := Aside0.mk (blk_grown (g := gb197) (o := .cells #[.string a0_0, .int .i64 a0_1, .slice Ao68 y201.length co68, .slice none 0 0] 24 (0, 0)) (bk BK197) hg (Kd.R_ne HO206.out BK197.out (by decide))); have n8_ := Aside0.mk (Kd.R_after (ok := (fun k_ => some k_ ≠ (.slice Ao24 t177.length co24 : Value).ownBlock ∧ some k_ ≠ (.slice Ao25 t180.length co25 : Value).ownBlock ∧ some k_ ≠ (.slice Ao44 t188.length co44 : Value).ownBlock ∧ some k_ ≠ (.slice Ao45 t191.length co45 : Value).ownBlock)) (by (with_reducible repeat (first | apply Kd.R_alloc | apply Kd.R_drewN | apply Kd.R_drew)); exact HO203.out) hg hat); have n9_ := Aside0.mk (hb); have n10_ := Aside0.mk (ho); clear HO_185002; clear HO_185003; clear HO_196002; clear HO_196003; clear BK162; clear BK184; clear BK195; clear BK197; clear HO203; clear HB; clear HO206; have HO_185002 := n0_; have HO_185003 := n1_; have HO_196002 := n2_; have HO_196003 := n3_; have BK162 := n4_; have BK184 := n5_; have BK195 := n6_; have BK197 := n7_; have HO203 := n8_; have HB := n9_; have HO209 := n10_; clear n0_ n1_ n2_ n3_ n4_ n5_ n6_ n7_ n8_ n9_ n10_; clear ho hb hg hat; obtain ⟨Ao73, co73, eo73⟩ := Kd.R_slice HO209.out; subst eo73; obtain ⟨hcz74_0, hcz74_1, hcz74_2, hcz74_3, hfz74_0, hfz74_1, hfz74_2, hfz74_3⟩ := bc4 BK197))
                (try simp only [Act.put, List.setIfInBounds_toArray, List.set_cons_zero, List.set_cons_succ])
                go_cut [11] (fun v11 wc => ∃ (kq : Nat) (x11_55 : Int), v11 = .int .i64 x11_55 ∧ Aside0 (ephemerislaw1_ObservedExtends.j4 kq t194 x11_55 t186 t187 t188 t191 a0_0 a0_1 y201 y207 = some r) ∧ Aside0 (kq ≤ kj49) ∧ Aside0 (Kd.R (Kd.int .i64) 3 wc w.heap.size (fun k_ => some k_ ≠ ((.slice Ao25 t180.length co25) : Value).ownBlock ∧ some k_ ≠ ((.slice Ao44 t188.length co44) : Value).ownBlock ∧ some k_ ≠ ((.slice Ao45 t191.length co45) : Value).ownBlock ∧ some k_ ≠ ((.slice Ao68 y201.length co68) : Value).ownBlock ∧ some k_ ≠ ((.slice Ao73 y207.length co73) : Value).ownBlock) (.slice Ao24 t177.length co24) t177) ∧ Aside0 (Kd.R (Kd.int .i64) 3 wc w.heap.size (fun k_ => some k_ ≠ ((.slice Ao24 t177.length co24) : Value).ownBlock ∧ some k_ ≠ ((.slice Ao44 t188.length co44) : Value).ownBlock ∧ some k_ ≠ ((.slice Ao45 t191.length co45) : Value).ownBlock ∧ some k_ ≠ ((.slice Ao68 y201.length co68) : Value).ownBlock ∧ some k_ ≠ ((.slice Ao73 y207.length co73) : Value).ownBlock) (.slice Ao25 t180.length co25) t180) ∧ Aside0 (Kd.R (Kd.int .i64) 3 wc w.heap.size (fun k_ => some k_ ≠ ((.slice Ao24 t177.length co24) : Value).ownBlock ∧ some k_ ≠ ((.slice Ao25 t180.length co25) : Value).ownBlock ∧ some k_ ≠ ((.slice Ao45 t191.length co45) : Value).ownBlock ∧ some k_ ≠ ((.slice Ao68 y201.length co68) : Value).ownBlock ∧ some k_ ≠ ((.slice Ao73 y207.length co73) : Value).ownBlock) (.slice Ao44 t188.length co44) t188) ∧ Aside0 (Kd.R (Kd.int .i64) 3 wc w.heap.size (fun k_ => some k_ ≠ ((.slice Ao24 t177.length co24) : Value).ownBlock ∧ some k_ ≠ ((.slice Ao25 t180.length co25) : Value).ownBlock ∧ some k_ ≠ ((.slice Ao44 t188.length co44) : Value).ownBlock ∧ some k_ ≠ ((.slice Ao68 y201.length co68) : Value).ownBlock ∧ some k_ ≠ ((.slice Ao73 y207.length co73) : Value).ownBlock) (.slice Ao45 t191.length co45) t191) ∧ Aside0 (Kd.R (Kd.int .i64) 3 wc w.heap.size (fun k_ => some k_ ≠ ((.slice Ao24 t177.length co24) : Value).ownBlock ∧ some k_ ≠ ((.slice Ao25 t180.length co25) : Value).ownBlock ∧ some k_ ≠ ((.slice Ao44 t188.length co44) : Value).ownBlock ∧ some k_ ≠ ((.slice Ao45 t191.length co45) : Value).ownBlock ∧ some k_ ≠ ((.slice Ao73 y207.length co73) : Value).ownBlock) (.slice Ao68 y201.length co68) y201) ∧ Aside0 (Kd.R (Kd.int .i64) 3 wc w.heap.size (fun k_ => some k_ ≠ ((.slice Ao24 t177.length co24) : Value).ownBlock ∧ some k_ ≠ ((.slice Ao25 t180.length co25) : Value).ownBlock ∧ some k_ ≠ ((.slice Ao44 t188.length co44) : Value).ownBlock ∧ some k_ ≠ ((.slice Ao45 t191.length co45) : Value).ownBlock ∧ some k_ ≠ ((.slice Ao68 y201.length co68) : Value).ownBlock) (.slice Ao73 y207.length co73) y207) ∧ Aside0 (wc.heap[gb162]? = some (.cells #[.string a0_0, .int .i64 a0_1, (.slice A0_2 l0_2.length c0_2), (.slice A0_3 l0_3.length c0_3)] 24 (0, 0))) ∧ Aside0 (wc.heap[gb184]? = some (.cells #[.string t175, .int .i64 t176, (.slice Ao24 t177.length co24), (.slice Ao25 t180.length co25)] 24 (0, 0))) ∧ Aside0 (wc.heap[gb195]? = some (.cells #[.string t186, .int .i64 t187, (.slice Ao44 t188.length co44), (.slice Ao45 t191.length co45)] 24 (0, 0))) ∧ Aside0 (wc.heap[gb197]? = some (.cells #[.string a0_0, .int .i64 a0_1, (.slice Ao68 y201.length co68), (.slice Ao73 y207.length co73)] 24 (0, 0))) ∧ Aside0 (Below w.heap.size w wc))
                case first =>
                 have H := HC56.out
                 clear HC56
                 by_cases c75 : x11_49 = 0
                 ·rw [if_pos c75] at H
                  have c75b0 : (x11_49 == 0) = true := beq_iff_eq.mpr c75
                  have c75b1 : (x11_49 != 0) = false := bne_eq_false_iff_eq.mpr c75
                  clear c75
                  (first | rw [c75b0] | (simp only [i64_w, i32_w]; rw [c75b0]) | skip)
                  replace H := Option.bind_eq_some_iff.mp H
                  obtain ⟨t210, A760, H⟩ := H
                  replace H : (ephemerislaw1_ObservedExtends.j4 kj49 t194 t210 t186 t187 t188 t191 a0_0 a0_1 y201 y207) = some r := H
                  have A76 := Aside0.mk A760
                  clear A760
                  have H' := Aside0.mk H
                  clear H
                  have hnb77 := NB197_162.out
                  have hnc77 := NB162_197.out
                  have hnb78 := NB197_184.out
                  have hnc78 := NB184_197.out
                  have hnb79 := NB197_195.out
                  have hnc79 := NB195_197.out
                  obtain ⟨hcz80_0, hcz80_1, hcz80_2, hcz80_3, hfz80_0, hfz80_1, hfz80_2, hfz80_3⟩ := bc4 BK197
                  go_wp2_with (first | ((with_reducible refine gate_callee (f := 12) rfl ?_); refine goesL_ (some 93) rfl rfl Try.func12 kx rfl #[.agg #[.string a0_0, .int .i64 a0_1, .slice Ao68 y201.length co68, .slice Ao73 y207.length co73]] rfl aa ?_; (with_reducible refine (ephemerisref1_TableError.calls kj49 a0_0 a0_1 _ _ y201 _ _ y207 t210 _ ?side1 ?side2 ?side3 ?side4 A76.out).mono ?_); (case side1 => refine (Kd.R_reads' (e := 3) (base := w.heap.size) (ok := fun k_ => ((some k_ ≠ (.slice Ao24 t177.length co24 : Value).ownBlock ∧ (some k_ ≠ (.slice Ao25 t180.length co25 : Value).ownBlock ∧ (some k_ ≠ (.slice Ao44 t188.length co44 : Value).ownBlock ∧ some k_ ≠ (.slice Ao45 t191.length co45 : Value).ownBlock))) ∧ some k_ ≠ (.slice Ao73 y207.length co73 : Value).ownBlock)) (n := y201.length) (c := co68) ?_).2.2; exact (by (with_reducible repeat (first | apply Kd.R_alloc | apply Kd.R_drewN | apply Kd.R_drew)); exact (Kd.R_mono (Kd.R_far (p := ⟨gb197, 3, none⟩) (Kd.R_types HO203.out BK197.out (by decide)) (fun _ hk => hk.2) (.slice Ao73 y207.length co73)) (fun _ h_ => h_.1)))); (case side2 => exact (Kd.R_reads' HO203.out).2.1); (case side3 => refine (Kd.R_reads' (e := 3) (base := w.heap.size) (ok := fun k_ => (some k_ ≠ (.slice Ao24 t177.length co24 : Value).ownBlock ∧ (some k_ ≠ (.slice Ao25 t180.length co25 : Value).ownBlock ∧ (some k_ ≠ (.slice Ao44 t188.length co44 : Value).ownBlock ∧ (some k_ ≠ (.slice Ao45 t191.length co45 : Value).ownBlock ∧ some k_ ≠ (.slice Ao68 y201.length co68 : Value).ownBlock))))) (n := y207.length) (c := co73) ?_).2.2; exact (by (with_reducible repeat (first | apply Kd.R_alloc | apply Kd.R_drewN | apply Kd.R_drew)); exact (Kd.R_mono (Kd.R_far (p := ⟨gb197, 3, none⟩) (Kd.R_types HO209.out BK197.out (by decide)) (fun _ hk => hk.2) (.slice Ao73 y207.length co73)) (fun _ h_ => h_.1)))); (case side4 => exact (Kd.R_reads' HO209.out).2.1); rintro e w81 ⟨rfl, hb⟩; refine ⟨_, rfl, ?_⟩; have n0_ := Aside0.mk (Kd.R_below (by (with_reducible repeat (first | apply Kd.R_alloc | apply Kd.R_drewN | apply Kd.R_drew)); exact (Kd.R_mono (Kd.R_far (p := ⟨gb197, 3, none⟩) (Kd.R_types HO_185002.out BK197.out (by decide)) (fun _ hk => hk.2) (.slice Ao73 y207.length co73)) (fun _ h_ => h_.1))) hb); have n1_ := Aside0.mk (Kd.R_below (by (with_reducible repeat (first | apply Kd.R_alloc | apply Kd.R_drewN | apply Kd.R_drew)); exact (Kd.R_mono (Kd.R_far (p := ⟨gb197, 3, none⟩) (Kd.R_types HO_185003.out BK197.out (by decide)) (fun _ hk => hk.2) (.slice Ao73 y207.length co73)) (fun _ h_ => h_.1))) hb); have n2_ := Aside0.mk (Kd.R_below (by (with_reducible repeat (first | apply Kd.R_alloc | apply Kd.R_drewN | apply Kd.R_drew)); exact (Kd.R_mono (Kd.R_far (p := ⟨gb197, 3, none⟩) (Kd.R_types HO_196002.out BK197.out (by decide)) (fun _ hk => hk.2) (.slice Ao73 y207.length co73)) (fun _ h_ => h_.1))) hb); have n3_ := Aside0.mk (Kd.R_below (by (with_reducible repeat (first | apply Kd.R_alloc | apply Kd.R_drewN | apply Kd.R_drew)); exact (Kd.R_mono (Kd.R_far (p := ⟨gb197, 3, none⟩) (Kd.R_types HO_196003.out BK197.out (by decide)) (fun _ hk => hk.2) (.slice Ao73 y207.length co73)) (fun _ h_ => h_.1))) hb); have n4_ := Aside0.mk (Kd.R_below (by (with_reducible repeat (first | apply Kd.R_alloc | apply Kd.R_drewN | apply Kd.R_drew)); exact (Kd.R_mono (Kd.R_far (p := ⟨gb197, 3, none⟩) (Kd.R_types HO203.out BK197.out (by decide)) (fun _ hk => hk.2) (.slice Ao73 y207.length co73)) (fun _ h_ => h_.1))) hb); have n5_ := Aside0.mk (Kd.R_below (by (with_reducible repeat (first | apply Kd.R_alloc | apply Kd.R_drewN | apply Kd.R_drew)); exact (Kd.R_mono (Kd.R_far (p := ⟨gb197, 3, none⟩) (Kd.R_types HO209.out BK197.out (by decide)) (fun _ hk => hk.2) (.slice Ao73 y207.length co73)) (fun _ h_ => h_.1))) hb); have n6_ := bb BK162 hb; have n7_ := bb BK184 hb; have n8_ := bb BK195 hb; have n9_ := Aside0.mk (blk_below (g := gb197) (o := .cells #[.string a0_0, .int .i64 a0_1, .slice Ao68 y201.length co68, .slice Ao73 y207.length co73] 24 (0, 0)) (bk BK197) hb); have n10_ := Aside0.mk (below_step be hb); clear HO_185002; clear HO_185003; clear HO_196002; clear HO_196003; clear HO203; clear HO209; clear BK162; clear BK184; clear BK195; clear BK197; clear HB; have HO_185002 := n0_; have HO_185003 := n1_; have HO_196002 := n2_; have HO_196003 := n3_; have HO203 := n4_; have HO209 := n5_; have BK162 := n6_; have BK184 := n7_; have BK195 := n8_; have BK197 := n9_; have HB := n10_; clear n0_ n1_ n2_ n3_ n4_ n5_ n6_ n7_ n8_ n9_ n10_; (try clear hb); (try clear hb2); (try clear hk); (try clear hi)))
                  go_meet
                  case rel => exact ⟨_, (t210), rs, H', ⟨by have := HK1.out; have := HJ15.out; have := HJ35.out; have := HJ49.out; first | omega | exact Nat.le_refl _⟩, ⟨by (try simp only [hl5_1]); (with_reducible repeat (first | apply Kd.R_alloc | apply Kd.R_drewN | apply Kd.R_drew)); exact Kd.R_mono HO_185002.out (fun _ hk => ⟨hk.1.1, ⟨hk.1.2.1, ⟨hk.1.2.2.1, ⟨hk.1.2.2.2, hk.2⟩⟩⟩⟩)⟩, ⟨by (try simp only [hl5_1]); (with_reducible repeat (first | apply Kd.R_alloc | apply Kd.R_drewN | apply Kd.R_drew)); exact Kd.R_mono HO_185003.out (fun _ hk => ⟨hk.1.1, ⟨hk.1.2.1, ⟨hk.1.2.2.1, ⟨hk.1.2.2.2, hk.2⟩⟩⟩⟩)⟩, ⟨by (try simp only [hl5_1]); (with_reducible repeat (first | apply Kd.R_alloc | apply Kd.R_drewN | apply Kd.R_drew)); exact Kd.R_mono HO_196002.out (fun _ hk => ⟨hk.1.1, ⟨hk.1.2.1, ⟨hk.1.2.2.1, ⟨hk.1.2.2.2, hk.2⟩⟩⟩⟩)⟩, ⟨by (try simp only [hl5_1]); (with_reducible repeat (first | apply Kd.R_alloc | apply Kd.R_drewN | apply Kd.R_drew)); exact Kd.R_mono HO_196003.out (fun _ hk => ⟨hk.1.1, ⟨hk.1.2.1, ⟨hk.1.2.2.1, ⟨hk.1.2.2.2, hk.2⟩⟩⟩⟩)⟩, ⟨by (try simp only [hl5_1]); (with_reducible repeat (first | apply Kd.R_alloc | apply Kd.R_drewN | apply Kd.R_drew)); exact Kd.R_mono HO203.out (fun _ hk => ⟨hk.1.1, ⟨hk.1.2.1, ⟨hk.1.2.2.1, ⟨hk.1.2.2.2, hk.2⟩⟩⟩⟩)⟩, ⟨by (try simp only [hl5_1]); (with_reducible repeat (first | apply Kd.R_alloc | apply Kd.R_drewN | apply Kd.R_drew)); exact HO209.out⟩, ⟨by (try simp only [hl5_1]); (with_reducible repeat (first | refine blk_drewN ?_ _ | refine blk_drew ?_ | refine blk_alloc ?_ _)); exact BK162.out⟩, ⟨by (try simp only [hl5_1]); (with_reducible repeat (first | refine blk_drewN ?_ _ | refine blk_drew ?_ | refine blk_alloc ?_ _)); exact BK184.out⟩, ⟨by (try simp only [hl5_1]); (with_reducible repeat (first | refine blk_drewN ?_ _ | refine blk_drew ?_ | refine blk_alloc ?_ _)); exact BK195.out⟩, ⟨by (try simp only [hl5_1]); (with_reducible repeat (first | refine blk_drewN ?_ _ | refine blk_drew ?_ | refine blk_alloc ?_ _)); exact BK197.out⟩, ⟨be⟩⟩
                 ·rw [if_neg c75] at H
                  have c75b0 : (x11_49 == 0) = false := beq_eq_false_iff_ne.mpr c75
                  have c75b1 : (x11_49 != 0) = true := bne_iff_ne.mpr c75
                  (first | rw [c75b0] | (simp only [i64_w, i32_w]; rw [c75b0]) | skip)
                  have H' := Aside0.mk H
                  clear H
                  go_wp2
                  go_meet
                  case rel => exact ⟨_, (x11_49), rs, H', ⟨by have := HK1.out; have := HJ15.out; have := HJ35.out; have := HJ49.out; first | omega | exact Nat.le_refl _⟩, ⟨by (try simp only [hl5_1]); (with_reducible repeat (first | apply Kd.R_alloc | apply Kd.R_drewN | apply Kd.R_drew)); exact Kd.R_mono (Kd.R_far (p := ⟨gb197, 3, none⟩) (Kd.R_types HO_185002.out BK197.out (by decide)) (fun _ hk => hk.2) (.slice Ao73 y207.length co73)) (fun _ hk => ⟨hk.1.1.1, ⟨hk.1.1.2.1, ⟨hk.1.1.2.2.1, ⟨hk.1.1.2.2.2, hk.1.2⟩⟩⟩⟩)⟩, ⟨by (try simp only [hl5_1]); (with_reducible repeat (first | apply Kd.R_alloc | apply Kd.R_drewN | apply Kd.R_drew)); exact Kd.R_mono (Kd.R_far (p := ⟨gb197, 3, none⟩) (Kd.R_types HO_185003.out BK197.out (by decide)) (fun _ hk => hk.2) (.slice Ao73 y207.length co73)) (fun _ hk => ⟨hk.1.1.1, ⟨hk.1.1.2.1, ⟨hk.1.1.2.2.1, ⟨hk.1.1.2.2.2, hk.1.2⟩⟩⟩⟩)⟩, ⟨by (try simp only [hl5_1]); (with_reducible repeat (first | apply Kd.R_alloc | apply Kd.R_drewN | apply Kd.R_drew)); exact Kd.R_mono (Kd.R_far (p := ⟨gb197, 3, none⟩) (Kd.R_types HO_196002.out BK197.out (by decide)) (fun _ hk => hk.2) (.slice Ao73 y207.length co73)) (fun _ hk => ⟨hk.1.1.1, ⟨hk.1.1.2.1, ⟨hk.1.1.2.2.1, ⟨hk.1.1.2.2.2, hk.1.2⟩⟩⟩⟩)⟩, ⟨by (try simp only [hl5_1]); (with_reducible repeat (first | apply Kd.R_alloc | apply Kd.R_drewN | apply Kd.R_drew)); exact Kd.R_mono (Kd.R_far (p := ⟨gb197, 3, none⟩) (Kd.R_types HO_196003.out BK197.out (by decide)) (fun _ hk => hk.2) (.slice Ao73 y207.length co73)) (fun _ hk => ⟨hk.1.1.1, ⟨hk.1.1.2.1, ⟨hk.1.1.2.2.1, ⟨hk.1.1.2.2.2, hk.1.2⟩⟩⟩⟩)⟩, ⟨by (try simp only [hl5_1]); (with_reducible repeat (first | apply Kd.R_alloc | apply Kd.R_drewN | apply Kd.R_drew)); exact Kd.R_mono (Kd.R_far (p := ⟨gb197, 3, none⟩) (Kd.R_types HO203.out BK197.out (by decide)) (fun _ hk => hk.2) (.slice Ao73 y207.length co73)) (fun _ hk => ⟨hk.1.1.1, ⟨hk.1.1.2.1, ⟨hk.1.1.2.2.1, ⟨hk.1.1.2.2.2, hk.1.2⟩⟩⟩⟩)⟩, ⟨by (try simp only [hl5_1]); (with_reducible repeat (first | apply Kd.R_alloc | apply Kd.R_drewN | apply Kd.R_drew)); exact Kd.R_mono (Kd.R_far (p := ⟨gb197, 3, none⟩) (Kd.R_types HO209.out BK197.out (by decide)) (fun _ hk => hk.2) (.slice Ao73 y207.length co73)) (fun _ hk => ⟨hk.1.1, ⟨hk.1.2.1, ⟨hk.1.2.2.1, ⟨hk.1.2.2.2.1, hk.1.2.2.2.2⟩⟩⟩⟩)⟩, ⟨by (try simp only [hl5_1]); (with_reducible repeat (first | refine blk_drewN ?_ _ | refine blk_drew ?_ | refine blk_alloc ?_ _)); refine blk_far ?_ NB162_197.out _; (with_reducible repeat (first | refine blk_drewN ?_ _ | refine blk_drew ?_ | refine blk_alloc ?_ _)); exact BK162.out⟩, ⟨by (try simp only [hl5_1]); (with_reducible repeat (first | refine blk_drewN ?_ _ | refine blk_drew ?_ | refine blk_alloc ?_ _)); refine blk_far ?_ NB184_197.out _; (with_reducible repeat (first | refine blk_drewN ?_ _ | refine blk_drew ?_ | refine blk_alloc ?_ _)); exact BK184.out⟩, ⟨by (try simp only [hl5_1]); (with_reducible repeat (first | refine blk_drewN ?_ _ | refine blk_drew ?_ | refine blk_alloc ?_ _)); refine blk_far ?_ NB195_197.out _; (with_reducible repeat (first | refine blk_drewN ?_ _ | refine blk_drew ?_ | refine blk_alloc ?_ _)); exact BK195.out⟩, ⟨by (try simp only [hl5_1]); (with_reducible repeat (first | refine blk_drewN ?_ _ | refine blk_drew ?_ | refine blk_alloc ?_ _)); refine blk_put (cs := #[.string a0_0, .int .i64 a0_1, .slice Ao68 y201.length co68, .slice none 0 0]) ?_ 3 _ rfl; (with_reducible repeat (first | refine blk_drewN ?_ _ | refine blk_drew ?_ | refine blk_alloc ?_ _)); exact BK197.out⟩, ⟨be⟩⟩
                case rest =>
                 clear HC56
                 (try clear c1); (try clear p1); (try clear q1); (try clear hx1); (try clear qi1); (try clear c2); (try clear p2); (try clear c3); (try clear c3b0); (try clear c3b1); (try clear c4); (try clear c5); (try clear c6); (try clear p6); (try clear c7); (try clear c8); (try clear c8b0); (try clear c9); (try clear c9b0); (try clear c10); (try clear c10b0); (try clear c11); (try clear p11); (try clear q11); (try clear hx11); (try clear hf11); (try clear c12); (try clear p18); (try clear q18); (try clear hx18); (try clear qi18); (try clear c22); (try clear c26); (try clear c26b0); (try clear c26b1); (try clear c27); (try clear c27b0); (try clear c27b1); (try clear c28); (try clear c28b0); (try clear c28b1); (try clear c29); (try clear c31); (try clear c33); (try clear c37); (try clear c41); (try clear c42); (try clear c48); (try clear c48b0); (try clear c48b1); (try clear c49); (try clear c49b0); (try clear c49b1); (try clear c51); (try clear c52); (try clear c53); (try clear c54); (try clear c55); (try clear c57); (try clear c58); (try clear c61); (try clear c62); (try clear c63); (try clear c75); (try clear c75b0); (try clear c75b1); (try clear c77); (try clear c78); (try clear c79); (try clear hcz23_0); (try clear hcz23_1); (try clear hcz23_2); (try clear hcz23_3); (try clear hcz30_0); (try clear hcz30_1); (try clear hcz30_2); (try clear hcz30_3); (try clear hcz32_0); (try clear hcz32_1); (try clear hcz32_2); (try clear hcz32_3); (try clear hcz38_0); (try clear hcz38_1); (try clear hcz38_2); (try clear hcz38_3); (try clear hcz43_0); (try clear hcz43_1); (try clear hcz43_2); (try clear hcz43_3); (try clear hcz46_0); (try clear hcz46_1); (try clear hcz46_2); (try clear hcz46_3); (try clear hcz59_0); (try clear hcz59_1); (try clear hcz59_2); (try clear hcz59_3); (try clear hcz64_0); (try clear hcz64_1); (try clear hcz64_2); (try clear hcz64_3); (try clear hcz65_0); (try clear hcz65_1); (try clear hcz65_2); (try clear hcz65_3); (try clear hcz69_0); (try clear hcz69_1); (try clear hcz69_2); (try clear hcz69_3); (try clear hcz70_0); (try clear hcz70_1); (try clear hcz70_2); (try clear hcz70_3); (try clear hcz74_0); (try clear hcz74_1); (try clear hcz74_2); (try clear hcz74_3); (try clear hcz80_0); (try clear hcz80_1); (try clear hcz80_2); (try clear hcz80_3); (try clear hfz23_0); (try clear hfz23_1); (try clear hfz23_2); (try clear hfz23_3); (try clear hfz30_0); (try clear hfz30_1); (try clear hfz30_2); (try clear hfz30_3); (try clear hfz32_0); (try clear hfz32_1); (try clear hfz32_2); (try clear hfz32_3); (try clear hfz38_0); (try clear hfz38_1); (try clear hfz38_2); (try clear hfz38_3); (try clear hfz43_0); (try clear hfz43_1); (try clear hfz43_2); (try clear hfz43_3); (try clear hfz46_0); (try clear hfz46_1); (try clear hfz46_2); (try clear hfz46_3); (try clear hfz59_0); (try clear hfz59_1); (try clear hfz59_2); (try clear hfz59_3); (try clear hfz64_0); (try clear hfz64_1); (try clear hfz64_2); (try clear hfz64_3); (try clear hfz65_0); (try clear hfz65_1); (try clear hfz65_2); (try clear hfz65_3); (try clear hfz69_0); (try clear hfz69_1); (try clear hfz69_2); (try clear hfz69_3); (try clear hfz70_0); (try clear hfz70_1); (try clear hfz70_2); (try clear hfz70_3); (try clear hfz74_0); (try clear hfz74_1); (try clear hfz74_2); (try clear hfz74_3); (try clear hfz80_0); (try clear hfz80_1); (try clear hfz80_2); (try clear hfz80_3); (try clear hx11_0); (try clear hx185_0); (try clear p1); (try clear p11); (try clear p18); (try clear p185); (try clear p2); (try clear p6); (try clear q1); (try clear q11); (try clear q18); (try clear q185)
                 obtain ⟨kq, x11_55, rfl, HA, HJ55, HO_185002, HO_185003, HO_196002, HO_196003, HO_198002, HO_198003, BK162, BK184, BK195, BK197, HB⟩ := hcut
                 cases kq with
                 | zero => exact absurd HA.out (by simp [ephemerislaw1_ObservedExtends.j4])
                 | succ kj55 =>
                  have H := HA.out
                  clear HA
                  simp only [ephemerislaw1_ObservedExtends.j4] at H
                  by_cases c82 : x11_55 = 0
                  ·rw [if_pos c82] at H
                   have c82b0 : (x11_55 == 0) = true := beq_iff_eq.mpr c82
                   have c82b1 : (x11_55 != 0) = false := bne_eq_false_iff_eq.mpr c82
                   clear c82
                   by_cases c83 : t194 = 0
                   ·rw [if_pos c83] at H
                    have c83b0 : (t194 == 0) = true := beq_iff_eq.mpr c83
                    have c83b1 : (t194 != 0) = false := bne_eq_false_iff_eq.mpr c83
                    clear c83
                    replace H := Option.bind_eq_some_iff.mp H
                    obtain ⟨t211, A840, H⟩ := H
                    replace H : (some t211) = some r := H
                    have A84 := Aside0.mk A840
                    clear A840
                    obtain rfl := Option.some.inj H
                    have hnb85 := NB195_162.out
                    have hnc85 := NB162_195.out
                    have hnb86 := NB195_184.out
                    have hnc86 := NB184_195.out
                    have hnb87 := NB195_197.out
                    have hnc87 := NB197_195.out
                    obtain ⟨hcz88_0, hcz88_1, hcz88_2, hcz88_3, hfz88_0, hfz88_1, hfz88_2, hfz88_3⟩ := bc4 BK195
                    have hnb89 := NB197_162.out
                    have hnc89 := NB162_197.out
                    have hnb90 := NB197_184.out
                    have hnc90 := NB184_197.out
                    obtain ⟨hcz91_0, hcz91_1, hcz91_2, hcz91_3, hfz91_0, hfz91_1, hfz91_2, hfz91_3⟩ := bc4 BK197
                    go_wp2_with (first | (go_at_call 13; (with_reducible refine (ephemerisref1_SameTable.calls kj55 t186 t187 _ _ t188 _ _ t191 a0_0 a0_1 _ _ y201 _ _ y207 t211 _ ?side1 ?side2 ?side3 ?side4 ?side5 ?side6 ?side7 ?side8 A84.out).mono ?_); (case side1 => repeat (first | exact (Kd.R_reads' HO_196002.out).2.2 | (with_reducible refine Kd.C_alloc ?_ _) | (with_reducible refine Kd.C_drewN ?_ _) | (with_reducible refine Kd.C_drew ?_))); (case side2 => exact (Kd.R_reads' HO_196002.out).2.1); (case side3 => repeat (first | exact (Kd.R_reads' HO_196003.out).2.2 | (with_reducible refine Kd.C_alloc ?_ _) | (with_reducible refine Kd.C_drewN ?_ _) | (with_reducible refine Kd.C_drew ?_))); (case side4 => exact (Kd.R_reads' HO_196003.out).2.1); (case side5 => repeat (first | exact (Kd.R_reads' HO_198002.out).2.2 | (with_reducible refine Kd.C_alloc ?_ _) | (with_reducible refine Kd.C_drewN ?_ _) | (with_reducible refine Kd.C_drew ?_))); (case side6 => exact (Kd.R_reads' HO_198002.out).2.1); (case side7 => repeat (first | exact (Kd.R_reads' HO_198003.out).2.2 | (with_reducible refine Kd.C_alloc ?_ _) | (with_reducible refine Kd.C_drewN ?_ _) | (with_reducible refine Kd.C_drew ?_))); (case side8 => exact (Kd.R_reads' HO_198003.out).2.1); rintro e w92 ⟨rfl, hb⟩; have n0_ := Aside0.mk (Kd.R_below (by (with_reducible repeat (first | apply Kd.R_alloc | apply Kd.R_drewN | apply Kd.R_drew)); exact HO_185002.out) hb); have n1_ := Aside0.mk (Kd.R_below (by (with_reducible repeat (first | apply Kd.R_alloc | apply Kd.R_drewN | apply Kd.R_drew)); exact HO_185003.out) hb); have n2_ := Aside0.mk (Kd.R_below (by (with_reducible repeat (first | apply Kd.R_alloc | apply Kd.R_drewN | apply Kd.R_drew)); exact HO_196002.out) hb); have n3_ := Aside0.mk (Kd.R_below (by (with_reducible repeat (first | apply Kd.R_alloc | apply Kd.R_drewN | apply Kd.R_drew)); exact HO_196003.out) hb); have n4_ := Aside0.mk (Kd.R_below (by (with_reducible repeat (first | apply Kd.R_alloc | apply Kd.R_drewN | apply Kd.R_drew)); exact HO_198002.out) hb); have n5_ := Aside0.mk (Kd.R_below (by (with_reducible repeat (first | apply Kd.R_alloc | apply Kd.R_drewN | apply Kd.R_drew)); exact HO_198003.out) hb); have n6_ := bb BK162 hb; have n7_ := bb BK184 hb; have n8_ := bb BK195 hb; have n9_ := bb BK197 hb; have n10_ := Aside0.mk (below_step be hb); clear HO_185002; clear HO_185003; clear HO_196002; clear HO_196003; clear HO_198002; clear HO_198003; clear BK162; clear BK184; clear BK195; clear BK197; clear HB; have HO_185002 := n0_; have HO_185003 := n1_; have HO_196002 := n2_; have HO_196003 := n3_; have HO_198002 := n4_; have HO_198003 := n5_; have BK162 := n6_; have BK184 := n7_; have BK195 := n8_; have BK197 := n9_; have HB := n10_; clear n0_ n1_ n2_ n3_ n4_ n5_ n6_ n7_ n8_ n9_ n10_; (try clear hb); (try clear hb2); (try clear hk); (try clear hi)))
                    go_ret
                    exact ⟨by first | rfl | (simp [errW_none, errW_some] <;> rfl) | (simp [*, errW_none, errW_some] <;> rfl), be⟩
                   ·rw [if_neg c83] at H
                    have c83b0 : (t194 == 0) = false := beq_eq_false_iff_ne.mpr c83
                    have c83b1 : (t194 != 0) = true := bne_iff_ne.mpr c83
                    obtain rfl := Option.some.inj H
                    go_wp2
                    go_ret
                    exact ⟨by first | rfl | (simp [errW_none, errW_some] <;> rfl) | (simp [*, errW_none, errW_some] <;> rfl), be⟩
                  ·rw [if_neg c82] at H
                   have c82b0 : (x11_55 == 0) = false := beq_eq_false_iff_ne.mpr c82
                   have c82b1 : (x11_55 != 0) = true := bne_iff_ne.mpr c82
                   replace H := Option.bind_eq_some_iff.mp H
                   obtain ⟨t212, A930, H⟩ := H
                   replace H : (if t212 = true then (some (t194 == x11_55)) else (some false)) = some r := H
                   have A93 := Aside0.mk A930
                   clear A930
                   by_cases c94 : t212 = true
                   ·subst c94
                    have H1 : (some (t194 == x11_55)) = some r := by rw [if_pos rfl] at H; exact H
                    clear H
                    have H := H1
                    clear H1
                    obtain rfl := Option.some.inj H
                    have hnb95 := NB195_162.out
                    have hnc95 := NB162_195.out
                    have hnb96 := NB195_184.out
                    have hnc96 := NB184_195.out
                    have hnb97 := NB195_197.out
                    have hnc97 := NB197_195.out
                    obtain ⟨hcz98_0, hcz98_1, hcz98_2, hcz98_3, hfz98_0, hfz98_1, hfz98_2, hfz98_3⟩ := bc4 BK195
                    go_wp2_with (first | ((with_reducible refine gate_callee (f := 13) rfl ?_); refine goesL_ (some 98) rfl rfl Try.func13 kx rfl #[.agg #[.string t186, .int .i64 t187, .slice Ao44 t188.length co44, .slice Ao45 t191.length co45], .agg #[.string (⟨#[]⟩ : ByteArray), .int .i64 0, .slice none 0 0, .slice none 0 0]] rfl aa ?_; (refine (ephemerisref1_SameTable.calls kj55 t186 t187 _ _ t188 _ _ t191 (⟨#[]⟩ : ByteArray) 0 _ _ ([] : List Int) _ _ ([] : List Int) true _ ?side1 ?side2 ?side3 ?side4 ?side5 ?side6 ?side7 ?side8 A93.out).mono ?_); (case side1 => repeat (first | exact (Kd.R_reads' HO_196002.out).2.2 | (with_reducible refine Kd.C_alloc ?_ _) | (with_reducible refine Kd.C_drewN ?_ _) | (with_reducible refine Kd.C_drew ?_))); (case side2 => exact (Kd.R_reads' HO_196002.out).2.1); (case side3 => repeat (first | exact (Kd.R_reads' HO_196003.out).2.2 | (with_reducible refine Kd.C_alloc ?_ _) | (with_reducible refine Kd.C_drewN ?_ _) | (with_reducible refine Kd.C_drew ?_))); (case side4 => exact (Kd.R_reads' HO_196003.out).2.1); (case side5 => exact Kd.C_nil _ _); (case side6 => exact Nat.le_refl _); (case side7 => exact Kd.C_nil _ _); (case side8 => exact Nat.le_refl _); rintro e w99 ⟨rfl, hb⟩; refine ⟨_, rfl, ?_⟩; have n0_ := Aside0.mk (Kd.R_below (by (with_reducible repeat (first | apply Kd.R_alloc | apply Kd.R_drewN | apply Kd.R_drew)); exact HO_185002.out) hb); have n1_ := Aside0.mk (Kd.R_below (by (with_reducible repeat (first | apply Kd.R_alloc | apply Kd.R_drewN | apply Kd.R_drew)); exact HO_185003.out) hb); have n2_ := Aside0.mk (Kd.R_below (by (with_reducible repeat (first | apply Kd.R_alloc | apply Kd.R_drewN | apply Kd.R_drew)); exact HO_196002.out) hb); have n3_ := Aside0.mk (Kd.R_below (by (with_reducible repeat (first | apply Kd.R_alloc | apply Kd.R_drewN | apply Kd.R_drew)); exact HO_196003.out) hb); have n4_ := Aside0.mk (Kd.R_below (by (with_reducible repeat (first | apply Kd.R_alloc | apply Kd.R_drewN | apply Kd.R_drew)); exact HO_198002.out) hb); have n5_ := Aside0.mk (Kd.R_below (by (with_reducible repeat (first | apply Kd.R_alloc | apply Kd.R_drewN | apply Kd.R_drew)); exact HO_198003.out) hb); have n6_ := bb BK162 hb; have n7_ := bb BK184 hb; have n8_ := bb BK195 hb; have n9_ := bb BK197 hb; have n10_ := Aside0.mk (below_step be hb); clear HO_185002; clear HO_185003; clear HO_196002; clear HO_196003; clear HO_198002; clear HO_198003; clear BK162; clear BK184; clear BK195; clear BK197; clear HB; have HO_185002 := n0_; have HO_185003 := n1_; have HO_196002 := n2_; have HO_196003 := n3_; have HO_198002 := n4_; have HO_198003 := n5_; have BK162 := n6_; have BK184 := n7_; have BK195 := n8_; have BK197 := n9_; have HB := n10_; clear n0_ n1_ n2_ n3_ n4_ n5_ n6_ n7_ n8_ n9_ n10_; (try clear hb); (try clear hb2); (try clear hk); (try clear hi)))
                    go_ret
                    exact ⟨by first | rfl | (simp [errW_none, errW_some] <;> rfl) | (simp [*, errW_none, errW_some] <;> rfl), be⟩
                   ·replace c94 := Bool.eq_false_iff.mpr c94
                    subst c94
                    have H1 : (some false) = some r := by rw [if_neg (show ¬ (false = true) by decide)] at H; exact H
                    clear H
                    have H := H1
                    clear H1
                    obtain rfl := Option.some.inj H
                    have hnb100 := NB195_162.out
                    have hnc100 := NB162_195.out
                    have hnb101 := NB195_184.out
                    have hnc101 := NB184_195.out
                    have hnb102 := NB195_197.out
                    have hnc102 := NB197_195.out
                    obtain ⟨hcz103_0, hcz103_1, hcz103_2, hcz103_3, hfz103_0, hfz103_1, hfz103_2, hfz103_3⟩ := bc4 BK195
                    go_wp2_with (first | ((with_reducible refine gate_callee (f := 13) rfl ?_); refine goesL_ (some 98) rfl rfl Try.func13 kx rfl #[.agg #[.string t186, .int .i64 t187, .slice Ao44 t188.length co44, .slice Ao45 t191.length co45], .agg #[.string (⟨#[]⟩ : ByteArray), .int .i64 0, .slice none 0 0, .slice none 0 0]] rfl aa ?_; (refine (ephemerisref1_SameTable.calls kj55 t186 t187 _ _ t188 _ _ t191 (⟨#[]⟩ : ByteArray) 0 _ _ ([] : List Int) _ _ ([] : List Int) false _ ?side1 ?side2 ?side3 ?side4 ?side5 ?side6 ?side7 ?side8 A93.out).mono ?_); (case side1 => repeat (first | exact (Kd.R_reads' HO_196002.out).2.2 | (with_reducible refine Kd.C_alloc ?_ _) | (with_reducible refine Kd.C_drewN ?_ _) | (with_reducible refine Kd.C_drew ?_))); (case side2 => exact (Kd.R_reads' HO_196002.out).2.1); (case side3 => repeat (first | exact (Kd.R_reads' HO_196003.out).2.2 | (with_reducible refine Kd.C_alloc ?_ _) | (with_reducible refine Kd.C_drewN ?_ _) | (with_reducible refine Kd.C_drew ?_))); (case side4 => exact (Kd.R_reads' HO_196003.out).2.1); (case side5 => exact Kd.C_nil _ _); (case side6 => exact Nat.le_refl _); (case side7 => exact Kd.C_nil _ _); (case side8 => exact Nat.le_refl _); rintro e w104 ⟨rfl, hb⟩; refine ⟨_, rfl, ?_⟩; have n0_ := Aside0.mk (Kd.R_below (by (with_reducible repeat (first | apply Kd.R_alloc | apply Kd.R_drewN | apply Kd.R_drew)); exact HO_185002.out) hb); have n1_ := Aside0.mk (Kd.R_below (by (with_reducible repeat (first | apply Kd.R_alloc | apply Kd.R_drewN | apply Kd.R_drew)); exact HO_185003.out) hb); have n2_ := Aside0.mk (Kd.R_below (by (with_reducible repeat (first | apply Kd.R_alloc | apply Kd.R_drewN | apply Kd.R_drew)); exact HO_196002.out) hb); have n3_ := Aside0.mk (Kd.R_below (by (with_reducible repeat (first | apply Kd.R_alloc | apply Kd.R_drewN | apply Kd.R_drew)); exact HO_196003.out) hb); have n4_ := Aside0.mk (Kd.R_below (by (with_reducible repeat (first | apply Kd.R_alloc | apply Kd.R_drewN | apply Kd.R_drew)); exact HO_198002.out) hb); have n5_ := Aside0.mk (Kd.R_below (by (with_reducible repeat (first | apply Kd.R_alloc | apply Kd.R_drewN | apply Kd.R_drew)); exact HO_198003.out) hb); have n6_ := bb BK162 hb; have n7_ := bb BK184 hb; have n8_ := bb BK195 hb; have n9_ := bb BK197 hb; have n10_ := Aside0.mk (below_step be hb); clear HO_185002; clear HO_185003; clear HO_196002; clear HO_196003; clear HO_198002; clear HO_198003; clear BK162; clear BK184; clear BK195; clear BK197; clear HB; have HO_185002 := n0_; have HO_185003 := n1_; have HO_196002 := n2_; have HO_196003 := n3_; have HO_198002 := n4_; have HO_198003 := n5_; have BK162 := n6_; have BK184 := n7_; have BK195 := n8_; have BK197 := n9_; have HB := n10_; clear n0_ n1_ n2_ n3_ n4_ n5_ n6_ n7_ n8_ n9_ n10_; (try clear hb); (try clear hb2); (try clear hk); (try clear hi)))
                    go_ret
                    exact ⟨by first | rfl | (simp [errW_none, errW_some] <;> rfl) | (simp [*, errW_none, errW_some] <;> rfl), be⟩
               ·rw [if_neg c55] at H
                exact absurd H (by simp)
              ·rw [if_neg c54] at H
               exact absurd H (by simp)
             ·rw [if_neg c53] at H
              exact absurd H (by simp)
            ·rw [if_neg c52] at H
             exact absurd H (by simp)
 ·rw [if_neg c3] at H
  exact absurd H (by simp)

end Go.Proofs.Ytlfammlboncmeaa.PObservedExtends
