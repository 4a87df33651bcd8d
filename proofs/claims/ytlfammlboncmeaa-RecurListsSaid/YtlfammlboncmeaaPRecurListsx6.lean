/- The walks of the functions of this part, laid closer by a program of mine. -/
-- The walks of the law's functions, told by a program.
import Derived.Test.YtlfammlboncmeaaY
import Derived.Test.YtlfammlboncmeaaPRecurListsx0
import Derived.Test.YtlfammlboncmeaaPRecurListsx1
import Derived.Test.YtlfammlboncmeaaPRecurListsx2
import Derived.Test.YtlfammlboncmeaaPRecurListsx3
import Derived.Test.YtlfammlboncmeaaPRecurListsx4
import Derived.Test.YtlfammlboncmeaaPRecurListsx5
namespace Go.Proofs.Ytlfammlboncmeaa.PRecurLists
open Go.RowKit Go.Proofs.YtlfammlboncmeaaW.PrintWords Go.Proofs.YtlfammlboncmeaaW.PrintLast Go.Proofs.YtlfammlboncmeaaW.PrintMore Go.Proofs.Ytlfammlboncmeaa.Y
attribute [local go_sem] max2_int min2_int max_two min_two max_three min_three max_four min_four   -- for this text's walks alone
set_option linter.unusedVariables false
set_option linter.unusedSimpArgs false

/-! ### recur_Days: function 14 -/
mutual
def recur_Days.j0 : Nat → Int → Int → Bool → Int → Int → Int → Int → Int → List Int → List Int → List Int → Option (List Int × Int)
 | 0, _, _, _, _, _, _, _, _, _, _, _ => none
 | k + 1, x1, x2, x30, x182000, x182001, x182002, x182003, x182004, x182005, x182006, x182007 => if x30 = true then (some (([] : List Int), 3)) else (if x1 > x2 then (some (([] : List Int), 9)) else (if x2 > (wrap64 (x182002 + 40000)) then (recur_Days.j1 k x1 x2 true x182000 x182001 x182002 x182003 x182004 x182005 x182006 x182007) else (recur_Days.j1 k x1 x2 (decide ((wrap64 (x2 - x1)) > 3000)) x182000 x182001 x182002 x182003 x182004 x182005 x182006 x182007)))
def recur_Days.j1 : Nat → Int → Int → Bool → Int → Int → Int → Int → Int → List Int → List Int → List Int → Option (List Int × Int)
 | 0, _, _, _, _, _, _, _, _, _, _, _ => none
 | k + 1, x1, x2, x44, x182000, x182001, x182002, x182003, x182004, x182005, x182006, x182007 => if x44 = true then (some (([] : List Int), 2)) else ((recur_explicit.f k x182000 x182001 x182002 x182003 x182004 x182005 x182006 x182007).bind fun bt185 => (if bt185.2.2.2.1 > 0 then (recur_Days.j2 k x1 x2 bt185.2.2.1 bt185.1 bt185.2.1 bt185.2.2.1 bt185.2.2.2.1 bt185.2.2.2.2.1 bt185.2.2.2.2.2.1 bt185.2.2.2.2.2.2.1 bt185.2.2.2.2.2.2.2) else (recur_Days.j2 k x1 x2 (mx x1 bt185.2.2.1) bt185.1 bt185.2.1 bt185.2.2.1 bt185.2.2.2.1 bt185.2.2.2.2.1 bt185.2.2.2.2.2.1 bt185.2.2.2.2.2.2.1 bt185.2.2.2.2.2.2.2)))
def recur_Days.j2 : Nat → Int → Int → Int → Int → Int → Int → Int → Int → List Int → List Int → List Int → Option (List Int × Int)
 | 0, _, _, _, _, _, _, _, _, _, _, _ => none
 | k + 1, x1, x2, x9, x182000, x182001, x182002, x182003, x182004, x182005, x182006, x182007 => (line_Date.f k x182002).bind fun bt199 => ((line_Date.f k x9).bind fun bt204 => ((recur_length.f bt204.1 bt204.2.1 bt204.2.2.1).bind fun t209 => (recur_Days.l0 k x1 x2 ([] : List Int) 0 t209 x9 x182000 x182001 x182002 x182003 x182004 x182005 x182006 x182007 bt199.1 bt199.2.1 bt199.2.2.1 bt204.1 bt204.2.1 bt204.2.2.1)))
def recur_Days.l0 : Nat → Int → Int → List Int → Int → Int → Int → Int → Int → Int → Int → Int → List Int → List Int → List Int → Int → Int → Int → Int → Int → Int → Option (List Int × Int)
 | 0, _, _, _, _, _, _, _, _, _, _, _, _, _, _, _, _, _, _, _, _ => none
 | k + 1, x1, x2, x12, x13, x16, x17, x182000, x182001, x182002, x182003, x182004, x182005, x182006, x182007, x204000, x204001, x204002, x209000, x209001, x209002 => if x17 ≤ (mn x2 x182004) then ((recur_fits.f k x182000 x182001 x182002 x182003 x182004 x182005 x182006 x182007 x204000 x204001 x204002 x209000 x209001 x209002 x17 x16).bind fun t210 => (if t210 = true then (if x182003 > 0 then (recur_Days.j4 k x1 x2 x12 (wrap64 (x13 + 1)) x16 x17 (decide ((wrap64 (x13 + 1)) > x182003)) x182000 x182001 x182002 x182003 x182004 x182005 x182006 x182007 x204000 x204001 x204002 x209000 x209001 x209002) else (recur_Days.j4 k x1 x2 x12 (wrap64 (x13 + 1)) x16 x17 false x182000 x182001 x182002 x182003 x182004 x182005 x182006 x182007 x204000 x204001 x204002 x209000 x209001 x209002)) else (recur_Days.j5 k x1 x2 x12 x13 x16 x17 x182000 x182001 x182002 x182003 x182004 x182005 x182006 x182007 x204000 x204001 x204002 x209000 x209001 x209002))) else (some (x12, 0))
def recur_Days.j5 : Nat → Int → Int → List Int → Int → Int → Int → Int → Int → Int → Int → Int → List Int → List Int → List Int → Int → Int → Int → Int → Int → Int → Option (List Int × Int)
 | 0, _, _, _, _, _, _, _, _, _, _, _, _, _, _, _, _, _, _, _, _ => none
 | k + 1, x1, x2, x12, x13, x16, x17, x182000, x182001, x182002, x182003, x182004, x182005, x182006, x182007, x204000, x204001, x204002, x209000, x209001, x209002 => if (wrap64 (x209002 + 1)) > x16 then ((line_Date.f k (mn (wrap64 (x17 + 1)) 4000000)).bind fun bt214 => ((recur_length.f bt214.1 bt214.2.1 bt214.2.2.1).bind fun t218 => (recur_Days.l0 k x1 x2 x12 x13 t218 (wrap64 (x17 + 1)) x182000 x182001 x182002 x182003 x182004 x182005 x182006 x182007 x204000 x204001 x204002 bt214.1 bt214.2.1 bt214.2.2.1))) else (recur_Days.l0 k x1 x2 x12 x13 x16 (wrap64 (x17 + 1)) x182000 x182001 x182002 x182003 x182004 x182005 x182006 x182007 x204000 x204001 x204002 x209000 x209001 (wrap64 (x209002 + 1)))
def recur_Days.j4 : Nat → Int → Int → List Int → Int → Int → Int → Bool → Int → Int → Int → Int → Int → List Int → List Int → List Int → Int → Int → Int → Int → Int → Int → Option (List Int × Int)
 | 0, _, _, _, _, _, _, _, _, _, _, _, _, _, _, _, _, _, _, _, _, _ => none
 | k + 1, x1, x2, x12, x13, x16, x17, x94, x182000, x182001, x182002, x182003, x182004, x182005, x182006, x182007, x204000, x204001, x204002, x209000, x209001, x209002 => if x94 = true then (some (x12, 0)) else (if x17 ≥ x1 then (if x12.length < 17592186044416 then (recur_Days.j5 k x1 x2 (x12 ++ [x17]) x13 x16 x17 x182000 x182001 x182002 x182003 x182004 x182005 x182006 x182007 x204000 x204001 x204002 x209000 x209001 x209002) else (none)) else (recur_Days.j5 k x1 x2 x12 x13 x16 x17 x182000 x182001 x182002 x182003 x182004 x182005 x182006 x182007 x204000 x204001 x204002 x209000 x209001 x209002))
end
def recur_Days.f (k : Nat) (a0_0 : Int) (a0_1 : Int) (a0_2 : Int) (a0_3 : Int) (a0_4 : Int) (l0_5 : List Int) (l0_6 : List Int) (l0_7 : List Int) (a1 : Int) (a2 : Int) : Option (List Int × Int) := (recur_Check.f k a0_0 a0_1 a0_2 a0_3 a0_4 l0_5 l0_6 l0_7).bind fun t182 => (if t182 = 0 then ((line_Check.f a1).bind fun t183 => (if t183 = 0 then ((line_Check.f a2).bind fun t184 => (recur_Days.j0 k a1 a2 (t184 != 0) a0_0 a0_1 a0_2 a0_3 a0_4 l0_5 l0_6 l0_7)) else (recur_Days.j0 k a1 a2 true a0_0 a0_1 a0_2 a0_3 a0_4 l0_5 l0_6 l0_7))) else (some (([] : List Int), t182)))
theorem recur_Days.mono_l : ∀ k, (∀ y0 y1 y2 y3 y4 y5 y6 y7 y8 y9 y10, LeO (recur_Days.j0 k y0 y1 y2 y3 y4 y5 y6 y7 y8 y9 y10) (recur_Days.j0 (k + 1) y0 y1 y2 y3 y4 y5 y6 y7 y8 y9 y10)) ∧ (∀ y0 y1 y2 y3 y4 y5 y6 y7 y8 y9 y10, LeO (recur_Days.j1 k y0 y1 y2 y3 y4 y5 y6 y7 y8 y9 y10) (recur_Days.j1 (k + 1) y0 y1 y2 y3 y4 y5 y6 y7 y8 y9 y10)) ∧ (∀ y0 y1 y2 y3 y4 y5 y6 y7 y8 y9 y10, LeO (recur_Days.j2 k y0 y1 y2 y3 y4 y5 y6 y7 y8 y9 y10) (recur_Days.j2 (k + 1) y0 y1 y2 y3 y4 y5 y6 y7 y8 y9 y10)) ∧ (∀ y0 y1 y2 y3 y4 y5 y6 y7 y8 y9 y10 y11 y12 y13 y14 y15 y16 y17 y18 y19, LeO (recur_Days.l0 k y0 y1 y2 y3 y4 y5 y6 y7 y8 y9 y10 y11 y12 y13 y14 y15 y16 y17 y18 y19) (recur_Days.l0 (k + 1) y0 y1 y2 y3 y4 y5 y6 y7 y8 y9 y10 y11 y12 y13 y14 y15 y16 y17 y18 y19)) ∧ (∀ y0 y1 y2 y3 y4 y5 y6 y7 y8 y9 y10 y11 y12 y13 y14 y15 y16 y17 y18 y19, LeO (recur_Days.j5 k y0 y1 y2 y3 y4 y5 y6 y7 y8 y9 y10 y11 y12 y13 y14 y15 y16 y17 y18 y19) (recur_Days.j5 (k + 1) y0 y1 y2 y3 y4 y5 y6 y7 y8 y9 y10 y11 y12 y13 y14 y15 y16 y17 y18 y19)) ∧ (∀ y0 y1 y2 y3 y4 y5 y6 y7 y8 y9 y10 y11 y12 y13 y14 y15 y16 y17 y18 y19 y20, LeO (recur_Days.j4 k y0 y1 y2 y3 y4 y5 y6 y7 y8 y9 y10 y11 y12 y13 y14 y15 y16 y17 y18 y19 y20) (recur_Days.j4 (k + 1) y0 y1 y2 y3 y4 y5 y6 y7 y8 y9 y10 y11 y12 y13 y14 y15 y16 y17 y18 y19 y20))
 | 0 => ⟨fun _ _ _ _ _ _ _ _ _ _ _ r h => by simp [recur_Days.j0] at h, fun _ _ _ _ _ _ _ _ _ _ _ r h => by simp [recur_Days.j1] at h, fun _ _ _ _ _ _ _ _ _ _ _ r h => by simp [recur_Days.j2] at h, fun _ _ _ _ _ _ _ _ _ _ _ _ _ _ _ _ _ _ _ _ r h => by simp [recur_Days.l0] at h, fun _ _ _ _ _ _ _ _ _ _ _ _ _ _ _ _ _ _ _ _ r h => by simp [recur_Days.j5] at h, fun _ _ _ _ _ _ _ _ _ _ _ _ _ _ _ _ _ _ _ _ _ r h => by simp [recur_Days.j4] at h⟩
 | k + 1 => by
  obtain ⟨ih0, ih1, ih2, ih3, ih4, ih5⟩ := recur_Days.mono_l k
  refine ⟨?_, ?_, ?_, ?_, ?_, ?_⟩
  ·intro y0 y1 y2 y3 y4 y5 y6 y7 y8 y9 y10
   unfold recur_Days.j0
   repeat' first
   | (with_reducible exact ih0 _ _ _ _ _ _ _ _ _ _ _)
   | (with_reducible exact ih1 _ _ _ _ _ _ _ _ _ _ _)
   | (with_reducible exact ih2 _ _ _ _ _ _ _ _ _ _ _)
   | (with_reducible exact ih3 _ _ _ _ _ _ _ _ _ _ _ _ _ _ _ _ _ _ _ _)
   | (with_reducible exact ih4 _ _ _ _ _ _ _ _ _ _ _ _ _ _ _ _ _ _ _ _)
   | (with_reducible exact ih5 _ _ _ _ _ _ _ _ _ _ _ _ _ _ _ _ _ _ _ _ _)
   | (with_reducible exact line_Date.mono _ _)
   | (with_reducible exact recur_Check.mono _ _ _ _ _ _ _ _ _)
   | (with_reducible exact recur_explicit.mono _ _ _ _ _ _ _ _ _)
   | (with_reducible exact recur_fits.mono _ _ _ _ _ _ _ _ _ _ _ _ _ _ _ _ _)
   | (with_reducible exact LeO.refl _)
   | (with_reducible exact LeO.none _)
   | (with_reducible refine LeO.ite ?_ ?_)
   | (with_reducible refine LeO.bind ?_ (fun _ => ?_))
   | exact ih0 _ _ _ _ _ _ _ _ _ _ _
   | exact ih1 _ _ _ _ _ _ _ _ _ _ _
   | exact ih2 _ _ _ _ _ _ _ _ _ _ _
   | exact ih3 _ _ _ _ _ _ _ _ _ _ _ _ _ _ _ _ _ _ _ _
   | exact ih4 _ _ _ _ _ _ _ _ _ _ _ _ _ _ _ _ _ _ _ _
   | exact ih5 _ _ _ _ _ _ _ _ _ _ _ _ _ _ _ _ _ _ _ _ _
   | exact line_Date.mono _ _
   | exact recur_Check.mono _ _ _ _ _ _ _ _ _
   | exact recur_explicit.mono _ _ _ _ _ _ _ _ _
   | exact recur_fits.mono _ _ _ _ _ _ _ _ _ _ _ _ _ _ _ _ _
   | exact LeO.none _
   | refine LeO.ite ?_ ?_
   | refine LeO.bind ?_ (fun _ => ?_)
  ·intro y0 y1 y2 y3 y4 y5 y6 y7 y8 y9 y10
   unfold recur_Days.j1
   repeat' first
   | (with_reducible exact ih0 _ _ _ _ _ _ _ _ _ _ _)
   | (with_reducible exact ih1 _ _ _ _ _ _ _ _ _ _ _)
   | (with_reducible exact ih2 _ _ _ _ _ _ _ _ _ _ _)
   | (with_reducible exact ih3 _ _ _ _ _ _ _ _ _ _ _ _ _ _ _ _ _ _ _ _)
   | (with_reducible exact ih4 _ _ _ _ _ _ _ _ _ _ _ _ _ _ _ _ _ _ _ _)
   | (with_reducible exact ih5 _ _ _ _ _ _ _ _ _ _ _ _ _ _ _ _ _ _ _ _ _)
   | (with_reducible exact line_Date.mono _ _)
   | (with_reducible exact recur_Check.mono _ _ _ _ _ _ _ _ _)
   | (with_reducible exact recur_explicit.mono _ _ _ _ _ _ _ _ _)
   | (with_reducible exact recur_fits.mono _ _ _ _ _ _ _ _ _ _ _ _ _ _ _ _ _)
   | (with_reducible exact LeO.refl _)
   | (with_reducible exact LeO.none _)
   | (with_reducible refine LeO.ite ?_ ?_)
   | (with_reducible refine LeO.bind ?_ (fun _ => ?_))
   | exact ih0 _ _ _ _ _ _ _ _ _ _ _
   | exact ih1 _ _ _ _ _ _ _ _ _ _ _
   | exact ih2 _ _ _ _ _ _ _ _ _ _ _
   | exact ih3 _ _ _ _ _ _ _ _ _ _ _ _ _ _ _ _ _ _ _ _
   | exact ih4 _ _ _ _ _ _ _ _ _ _ _ _ _ _ _ _ _ _ _ _
   | exact ih5 _ _ _ _ _ _ _ _ _ _ _ _ _ _ _ _ _ _ _ _ _
   | exact line_Date.mono _ _
   | exact recur_Check.mono _ _ _ _ _ _ _ _ _
   | exact recur_explicit.mono _ _ _ _ _ _ _ _ _
   | exact recur_fits.mono _ _ _ _ _ _ _ _ _ _ _ _ _ _ _ _ _
   | exact LeO.none _
   | refine LeO.ite ?_ ?_
   | refine LeO.bind ?_ (fun _ => ?_)
  ·intro y0 y1 y2 y3 y4 y5 y6 y7 y8 y9 y10
   unfold recur_Days.j2
   repeat' first
   | (with_reducible exact ih0 _ _ _ _ _ _ _ _ _ _ _)
   | (with_reducible exact ih1 _ _ _ _ _ _ _ _ _ _ _)
   | (with_reducible exact ih2 _ _ _ _ _ _ _ _ _ _ _)
   | (with_reducible exact ih3 _ _ _ _ _ _ _ _ _ _ _ _ _ _ _ _ _ _ _ _)
   | (with_reducible exact ih4 _ _ _ _ _ _ _ _ _ _ _ _ _ _ _ _ _ _ _ _)
   | (with_reducible exact ih5 _ _ _ _ _ _ _ _ _ _ _ _ _ _ _ _ _ _ _ _ _)
   | (with_reducible exact line_Date.mono _ _)
   | (with_reducible exact recur_Check.mono _ _ _ _ _ _ _ _ _)
   | (with_reducible exact recur_explicit.mono _ _ _ _ _ _ _ _ _)
   | (with_reducible exact recur_fits.mono _ _ _ _ _ _ _ _ _ _ _ _ _ _ _ _ _)
   | (with_reducible exact LeO.refl _)
   | (with_reducible exact LeO.none _)
   | (with_reducible refine LeO.ite ?_ ?_)
   | (with_reducible refine LeO.bind ?_ (fun _ => ?_))
   | exact ih0 _ _ _ _ _ _ _ _ _ _ _
   | exact ih1 _ _ _ _ _ _ _ _ _ _ _
   | exact ih2 _ _ _ _ _ _ _ _ _ _ _
   | exact ih3 _ _ _ _ _ _ _ _ _ _ _ _ _ _ _ _ _ _ _ _
   | exact ih4 _ _ _ _ _ _ _ _ _ _ _ _ _ _ _ _ _ _ _ _
   | exact ih5 _ _ _ _ _ _ _ _ _ _ _ _ _ _ _ _ _ _ _ _ _
   | exact line_Date.mono _ _
   | exact recur_Check.mono _ _ _ _ _ _ _ _ _
   | exact recur_explicit.mono _ _ _ _ _ _ _ _ _
   | exact recur_fits.mono _ _ _ _ _ _ _ _ _ _ _ _ _ _ _ _ _
   | exact LeO.none _
   | refine LeO.ite ?_ ?_
   | refine LeO.bind ?_ (fun _ => ?_)
  ·intro y0 y1 y2 y3 y4 y5 y6 y7 y8 y9 y10 y11 y12 y13 y14 y15 y16 y17 y18 y19
   unfold recur_Days.l0
   repeat' first
   | (with_reducible exact ih0 _ _ _ _ _ _ _ _ _ _ _)
   | (with_reducible exact ih1 _ _ _ _ _ _ _ _ _ _ _)
   | (with_reducible exact ih2 _ _ _ _ _ _ _ _ _ _ _)
   | (with_reducible exact ih3 _ _ _ _ _ _ _ _ _ _ _ _ _ _ _ _ _ _ _ _)
   | (with_reducible exact ih4 _ _ _ _ _ _ _ _ _ _ _ _ _ _ _ _ _ _ _ _)
   | (with_reducible exact ih5 _ _ _ _ _ _ _ _ _ _ _ _ _ _ _ _ _ _ _ _ _)
   | (with_reducible exact line_Date.mono _ _)
   | (with_reducible exact recur_Check.mono _ _ _ _ _ _ _ _ _)
   | (with_reducible exact recur_explicit.mono _ _ _ _ _ _ _ _ _)
   | (with_reducible exact recur_fits.mono _ _ _ _ _ _ _ _ _ _ _ _ _ _ _ _ _)
   | (with_reducible exact LeO.refl _)
   | (with_reducible exact LeO.none _)
   | (with_reducible refine LeO.ite ?_ ?_)
   | (with_reducible refine LeO.bind ?_ (fun _ => ?_))
   | exact ih0 _ _ _ _ _ _ _ _ _ _ _
   | exact ih1 _ _ _ _ _ _ _ _ _ _ _
   | exact ih2 _ _ _ _ _ _ _ _ _ _ _
   | exact ih3 _ _ _ _ _ _ _ _ _ _ _ _ _ _ _ _ _ _ _ _
   | exact ih4 _ _ _ _ _ _ _ _ _ _ _ _ _ _ _ _ _ _ _ _
   | exact ih5 _ _ _ _ _ _ _ _ _ _ _ _ _ _ _ _ _ _ _ _ _
   | exact line_Date.mono _ _
   | exact recur_Check.mono _ _ _ _ _ _ _ _ _
   | exact recur_explicit.mono _ _ _ _ _ _ _ _ _
   | exact recur_fits.mono _ _ _ _ _ _ _ _ _ _ _ _ _ _ _ _ _
   | exact LeO.none _
   | refine LeO.ite ?_ ?_
   | refine LeO.bind ?_ (fun _ => ?_)
  ·intro y0 y1 y2 y3 y4 y5 y6 y7 y8 y9 y10 y11 y12 y13 y14 y15 y16 y17 y18 y19
   unfold recur_Days.j5
   repeat' first
   | (with_reducible exact ih0 _ _ _ _ _ _ _ _ _ _ _)
   | (with_reducible exact ih1 _ _ _ _ _ _ _ _ _ _ _)
   | (with_reducible exact ih2 _ _ _ _ _ _ _ _ _ _ _)
   | (with_reducible exact ih3 _ _ _ _ _ _ _ _ _ _ _ _ _ _ _ _ _ _ _ _)
   | (with_reducible exact ih4 _ _ _ _ _ _ _ _ _ _ _ _ _ _ _ _ _ _ _ _)
   | (with_reducible exact ih5 _ _ _ _ _ _ _ _ _ _ _ _ _ _ _ _ _ _ _ _ _)
   | (with_reducible exact line_Date.mono _ _)
   | (with_reducible exact recur_Check.mono _ _ _ _ _ _ _ _ _)
   | (with_reducible exact recur_explicit.mono _ _ _ _ _ _ _ _ _)
   | (with_reducible exact recur_fits.mono _ _ _ _ _ _ _ _ _ _ _ _ _ _ _ _ _)
   | (with_reducible exact LeO.refl _)
   | (with_reducible exact LeO.none _)
   | (with_reducible refine LeO.ite ?_ ?_)
   | (with_reducible refine LeO.bind ?_ (fun _ => ?_))
   | exact ih0 _ _ _ _ _ _ _ _ _ _ _
   | exact ih1 _ _ _ _ _ _ _ _ _ _ _
   | exact ih2 _ _ _ _ _ _ _ _ _ _ _
   | exact ih3 _ _ _ _ _ _ _ _ _ _ _ _ _ _ _ _ _ _ _ _
   | exact ih4 _ _ _ _ _ _ _ _ _ _ _ _ _ _ _ _ _ _ _ _
   | exact ih5 _ _ _ _ _ _ _ _ _ _ _ _ _ _ _ _ _ _ _ _ _
   | exact line_Date.mono _ _
   | exact recur_Check.mono _ _ _ _ _ _ _ _ _
   | exact recur_explicit.mono _ _ _ _ _ _ _ _ _
   | exact recur_fits.mono _ _ _ _ _ _ _ _ _ _ _ _ _ _ _ _ _
   | exact LeO.none _
   | refine LeO.ite ?_ ?_
   | refine LeO.bind ?_ (fun _ => ?_)
  ·intro y0 y1 y2 y3 y4 y5 y6 y7 y8 y9 y10 y11 y12 y13 y14 y15 y16 y17 y18 y19 y20
   unfold recur_Days.j4
   repeat' first
   | (with_reducible exact ih0 _ _ _ _ _ _ _ _ _ _ _)
   | (with_reducible exact ih1 _ _ _ _ _ _ _ _ _ _ _)
   | (with_reducible exact ih2 _ _ _ _ _ _ _ _ _ _ _)
   | (with_reducible exact ih3 _ _ _ _ _ _ _ _ _ _ _ _ _ _ _ _ _ _ _ _)
   | (with_reducible exact ih4 _ _ _ _ _ _ _ _ _ _ _ _ _ _ _ _ _ _ _ _)
   | (with_reducible exact ih5 _ _ _ _ _ _ _ _ _ _ _ _ _ _ _ _ _ _ _ _ _)
   | (with_reducible exact line_Date.mono _ _)
   | (with_reducible exact recur_Check.mono _ _ _ _ _ _ _ _ _)
   | (with_reducible exact recur_explicit.mono _ _ _ _ _ _ _ _ _)
   | (with_reducible exact recur_fits.mono _ _ _ _ _ _ _ _ _ _ _ _ _ _ _ _ _)
   | (with_reducible exact LeO.refl _)
   | (with_reducible exact LeO.none _)
   | (with_reducible refine LeO.ite ?_ ?_)
   | (with_reducible refine LeO.bind ?_ (fun _ => ?_))
   | exact ih0 _ _ _ _ _ _ _ _ _ _ _
   | exact ih1 _ _ _ _ _ _ _ _ _ _ _
   | exact ih2 _ _ _ _ _ _ _ _ _ _ _
   | exact ih3 _ _ _ _ _ _ _ _ _ _ _ _ _ _ _ _ _ _ _ _
   | exact ih4 _ _ _ _ _ _ _ _ _ _ _ _ _ _ _ _ _ _ _ _
   | exact ih5 _ _ _ _ _ _ _ _ _ _ _ _ _ _ _ _ _ _ _ _ _
   | exact line_Date.mono _ _
   | exact recur_Check.mono _ _ _ _ _ _ _ _ _
   | exact recur_explicit.mono _ _ _ _ _ _ _ _ _
   | exact recur_fits.mono _ _ _ _ _ _ _ _ _ _ _ _ _ _ _ _ _
   | exact LeO.none _
   | refine LeO.ite ?_ ?_
   | refine LeO.bind ?_ (fun _ => ?_)
theorem recur_Days.mono : ∀ a0 a1 a2 a3 a4 a5 a6 a7 a8 a9 k, LeO (recur_Days.f k a0 a1 a2 a3 a4 a5 a6 a7 a8 a9) (recur_Days.f (k + 1) a0 a1 a2 a3 a4 a5 a6 a7 a8 a9) := by
 intro a0 a1 a2 a3 a4 a5 a6 a7 a8 a9 k
 obtain ⟨ih0, ih1, ih2, ih3, ih4, ih5⟩ := recur_Days.mono_l k
 unfold recur_Days.f
 repeat' first
   | (with_reducible exact ih0 _ _ _ _ _ _ _ _ _ _ _)
   | (with_reducible exact ih1 _ _ _ _ _ _ _ _ _ _ _)
   | (with_reducible exact ih2 _ _ _ _ _ _ _ _ _ _ _)
   | (with_reducible exact ih3 _ _ _ _ _ _ _ _ _ _ _ _ _ _ _ _ _ _ _ _)
   | (with_reducible exact ih4 _ _ _ _ _ _ _ _ _ _ _ _ _ _ _ _ _ _ _ _)
   | (with_reducible exact ih5 _ _ _ _ _ _ _ _ _ _ _ _ _ _ _ _ _ _ _ _ _)
   | (with_reducible exact line_Date.mono _ _)
   | (with_reducible exact recur_Check.mono _ _ _ _ _ _ _ _ _)
   | (with_reducible exact recur_explicit.mono _ _ _ _ _ _ _ _ _)
   | (with_reducible exact recur_fits.mono _ _ _ _ _ _ _ _ _ _ _ _ _ _ _ _ _)
   | (with_reducible exact LeO.refl _)
   | (with_reducible exact LeO.none _)
   | (with_reducible refine LeO.ite ?_ ?_)
   | (with_reducible refine LeO.bind ?_ (fun _ => ?_))
   | exact ih0 _ _ _ _ _ _ _ _ _ _ _
   | exact ih1 _ _ _ _ _ _ _ _ _ _ _
   | exact ih2 _ _ _ _ _ _ _ _ _ _ _
   | exact ih3 _ _ _ _ _ _ _ _ _ _ _ _ _ _ _ _ _ _ _ _
   | exact ih4 _ _ _ _ _ _ _ _ _ _ _ _ _ _ _ _ _ _ _ _
   | exact ih5 _ _ _ _ _ _ _ _ _ _ _ _ _ _ _ _ _ _ _ _ _
   | exact line_Date.mono _ _
   | exact recur_Check.mono _ _ _ _ _ _ _ _ _
   | exact recur_explicit.mono _ _ _ _ _ _ _ _ _
   | exact recur_fits.mono _ _ _ _ _ _ _ _ _ _ _ _ _ _ _ _ _
   | exact LeO.none _
   | refine LeO.ite ?_ ?_
   | refine LeO.bind ?_ (fun _ => ?_)
set_option maxHeartbeats 8000000 in
set_option maxRecDepth 100000 in
theorem recur_Days.calls (k : Nat) (a0_0 : Int) (a0_1 : Int) (a0_2 : Int) (a0_3 : Int) (a0_4 : Int) (A0_5 : Option Addr) (c0_5 : Nat) (l0_5 : List Int) (A0_6 : Option Addr) (c0_6 : Nat) (l0_6 : List Int) (A0_7 : Option Addr) (c0_7 : Nat) (l0_7 : List Int) (a1 : Int) (a2 : Int) (r1 : List Int) (r2 : Int) (w : World) (hr0_5 : Kd.C (Kd.int .i64) w A0_5 l0_5.length l0_5) (hc0_5 : l0_5.length ≤ c0_5) (hr0_6 : Kd.C (Kd.int .i64) w A0_6 l0_6.length l0_6) (hc0_6 : l0_6.length ≤ c0_6) (hr0_7 : Kd.C (Kd.int .i64) w A0_7 l0_7.length l0_7) (hc0_7 : l0_7.length ≤ c0_7) (h : recur_Days.f k a0_0 a0_1 a0_2 a0_3 a0_4 l0_5 l0_6 l0_7 a1 a2 = some (r1, r2)) :
  Calls Try.prog 14 #[.agg #[.int .i64 a0_0, .int .i64 a0_1, .int .i64 a0_2, .int .i64 a0_3, .int .i64 a0_4, .slice A0_5 l0_5.length c0_5, .slice A0_6 l0_6.length c0_6, .slice A0_7 l0_7.length c0_7], .int .i64 a1, .int .i64 a2] w fun e w' => ∃ v0_ : Value, e = .returned (.tuple #[v0_, .int .i64 r2]) ∧ Kd.R (Kd.int .i64) 3 w' w.heap.size (fun _ => True) v0_ r1 ∧ Below w.heap.size w w' := by
 have hu33 := Try.underlying33
 have hu107 := Try.underlying107
 have HR0_5 := Aside0.mk hr0_5
 have HC0_5 := Aside0.mk hc0_5
 clear hr0_5 hc0_5
 have HR0_6 := Aside0.mk hr0_6
 have HC0_6 := Aside0.mk hc0_6
 clear hr0_6 hc0_6
 have HR0_7 := Aside0.mk hr0_7
 have HC0_7 := Aside0.mk hc0_7
 clear hr0_7 hc0_7
 have HB := Aside0.mk (Below.refl w.heap.size w)
 have H : ((recur_Check.f k a0_0 a0_1 a0_2 a0_3 a0_4 l0_5 l0_6 l0_7).bind fun t182 => (if t182 = 0 then ((line_Check.f a1).bind fun t183 => (if t183 = 0 then ((line_Check.f a2).bind fun t184 => (recur_Days.j0 k a1 a2 (t184 != 0) a0_0 a0_1 a0_2 a0_3 a0_4 l0_5 l0_6 l0_7)) else (recur_Days.j0 k a1 a2 true a0_0 a0_1 a0_2 a0_3 a0_4 l0_5 l0_6 l0_7))) else (some (([] : List Int), t182)))) = some (r1, r2) := h
 clear h
 replace H := Option.bind_eq_some_iff.mp H
 obtain ⟨t182, A40, H⟩ := H
 replace H : (if t182 = 0 then ((line_Check.f a1).bind fun t183 => (if t183 = 0 then ((line_Check.f a2).bind fun t184 => (recur_Days.j0 k a1 a2 (t184 != 0) a0_0 a0_1 a0_2 a0_3 a0_4 l0_5 l0_6 l0_7)) else (recur_Days.j0 k a1 a2 true a0_0 a0_1 a0_2 a0_3 a0_4 l0_5 l0_6 l0_7))) else (some (([] : List Int), t182))) = some (r1, r2) := H
 have A4 := Aside0.mk A40
 clear A40
 by_cases c5 : t182 = 0
 ·rw [if_pos c5] at H
  have c5b0 : (t182 == 0) = true := beq_iff_eq.mpr c5
  have c5b1 : (t182 != 0) = false := bne_eq_false_iff_eq.mpr c5
  clear c5
  have HC6 := Aside0.mk H
  clear H
  go_enter Try.func14, Try.ntmps14
  go_upto_region 4 with (first | ((with_reducible refine gate_dst (N := 3) rfl ?_); refine box_event ?hg (N := 3) ?hd (cs := #[.int .i64 a0_0, .int .i64 a0_1, .int .i64 a0_2, .int .i64 a0_3, .int .i64 a0_4, .slice A0_5 l0_5.length c0_5, .slice A0_6 l0_6.length c0_6, .slice A0_7 l0_7.length c0_7]) (t := 33) ?hr ?_; (case hd => rfl); (case hg => rfl); (case hr => first | (go_simp; done) | (go_simp; rfl)); intro gb181 hg w7 hbox hb; have n0_ := Aside0.mk (below_step be hb); have n1_ := Aside0.mk (hbox); have n2_ := gs hg HB; have n3_ := n2_; clear HB; have HB := n0_; have BK181 := n1_; have GW181 := n2_; have GE181 := n3_; clear n0_ n1_ n2_ n3_; clear hb hbox hg; obtain ⟨hcz8_0, hcz8_1, hcz8_2, hcz8_3, hcz8_4, hcz8_5, hcz8_6, hcz8_7, hfz8_0, hfz8_1, hfz8_2, hfz8_3, hfz8_4, hfz8_5, hfz8_6, hfz8_7⟩ := bc8 BK181) | ((with_reducible refine gate_callee (f := 54) rfl ?_); refine goesL_ (some 19) rfl rfl Try.func54 kx rfl #[.agg #[.int .i64 a0_0, .int .i64 a0_1, .int .i64 a0_2, .int .i64 a0_3, .int .i64 a0_4, .slice A0_5 l0_5.length c0_5, .slice A0_6 l0_6.length c0_6, .slice A0_7 l0_7.length c0_7]] rfl aa ?_; (with_reducible refine (recur_Check.calls k a0_0 a0_1 a0_2 a0_3 a0_4 _ _ l0_5 _ _ l0_6 _ _ l0_7 t182 _ ?side1 ?side2 ?side3 ?side4 ?side5 ?side6 A4.out).mono ?_); (case side1 => exact kc (Kd.C_below HR0_5.out HB.out)); (case side2 => exact HC0_5.out); (case side3 => exact kc (Kd.C_below HR0_6.out HB.out)); (case side4 => exact HC0_6.out); (case side5 => exact kc (Kd.C_below HR0_7.out HB.out)); (case side6 => exact HC0_7.out); rintro e w9 ⟨rfl, hb⟩; refine ⟨_, rfl, ?_⟩; have n0_ := bb BK181 hb; have n1_ := Aside0.mk (below_step be hb); clear BK181; clear HB; have BK181 := n0_; have HB := n1_; clear n0_ n1_; (try clear hb); (try clear hb2); (try clear hk); (try clear hi)))
  (try simp only [Act.put, List.setIfInBounds_toArray, List.set_cons_zero, List.set_cons_succ])
  go_cut [30] (fun v30 wc => ∃ (kq : Nat) (x30_5 : Bool), v30 = .bool x30_5 ∧ Aside0 (recur_Days.j0 kq a1 a2 x30_5 a0_0 a0_1 a0_2 a0_3 a0_4 l0_5 l0_6 l0_7 = some (r1, r2)) ∧ Aside0 (kq ≤ k) ∧ Aside0 (wc.heap[gb181]? = some (.cells #[.int .i64 a0_0, .int .i64 a0_1, .int .i64 a0_2, .int .i64 a0_3, .int .i64 a0_4, (.slice A0_5 l0_5.length c0_5), (.slice A0_6 l0_6.length c0_6), (.slice A0_7 l0_7.length c0_7)] 33 (0, 0))) ∧ Aside0 (Below w.heap.size w wc))
  case first =>
   have H := HC6.out
   clear HC6
   replace H := Option.bind_eq_some_iff.mp H
   obtain ⟨t183, A100, H⟩ := H
   replace H : (if t183 = 0 then ((line_Check.f a2).bind fun t184 => (recur_Days.j0 k a1 a2 (t184 != 0) a0_0 a0_1 a0_2 a0_3 a0_4 l0_5 l0_6 l0_7)) else (recur_Days.j0 k a1 a2 true a0_0 a0_1 a0_2 a0_3 a0_4 l0_5 l0_6 l0_7)) = some (r1, r2) := H
   have A10 := Aside0.mk A100
   clear A100
   by_cases c11 : t183 = 0
   ·rw [if_pos c11] at H
    have c11b0 : (t183 == 0) = true := beq_iff_eq.mpr c11
    have c11b1 : (t183 != 0) = false := bne_eq_false_iff_eq.mpr c11
    clear c11
    (first | rw [c11b0] | (simp only [i64_w, i32_w]; rw [c11b0]) | skip)
    replace H := Option.bind_eq_some_iff.mp H
    obtain ⟨t184, A120, H⟩ := H
    replace H : (recur_Days.j0 k a1 a2 (t184 != 0) a0_0 a0_1 a0_2 a0_3 a0_4 l0_5 l0_6 l0_7) = some (r1, r2) := H
    have A12 := Aside0.mk A120
    clear A120
    have H' := Aside0.mk H
    clear H
    go_wp2_with (first | ((with_reducible refine gate_callee (f := 55) rfl ?_); refine goesL_ (some 24) rfl rfl Try.func55 kx rfl #[.int .i64 a1] rfl aa ?_; (with_reducible refine (line_Check.calls a1 t183 _ A10.out).mono ?_); rintro e w' ⟨rfl, ⟨nd, rfl⟩⟩; refine ⟨_, rfl, ?_⟩) | (go_at_call 55; (with_reducible refine (line_Check.calls a2 t184 _ A12.out).mono ?_); rintro e w' ⟨rfl, ⟨nd, rfl⟩⟩))
    go_meet
    case rel => exact ⟨_, ((t184 != 0)), rs, H', ⟨by first | omega | exact Nat.le_refl _⟩, ⟨bk BK181⟩, ⟨be⟩⟩
   ·rw [if_neg c11] at H
    have c11b0 : (t183 == 0) = false := beq_eq_false_iff_ne.mpr c11
    have c11b1 : (t183 != 0) = true := bne_iff_ne.mpr c11
    (first | rw [c11b0] | (simp only [i64_w, i32_w]; rw [c11b0]) | skip)
    have H' := Aside0.mk H
    clear H
    go_wp2_with (first | ((with_reducible refine gate_callee (f := 55) rfl ?_); refine goesL_ (some 24) rfl rfl Try.func55 kx rfl #[.int .i64 a1] rfl aa ?_; (with_reducible refine (line_Check.calls a1 t183 _ A10.out).mono ?_); rintro e w' ⟨rfl, ⟨nd, rfl⟩⟩; refine ⟨_, rfl, ?_⟩))
    go_meet
    case rel => exact ⟨_, (true), rs, H', ⟨by first | omega | exact Nat.le_refl _⟩, ⟨bk BK181⟩, ⟨be⟩⟩
  case rest =>
   clear HC6
   (try clear c1); (try clear p2); (try clear c5); (try clear c5b0); (try clear c5b1); (try clear c11); (try clear c11b0); (try clear c11b1); (try clear hcz8_0); (try clear hcz8_1); (try clear hcz8_2); (try clear hcz8_3); (try clear hcz8_4); (try clear hcz8_5); (try clear hcz8_6); (try clear hcz8_7); (try clear hfz8_0); (try clear hfz8_1); (try clear hfz8_2); (try clear hfz8_3); (try clear hfz8_4); (try clear hfz8_5); (try clear hfz8_6); (try clear hfz8_7)
   obtain ⟨kq, x30_5, rfl, HA, HJ5, BK181, HB⟩ := hcut
   cases kq with
   | zero => exact absurd HA.out (by simp [recur_Days.j0])
   | succ kj5 =>
    have H := HA.out
    clear HA
    simp only [recur_Days.j0] at H
    by_cases c13 : x30_5 = true
    ·subst c13
     have H1 : (some (([] : List Int), 3)) = some (r1, r2) := by rw [if_pos rfl] at H; exact H
     clear H
     have H := H1
     clear H1
     simp only [Option.some.injEq, Prod.mk.injEq] at H
     obtain ⟨rfl, rfl⟩ := H
     go_wp2
     go_ret2
     exact ⟨_, by first | rfl | (simp [errW_none, errW_some] <;> rfl) | (simp [*, errW_none, errW_some] <;> rfl), by first | exact Kd.R_nil _ _ _ _ _ | exact Kd.N_nil _ _ _ _ _ | exact Kd.V_nil _ _ _ _ _ | exact Kd.Q_nil _ _ _ _ _ | exact Kd.S_nil _ _ _ _ _, be⟩
    ·replace c13 := Bool.eq_false_iff.mpr c13
     subst c13
     have H1 : (if a1 > a2 then (some (([] : List Int), 9)) else (if a2 > (wrap64 (a0_2 + 40000)) then (recur_Days.j1 kj5 a1 a2 true a0_0 a0_1 a0_2 a0_3 a0_4 l0_5 l0_6 l0_7) else (recur_Days.j1 kj5 a1 a2 (decide ((wrap64 (a2 - a1)) > 3000)) a0_0 a0_1 a0_2 a0_3 a0_4 l0_5 l0_6 l0_7))) = some (r1, r2) := by rw [if_neg (show ¬ (false = true) by decide)] at H; exact H
     clear H
     have H := H1
     clear H1
     by_cases c14 : a1 > a2
     ·rw [if_pos c14] at H
      have c14b0 : decide (a2 < a1) = true := decide_eq_true c14
      clear c14
      simp only [Option.some.injEq, Prod.mk.injEq] at H
      obtain ⟨rfl, rfl⟩ := H
      go_wp2
      go_ret2
      exact ⟨_, by first | rfl | (simp [errW_none, errW_some] <;> rfl) | (simp [*, errW_none, errW_some] <;> rfl), by first | exact Kd.R_nil _ _ _ _ _ | exact Kd.N_nil _ _ _ _ _ | exact Kd.V_nil _ _ _ _ _ | exact Kd.Q_nil _ _ _ _ _ | exact Kd.S_nil _ _ _ _ _, be⟩
     ·rw [if_neg c14] at H
      have c14b0 : decide (a2 < a1) = false := decide_eq_false c14
      clear c14
      have HC15 := Aside0.mk H
      clear H
      go_upto_region 8 with (fail)
      go_cut [44] (fun v44 wc => ∃ (kq : Nat) (x44_14 : Bool), v44 = .bool x44_14 ∧ Aside0 (recur_Days.j1 kq a1 a2 x44_14 a0_0 a0_1 a0_2 a0_3 a0_4 l0_5 l0_6 l0_7 = some (r1, r2)) ∧ Aside0 (kq ≤ kj5) ∧ Aside0 (wc.heap[gb181]? = some (.cells #[.int .i64 a0_0, .int .i64 a0_1, .int .i64 a0_2, .int .i64 a0_3, .int .i64 a0_4, (.slice A0_5 l0_5.length c0_5), (.slice A0_6 l0_6.length c0_6), (.slice A0_7 l0_7.length c0_7)] 33 (0, 0))) ∧ Aside0 (Below w.heap.size w wc))
      case first =>
       have H := HC15.out
       clear HC15
       by_cases c16 : a2 > (wrap64 (a0_2 + 40000))
       ·rw [if_pos c16] at H
        have c16b0 : decide ((wrap64 (a0_2 + 40000)) < a2) = true := decide_eq_true c16
        clear c16
        (first | rw [c16b0] | (simp only [i64_w, i32_w]; rw [c16b0]) | skip)
        have H' := Aside0.mk H
        clear H
        obtain ⟨hcz17_0, hcz17_1, hcz17_2, hcz17_3, hcz17_4, hcz17_5, hcz17_6, hcz17_7, hfz17_0, hfz17_1, hfz17_2, hfz17_3, hfz17_4, hfz17_5, hfz17_6, hfz17_7⟩ := bc8 BK181
        go_wp2
        go_meet
        case rel => exact ⟨_, (true), rs, H', ⟨by have := HJ5.out; first | omega | exact Nat.le_refl _⟩, ⟨bk BK181⟩, ⟨be⟩⟩
       ·rw [if_neg c16] at H
        have c16b0 : decide ((wrap64 (a0_2 + 40000)) < a2) = false := decide_eq_false c16
        clear c16
        (first | rw [c16b0] | (simp only [i64_w, i32_w]; rw [c16b0]) | skip)
        have H' := Aside0.mk H
        clear H
        obtain ⟨hcz18_0, hcz18_1, hcz18_2, hcz18_3, hcz18_4, hcz18_5, hcz18_6, hcz18_7, hfz18_0, hfz18_1, hfz18_2, hfz18_3, hfz18_4, hfz18_5, hfz18_6, hfz18_7⟩ := bc8 BK181
        go_wp2
        go_meet
        case rel => exact ⟨_, (decide ((wrap64 (a2 - a1)) > 3000)), rs, H', ⟨by have := HJ5.out; first | omega | exact Nat.le_refl _⟩, ⟨bk BK181⟩, ⟨be⟩⟩
      case rest =>
       clear HC15
       (try clear c1); (try clear p2); (try clear c5); (try clear c5b0); (try clear c5b1); (try clear p6); (try clear c11); (try clear c11b0); (try clear c11b1); (try clear c13); (try clear c14); (try clear c14b0); (try clear c16); (try clear c16b0); (try clear hcz17_0); (try clear hcz17_1); (try clear hcz17_2); (try clear hcz17_3); (try clear hcz17_4); (try clear hcz17_5); (try clear hcz17_6); (try clear hcz17_7); (try clear hcz18_0); (try clear hcz18_1); (try clear hcz18_2); (try clear hcz18_3); (try clear hcz18_4); (try clear hcz18_5); (try clear hcz18_6); (try clear hcz18_7); (try clear hcz8_0); (try clear hcz8_1); (try clear hcz8_2); (try clear hcz8_3); (try clear hcz8_4); (try clear hcz8_5); (try clear hcz8_6); (try clear hcz8_7); (try clear hfz17_0); (try clear hfz17_1); (try clear hfz17_2); (try clear hfz17_3); (try clear hfz17_4); (try clear hfz17_5); (try clear hfz17_6); (try clear hfz17_7); (try clear hfz18_0); (try clear hfz18_1); (try clear hfz18_2); (try clear hfz18_3); (try clear hfz18_4); (try clear hfz18_5); (try clear hfz18_6); (try clear hfz18_7); (try clear hfz8_0); (try clear hfz8_1); (try clear hfz8_2); (try clear hfz8_3); (try clear hfz8_4); (try clear hfz8_5); (try clear hfz8_6); (try clear hfz8_7); (try clear p2)
       obtain ⟨kq, x44_14, rfl, HA, HJ14, BK181, HB⟩ := hcut
       cases kq with
       | zero => exact absurd HA.out (by simp [recur_Days.j1])
       | succ kj14 =>
        have H := HA.out
        clear HA
        simp only [recur_Days.j1] at H
        by_cases c19 : x44_14 = true
        ·subst c19
         have H1 : (some (([] : List Int), 2)) = some (r1, r2) := by rw [if_pos rfl] at H; exact H
         clear H
         have H := H1
         clear H1
         simp only [Option.some.injEq, Prod.mk.injEq] at H
         obtain ⟨rfl, rfl⟩ := H
         go_wp2
         go_ret2
         exact ⟨_, by first | rfl | (simp [errW_none, errW_some] <;> rfl) | (simp [*, errW_none, errW_some] <;> rfl), by first | exact Kd.R_nil _ _ _ _ _ | exact Kd.N_nil _ _ _ _ _ | exact Kd.V_nil _ _ _ _ _ | exact Kd.Q_nil _ _ _ _ _ | exact Kd.S_nil _ _ _ _ _, be⟩
        ·replace c19 := Bool.eq_false_iff.mpr c19
         subst c19
         have H1 : ((recur_explicit.f kj14 a0_0 a0_1 a0_2 a0_3 a0_4 l0_5 l0_6 l0_7).bind fun bt185 => (if bt185.2.2.2.1 > 0 then (recur_Days.j2 kj14 a1 a2 bt185.2.2.1 bt185.1 bt185.2.1 bt185.2.2.1 bt185.2.2.2.1 bt185.2.2.2.2.1 bt185.2.2.2.2.2.1 bt185.2.2.2.2.2.2.1 bt185.2.2.2.2.2.2.2) else (recur_Days.j2 kj14 a1 a2 (mx a1 bt185.2.2.1) bt185.1 bt185.2.1 bt185.2.2.1 bt185.2.2.2.1 bt185.2.2.2.2.1 bt185.2.2.2.2.2.1 bt185.2.2.2.2.2.2.1 bt185.2.2.2.2.2.2.2))) = some (r1, r2) := by rw [if_neg (show ¬ (false = true) by decide)] at H; exact H
         clear H
         have H := H1
         clear H1
         replace H := Option.bind_eq_some_iff.mp H
         obtain ⟨⟨t185, t186, t187, t188, t189, t190, t193, t196⟩, A200, H⟩ := H
         replace H : (if t188 > 0 then (recur_Days.j2 kj14 a1 a2 t187 t185 t186 t187 t188 t189 t190 t193 t196) else (recur_Days.j2 kj14 a1 a2 (mx a1 t187) t185 t186 t187 t188 t189 t190 t193 t196)) = some (r1, r2) := H
         have A20 := Aside0.mk A200
         clear A200
         obtain ⟨ji21, hji21⟩ : ∃ j_ : Int, (mx a1 t187) = j_ := ⟨_, rfl⟩
         replace H : (if t188 > 0 then (recur_Days.j2 kj14 a1 a2 t187 t185 t186 t187 t188 t189 t190 t193 t196) else (recur_Days.j2 kj14 a1 a2 ji21 t185 t186 t187 t188 t189 t190 t193 t196)) = some (r1, r2) := by first | (rw [hji21] at H; exact H) | (simp only [hji21] at H ⊢; exact H)
         (try rw [hji21] at A20)
         have hji21_ : (if a1 < t187 then t187 else a1) = ji21 := hji21
         have HC22 := Aside0.mk H
         clear H
         obtain ⟨hcz23_0, hcz23_1, hcz23_2, hcz23_3, hcz23_4, hcz23_5, hcz23_6, hcz23_7, hfz23_0, hfz23_1, hfz23_2, hfz23_3, hfz23_4, hfz23_5, hfz23_6, hfz23_7⟩ := bc8 BK181
         go_upto_if 53 with (first | ((with_reducible refine gate_callee (f := 56) rfl ?_); refine goesL_ (some 46) rfl rfl Try.func56 kx rfl #[.agg #[.int .i64 a0_0, .int .i64 a0_1, .int .i64 a0_2, .int .i64 a0_3, .int .i64 a0_4, .slice A0_5 l0_5.length c0_5, .slice A0_6 l0_6.length c0_6, .slice A0_7 l0_7.length c0_7]] rfl aa ?_; (with_reducible refine (recur_explicit.calls kj14 a0_0 a0_1 a0_2 a0_3 a0_4 _ _ l0_5 _ _ l0_6 _ _ l0_7 t185 t186 t187 t188 t189 t190 t193 t196 _ ?side1 ?side2 ?side3 ?side4 ?side5 ?side6 A20.out).mono ?_); (case side1 => exact kc (Kd.C_below HR0_5.out HB.out)); (case side2 => exact HC0_5.out); (case side3 => exact kc (Kd.C_below HR0_6.out HB.out)); (case side4 => exact HC0_6.out); (case side5 => exact kc (Kd.C_below HR0_7.out HB.out)); (case side6 => exact HC0_7.out); rintro e w24 ⟨v191, v194, v197, rfl, ho0, ho1, ho2, hb⟩; refine ⟨_, rfl, ?_⟩; have n0_ := Aside0.mk (Kd.R_lower ho0 (below_size be)); have n1_ := Aside0.mk (Kd.R_lower ho1 (below_size be)); have n2_ := Aside0.mk (Kd.R_lower ho2 (below_size be)); have n3_ := bb BK181 hb; have n4_ := Aside0.mk (below_step be hb); clear BK181; clear HB; have HO192 := n0_; have HO195 := n1_; have HO198 := n2_; have BK181 := n3_; have HB := n4_; clear n0_ n1_ n2_ n3_ n4_; (try clear hb); (try clear hb2); (try clear hk); (try clear hi); (try clear ho0); (try clear ho1); (try clear ho2); obtain ⟨hcz25_0, hcz25_1, hcz25_2, hcz25_3, hcz25_4, hcz25_5, hcz25_6, hcz25_7, hfz25_0, hfz25_1, hfz25_2, hfz25_3, hfz25_4, hfz25_5, hfz25_6, hfz25_7⟩ := bc8 BK181; obtain ⟨Ao26, co26, eo26⟩ := Kd.R_slice HO192.out; subst eo26; obtain ⟨Ao27, co27, eo27⟩ := Kd.R_slice HO195.out; subst eo27; obtain ⟨Ao28, co28, eo28⟩ := Kd.R_slice HO198.out; subst eo28))
         (try simp only [Act.put, List.setIfInBounds_toArray, List.set_cons_zero, List.set_cons_succ])
         go_cut [9] (fun v9 wc => ∃ (kq : Nat) (x9_21 : Int), v9 = .int .i64 x9_21 ∧ Aside0 (recur_Days.j2 kq a1 a2 x9_21 t185 t186 t187 t188 t189 t190 t193 t196 = some (r1, r2)) ∧ Aside0 (kq ≤ kj14) ∧ Aside0 (Kd.R (Kd.int .i64) 3 wc w.heap.size (fun k_ => some k_ ≠ ((.slice Ao27 t193.length co27) : Value).ownBlock ∧ some k_ ≠ ((.slice Ao28 t196.length co28) : Value).ownBlock) (.slice Ao26 t190.length co26) t190) ∧ Aside0 (Kd.R (Kd.int .i64) 3 wc w.heap.size (fun k_ => some k_ ≠ ((.slice Ao26 t190.length co26) : Value).ownBlock ∧ some k_ ≠ ((.slice Ao28 t196.length co28) : Value).ownBlock) (.slice Ao27 t193.length co27) t193) ∧ Aside0 (Kd.R (Kd.int .i64) 3 wc w.heap.size (fun k_ => some k_ ≠ ((.slice Ao26 t190.length co26) : Value).ownBlock ∧ some k_ ≠ ((.slice Ao27 t193.length co27) : Value).ownBlock) (.slice Ao28 t196.length co28) t196) ∧ Aside0 (wc.heap[gb181]? = some (.cells #[.int .i64 t185, .int .i64 t186, .int .i64 t187, .int .i64 t188, .int .i64 t189, (.slice Ao26 t190.length co26), (.slice Ao27 t193.length co27), (.slice Ao28 t196.length co28)] 33 (0, 0))) ∧ Aside0 (Below w.heap.size w wc))
         case first =>
          have H := HC22.out
          clear HC22
          by_cases c29 : t188 > 0
          ·rw [if_pos c29] at H
           have c29b0 : decide (0 < t188) = true := decide_eq_true c29
           clear c29
           (first | rw [c29b0] | (simp only [i64_w, i32_w]; rw [c29b0]) | skip)
           have H' := Aside0.mk H
           clear H
           obtain ⟨hcz30_0, hcz30_1, hcz30_2, hcz30_3, hcz30_4, hcz30_5, hcz30_6, hcz30_7, hfz30_0, hfz30_1, hfz30_2, hfz30_3, hfz30_4, hfz30_5, hfz30_6, hfz30_7⟩ := bc8 BK181
           go_wp2
           go_meet
           case rel => exact ⟨_, (t187), rs, H', ⟨by have := HJ5.out; have := HJ14.out; first | omega | exact Nat.le_refl _⟩, ⟨by (with_reducible repeat (first | apply Kd.R_alloc | apply Kd.R_drewN | apply Kd.R_drew)); exact Kd.R_mono (Kd.R_far (p := ⟨gb181, 7, none⟩) (Kd.R_far (p := ⟨gb181, 6, none⟩) (Kd.R_far (p := ⟨gb181, 5, none⟩) (Kd.R_far (p := ⟨gb181, 4, none⟩) (Kd.R_far (p := ⟨gb181, 3, none⟩) (Kd.R_far (p := ⟨gb181, 2, none⟩) (Kd.R_far (p := ⟨gb181, 1, none⟩) (Kd.R_far (p := ⟨gb181, 0, none⟩) (Kd.R_types HO192.out BK181.out (by decide)) (fun _ hk => hk.2) (.int .i64 t185)) (fun _ hk => hk.2) (.int .i64 t186)) (fun _ hk => hk.2) (.int .i64 t187)) (fun _ hk => hk.2) (.int .i64 t188)) (fun _ hk => hk.2) (.int .i64 t189)) (fun _ hk => hk.2) (.slice Ao26 t190.length co26)) (fun _ hk => hk.2) (.slice Ao27 t193.length co27)) (fun _ hk => hk.2) (.slice Ao28 t196.length co28)) (fun _ hk => ⟨hk.1.1, hk.1.2⟩)⟩, ⟨by (with_reducible repeat (first | apply Kd.R_alloc | apply Kd.R_drewN | apply Kd.R_drew)); exact Kd.R_mono (Kd.R_far (p := ⟨gb181, 7, none⟩) (Kd.R_far (p := ⟨gb181, 6, none⟩) (Kd.R_far (p := ⟨gb181, 5, none⟩) (Kd.R_far (p := ⟨gb181, 4, none⟩) (Kd.R_far (p := ⟨gb181, 3, none⟩) (Kd.R_far (p := ⟨gb181, 2, none⟩) (Kd.R_far (p := ⟨gb181, 1, none⟩) (Kd.R_far (p := ⟨gb181, 0, none⟩) (Kd.R_types HO195.out BK181.out (by decide)) (fun _ hk => hk.2) (.int .i64 t185)) (fun _ hk => hk.2) (.int .i64 t186)) (fun _ hk => hk.2) (.int .i64 t187)) (fun _ hk => hk.2) (.int .i64 t188)) (fun _ hk => hk.2) (.int .i64 t189)) (fun _ hk => hk.2) (.slice Ao26 t190.length co26)) (fun _ hk => hk.2) (.slice Ao27 t193.length co27)) (fun _ hk => hk.2) (.slice Ao28 t196.length co28)) (fun _ hk => ⟨hk.1.1, hk.1.2⟩)⟩, ⟨by (with_reducible repeat (first | apply Kd.R_alloc | apply Kd.R_drewN | apply Kd.R_drew)); exact Kd.R_mono (Kd.R_far (p := ⟨gb181, 7, none⟩) (Kd.R_far (p := ⟨gb181, 6, none⟩) (Kd.R_far (p := ⟨gb181, 5, none⟩) (Kd.R_far (p := ⟨gb181, 4, none⟩) (Kd.R_far (p := ⟨gb181, 3, none⟩) (Kd.R_far (p := ⟨gb181, 2, none⟩) (Kd.R_far (p := ⟨gb181, 1, none⟩) (Kd.R_far (p := ⟨gb181, 0, none⟩) (Kd.R_types HO198.out BK181.out (by decide)) (fun _ hk => hk.2) (.int .i64 t185)) (fun _ hk => hk.2) (.int .i64 t186)) (fun _ hk => hk.2) (.int .i64 t187)) (fun _ hk => hk.2) (.int .i64 t188)) (fun _ hk => hk.2) (.int .i64 t189)) (fun _ hk => hk.2) (.slice Ao26 t190.length co26)) (fun _ hk => hk.2) (.slice Ao27 t193.length co27)) (fun _ hk => hk.2) (.slice Ao28 t196.length co28)) (fun _ hk => ⟨hk.1.1, hk.1.2⟩)⟩, ⟨bk BK181⟩, ⟨be⟩⟩
          ·rw [if_neg c29] at H
           have c29b0 : decide (0 < t188) = false := decide_eq_false c29
           clear c29
           (first | rw [c29b0] | (simp only [i64_w, i32_w]; rw [c29b0]) | skip)
           have H' := Aside0.mk H
           clear H
           go_wp2
           go_meet
           case rel => exact ⟨_, (ji21), (by first | rfl | (simp; done) | (simp only [← hji21] <;> (first | rfl | simp)) | (simp [*]; done)), H', ⟨by have := HJ5.out; have := HJ14.out; first | omega | exact Nat.le_refl _⟩, ⟨by (with_reducible repeat (first | apply Kd.R_alloc | apply Kd.R_drewN | apply Kd.R_drew)); exact Kd.R_mono (Kd.R_far (p := ⟨gb181, 7, none⟩) (Kd.R_far (p := ⟨gb181, 6, none⟩) (Kd.R_far (p := ⟨gb181, 5, none⟩) (Kd.R_far (p := ⟨gb181, 4, none⟩) (Kd.R_far (p := ⟨gb181, 3, none⟩) (Kd.R_far (p := ⟨gb181, 2, none⟩) (Kd.R_far (p := ⟨gb181, 1, none⟩) (Kd.R_far (p := ⟨gb181, 0, none⟩) (Kd.R_types HO192.out BK181.out (by decide)) (fun _ hk => hk.2) (.int .i64 t185)) (fun _ hk => hk.2) (.int .i64 t186)) (fun _ hk => hk.2) (.int .i64 t187)) (fun _ hk => hk.2) (.int .i64 t188)) (fun _ hk => hk.2) (.int .i64 t189)) (fun _ hk => hk.2) (.slice Ao26 t190.length co26)) (fun _ hk => hk.2) (.slice Ao27 t193.length co27)) (fun _ hk => hk.2) (.slice Ao28 t196.length co28)) (fun _ hk => ⟨hk.1.1, hk.1.2⟩)⟩, ⟨by (with_reducible repeat (first | apply Kd.R_alloc | apply Kd.R_drewN | apply Kd.R_drew)); exact Kd.R_mono (Kd.R_far (p := ⟨gb181, 7, none⟩) (Kd.R_far (p := ⟨gb181, 6, none⟩) (Kd.R_far (p := ⟨gb181, 5, none⟩) (Kd.R_far (p := ⟨gb181, 4, none⟩) (Kd.R_far (p := ⟨gb181, 3, none⟩) (Kd.R_far (p := ⟨gb181, 2, none⟩) (Kd.R_far (p := ⟨gb181, 1, none⟩) (Kd.R_far (p := ⟨gb181, 0, none⟩) (Kd.R_types HO195.out BK181.out (by decide)) (fun _ hk => hk.2) (.int .i64 t185)) (fun _ hk => hk.2) (.int .i64 t186)) (fun _ hk => hk.2) (.int .i64 t187)) (fun _ hk => hk.2) (.int .i64 t188)) (fun _ hk => hk.2) (.int .i64 t189)) (fun _ hk => hk.2) (.slice Ao26 t190.length co26)) (fun _ hk => hk.2) (.slice Ao27 t193.length co27)) (fun _ hk => hk.2) (.slice Ao28 t196.length co28)) (fun _ hk => ⟨hk.1.1, hk.1.2⟩)⟩, ⟨by (with_reducible repeat (first | apply Kd.R_alloc | apply Kd.R_drewN | apply Kd.R_drew)); exact Kd.R_mono (Kd.R_far (p := ⟨gb181, 7, none⟩) (Kd.R_far (p := ⟨gb181, 6, none⟩) (Kd.R_far (p := ⟨gb181, 5, none⟩) (Kd.R_far (p := ⟨gb181, 4, none⟩) (Kd.R_far (p := ⟨gb181, 3, none⟩) (Kd.R_far (p := ⟨gb181, 2, none⟩) (Kd.R_far (p := ⟨gb181, 1, none⟩) (Kd.R_far (p := ⟨gb181, 0, none⟩) (Kd.R_types HO198.out BK181.out (by decide)) (fun _ hk => hk.2) (.int .i64 t185)) (fun _ hk => hk.2) (.int .i64 t186)) (fun _ hk => hk.2) (.int .i64 t187)) (fun _ hk => hk.2) (.int .i64 t188)) (fun _ hk => hk.2) (.int .i64 t189)) (fun _ hk => hk.2) (.slice Ao26 t190.length co26)) (fun _ hk => hk.2) (.slice Ao27 t193.length co27)) (fun _ hk => hk.2) (.slice Ao28 t196.length co28)) (fun _ hk => ⟨hk.1.1, hk.1.2⟩)⟩, ⟨bk BK181⟩, ⟨be⟩⟩
         case rest =>
          clear HC22
          (try clear c1); (try clear c2); (try clear p2); (try clear c5); (try clear c5b0); (try clear c5b1); (try clear p6); (try clear c11); (try clear c11b0); (try clear c11b1); (try clear c13); (try clear c14); (try clear c14b0); (try clear c16); (try clear c16b0); (try clear c19); (try clear c29); (try clear c29b0); (try clear hcz17_0); (try clear hcz17_1); (try clear hcz17_2); (try clear hcz17_3); (try clear hcz17_4); (try clear hcz17_5); (try clear hcz17_6); (try clear hcz17_7); (try clear hcz18_0); (try clear hcz18_1); (try clear hcz18_2); (try clear hcz18_3); (try clear hcz18_4); (try clear hcz18_5); (try clear hcz18_6); (try clear hcz18_7); (try clear hcz23_0); (try clear hcz23_1); (try clear hcz23_2); (try clear hcz23_3); (try clear hcz23_4); (try clear hcz23_5); (try clear hcz23_6); (try clear hcz23_7); (try clear hcz25_0); (try clear hcz25_1); (try clear hcz25_2); (try clear hcz25_3); (try clear hcz25_4); (try clear hcz25_5); (try clear hcz25_6); (try clear hcz25_7); (try clear hcz30_0); (try clear hcz30_1); (try clear hcz30_2); (try clear hcz30_3); (try clear hcz30_4); (try clear hcz30_5); (try clear hcz30_6); (try clear hcz30_7); (try clear hcz8_0); (try clear hcz8_1); (try clear hcz8_2); (try clear hcz8_3); (try clear hcz8_4); (try clear hcz8_5); (try clear hcz8_6); (try clear hcz8_7); (try clear hfz17_0); (try clear hfz17_1); (try clear hfz17_2); (try clear hfz17_3); (try clear hfz17_4); (try clear hfz17_5); (try clear hfz17_6); (try clear hfz17_7); (try clear hfz18_0); (try clear hfz18_1); (try clear hfz18_2); (try clear hfz18_3); (try clear hfz18_4); (try clear hfz18_5); (try clear hfz18_6); (try clear hfz18_7); (try clear hfz23_0); (try clear hfz23_1); (try clear hfz23_2); (try clear hfz23_3); (try clear hfz23_4); (try clear hfz23_5); (try clear hfz23_6); (try clear hfz23_7); (try clear hfz25_0); (try clear hfz25_1); (try clear hfz25_2); (try clear hfz25_3); (try clear hfz25_4); (try clear hfz25_5); (try clear hfz25_6); (try clear hfz25_7); (try clear hfz30_0); (try clear hfz30_1); (try clear hfz30_2); (try clear hfz30_3); (try clear hfz30_4); (try clear hfz30_5); (try clear hfz30_6); (try clear hfz30_7); (try clear hfz8_0); (try clear hfz8_1); (try clear hfz8_2); (try clear hfz8_3); (try clear hfz8_4); (try clear hfz8_5); (try clear hfz8_6); (try clear hfz8_7); (try clear p2); (try clear p6)
          obtain ⟨kq, x9_21, rfl, HA, HJ21, HO_182005, HO_182006, HO_182007, BK181, HB⟩ := hcut
          cases kq with
          | zero => exact absurd HA.out (by simp [recur_Days.j2])
          | succ kj21 =>
           have H := HA.out
           clear HA
           simp only [recur_Days.j2] at H
           replace H := Option.bind_eq_some_iff.mp H
           obtain ⟨⟨t199, t200, t201, t202⟩, A310, H⟩ := H
           replace H : ((line_Date.f kj21 x9_21).bind fun bt204 => ((recur_length.f bt204.1 bt204.2.1 bt204.2.2.1).bind fun t209 => (recur_Days.l0 kj21 a1 a2 ([] : List Int) 0 t209 x9_21 t185 t186 t187 t188 t189 t190 t193 t196 t199 t200 t201 bt204.1 bt204.2.1 bt204.2.2.1))) = some (r1, r2) := H
           have A31 := Aside0.mk A310
           clear A310
           replace H := Option.bind_eq_some_iff.mp H
           obtain ⟨⟨t204, t205, t206, t207⟩, A320, H⟩ := H
           replace H : ((recur_length.f t204 t205 t206).bind fun t209 => (recur_Days.l0 kj21 a1 a2 ([] : List Int) 0 t209 x9_21 t185 t186 t187 t188 t189 t190 t193 t196 t199 t200 t201 t204 t205 t206)) = some (r1, r2) := H
           have A32 := Aside0.mk A320
           clear A320
           replace H := Option.bind_eq_some_iff.mp H
           obtain ⟨t209, A330, H⟩ := H
           replace H : (recur_Days.l0 kj21 a1 a2 ([] : List Int) 0 t209 x9_21 t185 t186 t187 t188 t189 t190 t193 t196 t199 t200 t201 t204 t205 t206) = some (r1, r2) := H
           have A33 := Aside0.mk A330
           clear A330
           have H' := Aside0.mk H
           clear H
           obtain ⟨hcz34_0, hcz34_1, hcz34_2, hcz34_3, hcz34_4, hcz34_5, hcz34_6, hcz34_7, hfz34_0, hfz34_1, hfz34_2, hfz34_3, hfz34_4, hfz34_5, hfz34_6, hfz34_7⟩ := bc8 BK181
           go_wp2_with (first | ((with_reducible refine gate_callee (f := 57) rfl ?_); refine goesL_ (some 59) rfl rfl Try.func57 kx rfl #[.int .i64 t187] rfl aa ?_; (with_reducible refine (line_Date.calls kj21 t187 t199 t200 t201 t202 _ A31.out).mono ?_); rintro e w35 ⟨rfl, hb⟩; refine ⟨_, rfl, ?_⟩; have n0_ := Aside0.mk (Kd.R_below (by (with_reducible repeat (first | apply Kd.R_alloc | apply Kd.R_drewN | apply Kd.R_drew)); exact HO_182005.out) hb); have n1_ := Aside0.mk (Kd.R_below (by (with_reducible repeat (first | apply Kd.R_alloc | apply Kd.R_drewN | apply Kd.R_drew)); exact HO_182006.out) hb); have n2_ := Aside0.mk (Kd.R_below (by (with_reducible repeat (first | apply Kd.R_alloc | apply Kd.R_drewN | apply Kd.R_drew)); exact HO_182007.out) hb); have n3_ := bb BK181 hb; have n4_ := Aside0.mk (below_step be hb); clear HO_182005; clear HO_182006; clear HO_182007; clear BK181; clear HB; have HO_182005 := n0_; have HO_182006 := n1_; have HO_182007 := n2_; have BK181 := n3_; have HB := n4_; clear n0_ n1_ n2_ n3_ n4_; (try clear hb); (try clear hb2); (try clear hk); (try clear hi)) | ((with_reducible refine gate_dst (N := 10) rfl ?_); refine box_event ?hg (N := 10) ?hd (cs := #[.int .i64 0, .int .i64 0, .int .i64 0]) (t := 107) ?hr ?_; (case hd => rfl); (case hg => rfl); (case hr => first | (go_simp; done) | (go_simp; rfl)); intro gb203 hg w36 hbox hb; have n0_ := Aside0.mk (Kd.R_below (by (with_reducible repeat (first | apply Kd.R_alloc | apply Kd.R_drewN | apply Kd.R_drew)); exact HO_182005.out) hb); have n1_ := Aside0.mk (Kd.R_below (by (with_reducible repeat (first | apply Kd.R_alloc | apply Kd.R_drewN | apply Kd.R_drew)); exact HO_182006.out) hb); have n2_ := Aside0.mk (Kd.R_below (by (with_reducible repeat (first | apply Kd.R_alloc | apply Kd.R_drewN | apply Kd.R_drew)); exact HO_182007.out) hb); have n3_ := bb BK181 hb; have n4_ := Aside0.mk (below_step be hb); have n5_ := Aside0.mk (hbox); have n6_ := gs hg HB; have n7_ := n6_; have n8_ := nl BK181 hg; have n9_ := ns n8_; clear HO_182005; clear HO_182006; clear HO_182007; clear BK181; clear HB; have HO_182005 := n0_; have HO_182006 := n1_; have HO_182007 := n2_; have BK181 := n3_; have HB := n4_; have BK203 := n5_; have GW203 := n6_; have GE203 := n7_; have NB181_203 := n8_; have NB203_181 := n9_; clear n0_ n1_ n2_ n3_ n4_ n5_ n6_ n7_ n8_ n9_; clear hb hbox hg; have hnb37 := NB203_181.out; have hnc37 := NB181_203.out; obtain ⟨hcz38_0, hcz38_1, hcz38_2, hfz38_0, hfz38_1, hfz38_2⟩ := bc3 BK203) | ((with_reducible refine gate_callee (f := 57) rfl ?_); refine goesL_ (some 64) rfl rfl Try.func57 kx rfl #[.int .i64 x9_21] rfl aa ?_; (with_reducible refine (line_Date.calls kj21 x9_21 t204 t205 t206 t207 _ A32.out).mono ?_); rintro e w39 ⟨rfl, hb⟩; refine ⟨_, rfl, ?_⟩; have n0_ := Aside0.mk (Kd.R_below (by (with_reducible repeat (first | apply Kd.R_alloc | apply Kd.R_drewN | apply Kd.R_drew)); exact (Kd.R_mono (Kd.R_far (p := ⟨gb203, 2, none⟩) (Kd.R_far (p := ⟨gb203, 1, none⟩) (Kd.R_far (p := ⟨gb203, 0, none⟩) (Kd.R_types HO_182005.out BK203.out (by decide)) (fun _ hk => hk.2) (.int .i64 t199)) (fun _ hk => hk.2) (.int .i64 t200)) (fun _ hk => hk.2) (.int .i64 t201)) (fun _ h_ => h_.1))) hb); have n1_ := Aside0.mk (Kd.R_below (by (with_reducible repeat (first | apply Kd.R_alloc | apply Kd.R_drewN | apply Kd.R_drew)); exact (Kd.R_mono (Kd.R_far (p := ⟨gb203, 2, none⟩) (Kd.R_far (p := ⟨gb203, 1, none⟩) (Kd.R_far (p := ⟨gb203, 0, none⟩) (Kd.R_types HO_182006.out BK203.out (by decide)) (fun _ hk => hk.2) (.int .i64 t199)) (fun _ hk => hk.2) (.int .i64 t200)) (fun _ hk => hk.2) (.int .i64 t201)) (fun _ h_ => h_.1))) hb); have n2_ := Aside0.mk (Kd.R_below (by (with_reducible repeat (first | apply Kd.R_alloc | apply Kd.R_drewN | apply Kd.R_drew)); exact (Kd.R_mono (Kd.R_far (p := ⟨gb203, 2, none⟩) (Kd.R_far (p := ⟨gb203, 1, none⟩) (Kd.R_far (p := ⟨gb203, 0, none⟩) (Kd.R_types HO_182007.out BK203.out (by decide)) (fun _ hk => hk.2) (.int .i64 t199)) (fun _ hk => hk.2) (.int .i64 t200)) (fun _ hk => hk.2) (.int .i64 t201)) (fun _ h_ => h_.1))) hb); have n3_ := bb BK181 hb; have n4_ := Aside0.mk (blk_below (g := gb203) (o := .cells #[.int .i64 t199, .int .i64 t200, .int .i64 t201] 107 (0, 0)) (bk BK203) hb); have n5_ := Aside0.mk (below_step be hb); clear HO_182005; clear HO_182006; clear HO_182007; clear BK181; clear BK203; clear HB; have HO_182005 := n0_; have HO_182006 := n1_; have HO_182007 := n2_; have BK181 := n3_; have BK203 := n4_; have HB := n5_; clear n0_ n1_ n2_ n3_ n4_ n5_; (try clear hb); (try clear hb2); (try clear hk); (try clear hi)) | ((with_reducible refine gate_dst (N := 14) rfl ?_); refine box_event ?hg (N := 14) ?hd (cs := #[.int .i64 0, .int .i64 0, .int .i64 0]) (t := 107) ?hr ?_; (case hd => rfl); (case hg => rfl); (case hr => first | (go_simp; done) | (go_simp; rfl)); intro gb208 hg w40 hbox hb; have n0_ := Aside0.mk (Kd.R_below (by (with_reducible repeat (first | apply Kd.R_alloc | apply Kd.R_drewN | apply Kd.R_drew)); exact HO_182005.out) hb); have n1_ := Aside0.mk (Kd.R_below (by (with_reducible repeat (first | apply Kd.R_alloc | apply Kd.R_drewN | apply Kd.R_drew)); exact HO_182006.out) hb); have n2_ := Aside0.mk (Kd.R_below (by (with_reducible repeat (first | apply Kd.R_alloc | apply Kd.R_drewN | apply Kd.R_drew)); exact HO_182007.out) hb); have n3_ := bb BK181 hb; have n4_ := bb BK203 hb; have n5_ := Aside0.mk (below_step be hb); have n6_ := Aside0.mk (hbox); have n7_ := gs hg HB; have n8_ := n7_; have n9_ := nl BK181 hg; have n10_ := ns n9_; have n11_ := nl BK203 hg; have n12_ := ns n11_; clear HO_182005; clear HO_182006; clear HO_182007; clear BK181; clear BK203; clear HB; have HO_182005 := n0_; have HO_182006 := n1_; have HO_182007 := n2_; have BK181 := n3_; have BK203 := n4_; have HB := n5_; have BK208 := n6_; have GW208 := n7_; have GE208 := n8_; have NB181_208 := n9_; have NB208_181 := n10_; have NB203_208 := n11_; have NB208_203 := n12_; clear n0_ n1_ n2_ n3_ n4_ n5_ n6_ n7_ n8_ n9_ n10_ n11_ n12_; clear hb hbox hg; have hnb41 := NB208_181.out; have hnc41 := NB181_208.out; have hnb42 := NB208_203.out; have hnc42 := NB203_208.out; obtain ⟨hcz43_0, hcz43_1, hcz43_2, hfz43_0, hfz43_1, hfz43_2⟩ := bc3 BK208) | ((with_reducible refine gate_callee (f := 58) rfl ?_); refine goesL_ (some 68) rfl rfl Try.func58 kx rfl #[.agg #[.int .i64 t204, .int .i64 t205, .int .i64 t206]] rfl aa ?_; (with_reducible refine (recur_length.calls t204 t205 t206 t209 _ A33.out).mono ?_); rintro e w44 ⟨rfl, hb⟩; refine ⟨_, rfl, ?_⟩; have n0_ := Aside0.mk (Kd.R_below (by (with_reducible repeat (first | apply Kd.R_alloc | apply Kd.R_drewN | apply Kd.R_drew)); exact (Kd.R_mono (Kd.R_far (p := ⟨gb208, 2, none⟩) (Kd.R_far (p := ⟨gb208, 1, none⟩) (Kd.R_far (p := ⟨gb208, 0, none⟩) (Kd.R_types HO_182005.out BK208.out (by decide)) (fun _ hk => hk.2) (.int .i64 t204)) (fun _ hk => hk.2) (.int .i64 t205)) (fun _ hk => hk.2) (.int .i64 t206)) (fun _ h_ => h_.1))) hb); have n1_ := Aside0.mk (Kd.R_below (by (with_reducible repeat (first | apply Kd.R_alloc | apply Kd.R_drewN | apply Kd.R_drew)); exact (Kd.R_mono (Kd.R_far (p := ⟨gb208, 2, none⟩) (Kd.R_far (p := ⟨gb208, 1, none⟩) (Kd.R_far (p := ⟨gb208, 0, none⟩) (Kd.R_types HO_182006.out BK208.out (by decide)) (fun _ hk => hk.2) (.int .i64 t204)) (fun _ hk => hk.2) (.int .i64 t205)) (fun _ hk => hk.2) (.int .i64 t206)) (fun _ h_ => h_.1))) hb); have n2_ := Aside0.mk (Kd.R_below (by (with_reducible repeat (first | apply Kd.R_alloc | apply Kd.R_drewN | apply Kd.R_drew)); exact (Kd.R_mono (Kd.R_far (p := ⟨gb208, 2, none⟩) (Kd.R_far (p := ⟨gb208, 1, none⟩) (Kd.R_far (p := ⟨gb208, 0, none⟩) (Kd.R_types HO_182007.out BK208.out (by decide)) (fun _ hk => hk.2) (.int .i64 t204)) (fun _ hk => hk.2) (.int .i64 t205)) (fun _ hk => hk.2) (.int .i64 t206)) (fun _ h_ => h_.1))) hb); have n3_ := bb BK181 hb; have n4_ := bb BK203 hb; have n5_ := Aside0.mk (blk_below (g := gb208) (o := .cells #[.int .i64 t204, .int .i64 t205, .int .i64 t206] 107 (0, 0)) (bk BK208) hb); have n6_ := Aside0.mk (below_step be hb); clear HO_182005; clear HO_182006; clear HO_182007; clear BK181; clear BK203; clear BK208; clear HB; have HO_182005 := n0_; have HO_182006 := n1_; have HO_182007 := n2_; have BK181 := n3_; have BK203 := n4_; have BK208 := n5_; have HB := n6_; clear n0_ n1_ n2_ n3_ n4_ n5_ n6_; (try clear hb); (try clear hb2); (try clear hk); (try clear hi)))
           go_loopg [12, 13, 16, 17] kj21 (fun kq v12 v13 v16 v17 w' => ∃ (x12_4 : List Int) (x13_4 : Int) (x16_4 : Int) (x17_4 : Int) (x209000_4 : Int) (x209001_4 : Int) (x209002_4 : Int), v13 = .int .i64 x13_4 ∧ v16 = .int .i64 x16_4 ∧ v17 = .int .i64 x17_4 ∧ Aside0 (recur_Days.l0 kq a1 a2 x12_4 x13_4 x16_4 x17_4 t185 t186 t187 t188 t189 t190 t193 t196 t199 t200 t201 x209000_4 x209001_4 x209002_4 = some (r1, r2)) ∧ Aside0 (kq ≤ kj21) ∧ Aside0 (Kd.R (Kd.int .i64) 3 w' w.heap.size (fun k_ => some k_ ≠ ((.slice Ao26 t190.length co26) : Value).ownBlock ∧ some k_ ≠ ((.slice Ao27 t193.length co27) : Value).ownBlock ∧ some k_ ≠ ((.slice Ao28 t196.length co28) : Value).ownBlock) v12 x12_4) ∧ Aside0 (Kd.R (Kd.int .i64) 3 w' w.heap.size (fun k_ => some k_ ≠ (v12 : Value).ownBlock ∧ some k_ ≠ ((.slice Ao27 t193.length co27) : Value).ownBlock ∧ some k_ ≠ ((.slice Ao28 t196.length co28) : Value).ownBlock) (.slice Ao26 t190.length co26) t190) ∧ Aside0 (Kd.R (Kd.int .i64) 3 w' w.heap.size (fun k_ => some k_ ≠ (v12 : Value).ownBlock ∧ some k_ ≠ ((.slice Ao26 t190.length co26) : Value).ownBlock ∧ some k_ ≠ ((.slice Ao28 t196.length co28) : Value).ownBlock) (.slice Ao27 t193.length co27) t193) ∧ Aside0 (Kd.R (Kd.int .i64) 3 w' w.heap.size (fun k_ => some k_ ≠ (v12 : Value).ownBlock ∧ some k_ ≠ ((.slice Ao26 t190.length co26) : Value).ownBlock ∧ some k_ ≠ ((.slice Ao27 t193.length co27) : Value).ownBlock) (.slice Ao28 t196.length co28) t196) ∧ Aside0 (w'.heap[gb181]? = some (.cells #[.int .i64 t185, .int .i64 t186, .int .i64 t187, .int .i64 t188, .int .i64 t189, (.slice Ao26 t190.length co26), (.slice Ao27 t193.length co27), (.slice Ao28 t196.length co28)] 33 (0, 0))) ∧ Aside0 (w'.heap[gb203]? = some (.cells #[.int .i64 t199, .int .i64 t200, .int .i64 t201] 107 (0, 0))) ∧ Aside0 (w'.heap[gb208]? = some (.cells #[.int .i64 x209000_4, .int .i64 x209001_4, .int .i64 x209002_4] 107 (0, 0))) ∧ Aside0 (Below w.heap.size w w'))
           case atStart => exact ⟨(([] : List Int)), (0), (t209), (x9_21), (t204), (t205), (t206), rs, rs, rs, H', ⟨Nat.le_refl _⟩, ⟨by first | exact Kd.R_nil _ _ _ _ _ | exact Kd.N_nil _ _ _ _ _ | exact Kd.V_nil _ _ _ _ _ | exact Kd.Q_nil _ _ _ _ _ | exact Kd.S_nil _ _ _ _ _⟩, ⟨by (with_reducible repeat (first | apply Kd.R_alloc | apply Kd.R_drewN | apply Kd.R_drew)); exact Kd.R_mono HO_182005.out (fun _ hk => ⟨(by simp [Value.ownBlock]), ⟨hk.1, hk.2⟩⟩)⟩, ⟨by (with_reducible repeat (first | apply Kd.R_alloc | apply Kd.R_drewN | apply Kd.R_drew)); exact Kd.R_mono HO_182006.out (fun _ hk => ⟨(by simp [Value.ownBlock]), ⟨hk.1, hk.2⟩⟩)⟩, ⟨by (with_reducible repeat (first | apply Kd.R_alloc | apply Kd.R_drewN | apply Kd.R_drew)); exact Kd.R_mono HO_182007.out (fun _ hk => ⟨(by simp [Value.ownBlock]), ⟨hk.1, hk.2⟩⟩)⟩, ⟨bk BK181⟩, ⟨bk BK203⟩, ⟨bk BK208⟩, ⟨be⟩⟩
           case round =>
            clear H'
            (try clear c1); (try clear c2); (try clear p2); (try clear c3); (try clear c4); (try clear c5); (try clear c5b0); (try clear c5b1); (try clear p6); (try clear c11); (try clear c11b0); (try clear c11b1); (try clear c13); (try clear c14); (try clear c14b0); (try clear c16); (try clear c16b0); (try clear c19); (try clear c29); (try clear c29b0); (try clear c37); (try clear c41); (try clear c42); (try clear hcz17_0); (try clear hcz17_1); (try clear hcz17_2); (try clear hcz17_3); (try clear hcz17_4); (try clear hcz17_5); (try clear hcz17_6); (try clear hcz17_7); (try clear hcz18_0); (try clear hcz18_1); (try clear hcz18_2); (try clear hcz18_3); (try clear hcz18_4); (try clear hcz18_5); (try clear hcz18_6); (try clear hcz18_7); (try clear hcz23_0); (try clear hcz23_1); (try clear hcz23_2); (try clear hcz23_3); (try clear hcz23_4); (try clear hcz23_5); (try clear hcz23_6); (try clear hcz23_7); (try clear hcz25_0); (try clear hcz25_1); (try clear hcz25_2); (try clear hcz25_3); (try clear hcz25_4); (try clear hcz25_5); (try clear hcz25_6); (try clear hcz25_7); (try clear hcz30_0); (try clear hcz30_1); (try clear hcz30_2); (try clear hcz30_3); (try clear hcz30_4); (try clear hcz30_5); (try clear hcz30_6); (try clear hcz30_7); (try clear hcz34_0); (try clear hcz34_1); (try clear hcz34_2); (try clear hcz34_3); (try clear hcz34_4); (try clear hcz34_5); (try clear hcz34_6); (try clear hcz34_7); (try clear hcz38_0); (try clear hcz38_1); (try clear hcz38_2); (try clear hcz43_0); (try clear hcz43_1); (try clear hcz43_2); (try clear hcz8_0); (try clear hcz8_1); (try clear hcz8_2); (try clear hcz8_3); (try clear hcz8_4); (try clear hcz8_5); (try clear hcz8_6); (try clear hcz8_7); (try clear hfz17_0); (try clear hfz17_1); (try clear hfz17_2); (try clear hfz17_3); (try clear hfz17_4); (try clear hfz17_5); (try clear hfz17_6); (try clear hfz17_7); (try clear hfz18_0); (try clear hfz18_1); (try clear hfz18_2); (try clear hfz18_3); (try clear hfz18_4); (try clear hfz18_5); (try clear hfz18_6); (try clear hfz18_7); (try clear hfz23_0); (try clear hfz23_1); (try clear hfz23_2); (try clear hfz23_3); (try clear hfz23_4); (try clear hfz23_5); (try clear hfz23_6); (try clear hfz23_7); (try clear hfz25_0); (try clear hfz25_1); (try clear hfz25_2); (try clear hfz25_3); (try clear hfz25_4); (try clear hfz25_5); (try clear hfz25_6); (try clear hfz25_7); (try clear hfz30_0); (try clear hfz30_1); (try clear hfz30_2); (try clear hfz30_3); (try clear hfz30_4); (try clear hfz30_5); (try clear hfz30_6); (try clear hfz30_7); (try clear hfz34_0); (try clear hfz34_1); (try clear hfz34_2); (try clear hfz34_3); (try clear hfz34_4); (try clear hfz34_5); (try clear hfz34_6); (try clear hfz34_7); (try clear hfz38_0); (try clear hfz38_1); (try clear hfz38_2); (try clear hfz43_0); (try clear hfz43_1); (try clear hfz43_2); (try clear hfz8_0); (try clear hfz8_1); (try clear hfz8_2); (try clear hfz8_3); (try clear hfz8_4); (try clear hfz8_5); (try clear hfz8_6); (try clear hfz8_7); (try clear p2); (try clear p6)
            obtain ⟨x12_4, x13_4, x16_4, x17_4, x209000_4, x209001_4, x209002_4, rfl, rfl, rfl, HA, HK4, HO_12, HO_182005, HO_182006, HO_182007, BK181, BK203, BK208, HB⟩ := hrel
            cases gk with
            | zero => exact absurd HA.out (by simp [recur_Days.l0])
            | succ k4 =>
             have H := HA.out
             clear HA
             simp only [recur_Days.l0] at H
             obtain ⟨ji45, hji45⟩ : ∃ j_ : Int, (mn a2 t189) = j_ := ⟨_, rfl⟩
             replace H : (if x17_4 ≤ (ji45) then ((recur_fits.f k4 t185 t186 t187 t188 t189 t190 t193 t196 t199 t200 t201 x209000_4 x209001_4 x209002_4 x17_4 x16_4).bind fun t210 => (if t210 = true then (if t188 > 0 then (recur_Days.j4 k4 a1 a2 x12_4 (wrap64 (x13_4 + 1)) x16_4 x17_4 (decide ((wrap64 (x13_4 + 1)) > t188)) t185 t186 t187 t188 t189 t190 t193 t196 t199 t200 t201 x209000_4 x209001_4 x209002_4) else (recur_Days.j4 k4 a1 a2 x12_4 (wrap64 (x13_4 + 1)) x16_4 x17_4 false t185 t186 t187 t188 t189 t190 t193 t196 t199 t200 t201 x209000_4 x209001_4 x209002_4)) else (recur_Days.j5 k4 a1 a2 x12_4 x13_4 x16_4 x17_4 t185 t186 t187 t188 t189 t190 t193 t196 t199 t200 t201 x209000_4 x209001_4 x209002_4))) else (some (x12_4, 0))) = some (r1, r2) := by first | (rw [hji45] at H; exact H) | (simp only [hji45] at H ⊢; exact H)
             have hji45_ : (if t189 < a2 then t189 else a2) = ji45 := hji45
             by_cases c46 : x17_4 ≤ (ji45)
             ·rw [if_pos c46] at H
              have c46b0 : decide (x17_4 ≤ (ji45)) = true := decide_eq_true c46
              clear c46
              replace H := Option.bind_eq_some_iff.mp H
              obtain ⟨t210, A470, H⟩ := H
              replace H : (if t210 = true then (if t188 > 0 then (recur_Days.j4 k4 a1 a2 x12_4 (wrap64 (x13_4 + 1)) x16_4 x17_4 (decide ((wrap64 (x13_4 + 1)) > t188)) t185 t186 t187 t188 t189 t190 t193 t196 t199 t200 t201 x209000_4 x209001_4 x209002_4) else (recur_Days.j4 k4 a1 a2 x12_4 (wrap64 (x13_4 + 1)) x16_4 x17_4 false t185 t186 t187 t188 t189 t190 t193 t196 t199 t200 t201 x209000_4 x209001_4 x209002_4)) else (recur_Days.j5 k4 a1 a2 x12_4 x13_4 x16_4 x17_4 t185 t186 t187 t188 t189 t190 t193 t196 t199 t200 t201 x209000_4 x209001_4 x209002_4)) = some (r1, r2) := H
              have A47 := Aside0.mk A470
              clear A470
              have HC48 := Aside0.mk H
              clear H
              have hnb49 := NB181_203.out
              have hnc49 := NB203_181.out
              have hnb50 := NB181_208.out
              have hnc50 := NB208_181.out
              obtain ⟨hcz51_0, hcz51_1, hcz51_2, hcz51_3, hcz51_4, hcz51_5, hcz51_6, hcz51_7, hfz51_0, hfz51_1, hfz51_2, hfz51_3, hfz51_4, hfz51_5, hfz51_6, hfz51_7⟩ := bc8 BK181
              have hnb52 := NB203_208.out
              have hnc52 := NB208_203.out
              obtain ⟨hcz53_0, hcz53_1, hcz53_2, hfz53_0, hfz53_1, hfz53_2⟩ := bc3 BK203
              obtain ⟨hcz54_0, hcz54_1, hcz54_2, hfz54_0, hfz54_1, hfz54_2⟩ := bc3 BK208
              go_upto_if 83 with (first | ((with_reducible refine gate_callee (f := 59) rfl ?_); refine goesL_ (some 83) rfl rfl Try.func59 kx rfl #[.agg #[.int .i64 t185, .int .i64 t186, .int .i64 t187, .int .i64 t188, .int .i64 t189, .slice Ao26 t190.length co26, .slice Ao27 t193.length co27, .slice Ao28 t196.length co28], .agg #[.int .i64 t199, .int .i64 t200, .int .i64 t201], .agg #[.int .i64 x209000_4, .int .i64 x209001_4, .int .i64 x209002_4], .int .i64 x17_4, .int .i64 x16_4] rfl aa ?_; (with_reducible refine (recur_fits.calls k4 t185 t186 t187 t188 t189 _ _ t190 _ _ t193 _ _ t196 t199 t200 t201 x209000_4 x209001_4 x209002_4 x17_4 x16_4 t210 _ ?side1 ?side2 ?side3 ?side4 ?side5 ?side6 A47.out).mono ?_); (case side1 => repeat (first | exact (Kd.R_reads' HO_182005.out).2.2 | (with_reducible refine Kd.C_alloc ?_ _) | (with_reducible refine Kd.C_drewN ?_ _) | (with_reducible refine Kd.C_drew ?_))); (case side2 => exact (Kd.R_reads' HO_182005.out).2.1); (case side3 => repeat (first | exact (Kd.R_reads' HO_182006.out).2.2 | (with_reducible refine Kd.C_alloc ?_ _) | (with_reducible refine Kd.C_drewN ?_ _) | (with_reducible refine Kd.C_drew ?_))); (case side4 => exact (Kd.R_reads' HO_182006.out).2.1); (case side5 => repeat (first | exact (Kd.R_reads' HO_182007.out).2.2 | (with_reducible refine Kd.C_alloc ?_ _) | (with_reducible refine Kd.C_drewN ?_ _) | (with_reducible refine Kd.C_drew ?_))); (case side6 => exact (Kd.R_reads' HO_182007.out).2.1); rintro e w55 ⟨rfl, hb⟩; refine ⟨_, rfl, ?_⟩; have n0_ := Aside0.mk (Kd.R_below (by (with_reducible repeat (first | apply Kd.R_alloc | apply Kd.R_drewN | apply Kd.R_drew)); exact HO_12.out) hb); have n1_ := Aside0.mk (Kd.R_below (by (with_reducible repeat (first | apply Kd.R_alloc | apply Kd.R_drewN | apply Kd.R_drew)); exact HO_182005.out) hb); have n2_ := Aside0.mk (Kd.R_below (by (with_reducible repeat (first | apply Kd.R_alloc | apply Kd.R_drewN | apply Kd.R_drew)); exact HO_182006.out) hb); have n3_ := Aside0.mk (Kd.R_below (by (with_reducible repeat (first | apply Kd.R_alloc | apply Kd.R_drewN | apply Kd.R_drew)); exact HO_182007.out) hb); have n4_ := bb BK181 hb; have n5_ := bb BK203 hb; have n6_ := bb BK208 hb; have n7_ := Aside0.mk (below_step be hb); clear HO_12; clear HO_182005; clear HO_182006; clear HO_182007; clear BK181; clear BK203; clear BK208; clear HB; have HO_12 := n0_; have HO_182005 := n1_; have HO_182006 := n2_; have HO_182007 := n3_; have BK181 := n4_; have BK203 := n5_; have BK208 := n6_; have HB := n7_; clear n0_ n1_ n2_ n3_ n4_ n5_ n6_ n7_; (try clear hb); (try clear hb2); (try clear hk); (try clear hi)))
              (try simp only [Act.put, List.setIfInBounds_toArray, List.set_cons_zero, List.set_cons_succ])
              go_cut [12, 13] (fun v12 v13 wc => ∃ (kq : Nat) (x12_47 : List Int) (x13_47 : Int), v13 = .int .i64 x13_47 ∧ Aside0 (recur_Days.j5 kq a1 a2 x12_47 x13_47 x16_4 x17_4 t185 t186 t187 t188 t189 t190 t193 t196 t199 t200 t201 x209000_4 x209001_4 x209002_4 = some (r1, r2)) ∧ Aside0 (kq ≤ k4) ∧ Aside0 (Kd.R (Kd.int .i64) 3 wc w.heap.size (fun k_ => some k_ ≠ ((.slice Ao26 t190.length co26) : Value).ownBlock ∧ some k_ ≠ ((.slice Ao27 t193.length co27) : Value).ownBlock ∧ some k_ ≠ ((.slice Ao28 t196.length co28) : Value).ownBlock) v12 x12_47) ∧ Aside0 (Kd.R (Kd.int .i64) 3 wc w.heap.size (fun k_ => some k_ ≠ (v12 : Value).ownBlock ∧ some k_ ≠ ((.slice Ao27 t193.length co27) : Value).ownBlock ∧ some k_ ≠ ((.slice Ao28 t196.length co28) : Value).ownBlock) (.slice Ao26 t190.length co26) t190) ∧ Aside0 (Kd.R (Kd.int .i64) 3 wc w.heap.size (fun k_ => some k_ ≠ (v12 : Value).ownBlock ∧ some k_ ≠ ((.slice Ao26 t190.length co26) : Value).ownBlock ∧ some k_ ≠ ((.slice Ao28 t196.length co28) : Value).ownBlock) (.slice Ao27 t193.length co27) t193) ∧ Aside0 (Kd.R (Kd.int .i64) 3 wc w.heap.size (fun k_ => some k_ ≠ (v12 : Value).ownBlock ∧ some k_ ≠ ((.slice Ao26 t190.length co26) : Value).ownBlock ∧ some k_ ≠ ((.slice Ao27 t193.length co27) : Value).ownBlock) (.slice Ao28 t196.length co28) t196) ∧ Aside0 (wc.heap[gb181]? = some (.cells #[.int .i64 t185, .int .i64 t186, .int .i64 t187, .int .i64 t188, .int .i64 t189, (.slice Ao26 t190.length co26), (.slice Ao27 t193.length co27), (.slice Ao28 t196.length co28)] 33 (0, 0))) ∧ Aside0 (wc.heap[gb203]? = some (.cells #[.int .i64 t199, .int .i64 t200, .int .i64 t201] 107 (0, 0))) ∧ Aside0 (wc.heap[gb208]? = some (.cells #[.int .i64 x209000_4, .int .i64 x209001_4, .int .i64 x209002_4] 107 (0, 0))) ∧ Aside0 (Below w.heap.size w wc))
              case first =>
               have H := HC48.out
               clear HC48
               by_cases c56 : t210 = true
               ·subst c56
                have H1 : (if t188 > 0 then (recur_Days.j4 k4 a1 a2 x12_4 (wrap64 (x13_4 + 1)) x16_4 x17_4 (decide ((wrap64 (x13_4 + 1)) > t188)) t185 t186 t187 t188 t189 t190 t193 t196 t199 t200 t201 x209000_4 x209001_4 x209002_4) else (recur_Days.j4 k4 a1 a2 x12_4 (wrap64 (x13_4 + 1)) x16_4 x17_4 false t185 t186 t187 t188 t189 t190 t193 t196 t199 t200 t201 x209000_4 x209001_4 x209002_4)) = some (r1, r2) := by rw [if_pos rfl] at H; exact H
                clear H
                have H := H1
                clear H1
                have HC57 := Aside0.mk H
                clear H
                go_upto_region 24 with (fail)
                go_cut [94] (fun v94 wc => ∃ (kq : Nat) (x94_56 : Bool), v94 = .bool x94_56 ∧ Aside0 (recur_Days.j4 kq a1 a2 x12_4 (wrap64 (x13_4 + 1)) x16_4 x17_4 x94_56 t185 t186 t187 t188 t189 t190 t193 t196 t199 t200 t201 x209000_4 x209001_4 x209002_4 = some (r1, r2)) ∧ Aside0 (kq ≤ k4) ∧ Aside0 (Kd.R (Kd.int .i64) 3 wc w.heap.size (fun k_ => some k_ ≠ ((.slice Ao26 t190.length co26) : Value).ownBlock ∧ some k_ ≠ ((.slice Ao27 t193.length co27) : Value).ownBlock ∧ some k_ ≠ ((.slice Ao28 t196.length co28) : Value).ownBlock) u12 x12_4) ∧ Aside0 (Kd.R (Kd.int .i64) 3 wc w.heap.size (fun k_ => some k_ ≠ (u12 : Value).ownBlock ∧ some k_ ≠ ((.slice Ao27 t193.length co27) : Value).ownBlock ∧ some k_ ≠ ((.slice Ao28 t196.length co28) : Value).ownBlock) (.slice Ao26 t190.length co26) t190) ∧ Aside0 (Kd.R (Kd.int .i64) 3 wc w.heap.size (fun k_ => some k_ ≠ (u12 : Value).ownBlock ∧ some k_ ≠ ((.slice Ao26 t190.length co26) : Value).ownBlock ∧ some k_ ≠ ((.slice Ao28 t196.length co28) : Value).ownBlock) (.slice Ao27 t193.length co27) t193) ∧ Aside0 (Kd.R (Kd.int .i64) 3 wc w.heap.size (fun k_ => some k_ ≠ (u12 : Value).ownBlock ∧ some k_ ≠ ((.slice Ao26 t190.length co26) : Value).ownBlock ∧ some k_ ≠ ((.slice Ao27 t193.length co27) : Value).ownBlock) (.slice Ao28 t196.length co28) t196) ∧ Aside0 (wc.heap[gb181]? = some (.cells #[.int .i64 t185, .int .i64 t186, .int .i64 t187, .int .i64 t188, .int .i64 t189, (.slice Ao26 t190.length co26), (.slice Ao27 t193.length co27), (.slice Ao28 t196.length co28)] 33 (0, 0))) ∧ Aside0 (wc.heap[gb203]? = some (.cells #[.int .i64 t199, .int .i64 t200, .int .i64 t201] 107 (0, 0))) ∧ Aside0 (wc.heap[gb208]? = some (.cells #[.int .i64 x209000_4, .int .i64 x209001_4, .int .i64 x209002_4] 107 (0, 0))) ∧ Aside0 (Below w.heap.size w wc))
                case first =>
                 have H := HC57.out
                 clear HC57
                 by_cases c58 : t188 > 0
                 ·rw [if_pos c58] at H
                  have c58b0 : decide (0 < t188) = true := decide_eq_true c58
                  clear c58
                  (first | rw [c58b0] | (simp only [i64_w, i32_w]; rw [c58b0]) | skip)
                  have H' := Aside0.mk H
                  clear H
                  have hnb59 := NB181_203.out
                  have hnc59 := NB203_181.out
                  have hnb60 := NB181_208.out
                  have hnc60 := NB208_181.out
                  obtain ⟨hcz61_0, hcz61_1, hcz61_2, hcz61_3, hcz61_4, hcz61_5, hcz61_6, hcz61_7, hfz61_0, hfz61_1, hfz61_2, hfz61_3, hfz61_4, hfz61_5, hfz61_6, hfz61_7⟩ := bc8 BK181
                  go_wp2
                  go_meet
                  case rel => exact ⟨_, (decide ((wrap64 (x13_4 + 1)) > t188)), rs, H', ⟨by have := HJ5.out; have := HJ14.out; have := HJ21.out; have := HK4.out; first | omega | exact Nat.le_refl _⟩, ⟨by (with_reducible repeat (first | apply Kd.R_alloc | apply Kd.R_drewN | apply Kd.R_drew)); exact HO_12.out⟩, ⟨by (with_reducible repeat (first | apply Kd.R_alloc | apply Kd.R_drewN | apply Kd.R_drew)); exact HO_182005.out⟩, ⟨by (with_reducible repeat (first | apply Kd.R_alloc | apply Kd.R_drewN | apply Kd.R_drew)); exact HO_182006.out⟩, ⟨by (with_reducible repeat (first | apply Kd.R_alloc | apply Kd.R_drewN | apply Kd.R_drew)); exact HO_182007.out⟩, ⟨bk BK181⟩, ⟨bk BK203⟩, ⟨bk BK208⟩, ⟨be⟩⟩
                 ·rw [if_neg c58] at H
                  have c58b0 : decide (0 < t188) = false := decide_eq_false c58
                  clear c58
                  (first | rw [c58b0] | (simp only [i64_w, i32_w]; rw [c58b0]) | skip)
                  have H' := Aside0.mk H
                  clear H
                  have hnb62 := NB181_203.out
                  have hnc62 := NB203_181.out
                  have hnb63 := NB181_208.out
                  have hnc63 := NB208_181.out
                  obtain ⟨hcz64_0, hcz64_1, hcz64_2, hcz64_3, hcz64_4, hcz64_5, hcz64_6, hcz64_7, hfz64_0, hfz64_1, hfz64_2, hfz64_3, hfz64_4, hfz64_5, hfz64_6, hfz64_7⟩ := bc8 BK181
                  go_wp2
                  go_meet
                  case rel => exact ⟨_, (false), rs, H', ⟨by have := HJ5.out; have := HJ14.out; have := HJ21.out; have := HK4.out; first | omega | exact Nat.le_refl _⟩, ⟨by (with_reducible repeat (first | apply Kd.R_alloc | apply Kd.R_drewN | apply Kd.R_drew)); exact HO_12.out⟩, ⟨by (with_reducible repeat (first | apply Kd.R_alloc | apply Kd.R_drewN | apply Kd.R_drew)); exact HO_182005.out⟩, ⟨by (with_reducible repeat (first | apply Kd.R_alloc | apply Kd.R_drewN | apply Kd.R_drew)); exact HO_182006.out⟩, ⟨by (with_reducible repeat (first | apply Kd.R_alloc | apply Kd.R_drewN | apply Kd.R_drew)); exact HO_182007.out⟩, ⟨bk BK181⟩, ⟨bk BK203⟩, ⟨bk BK208⟩, ⟨be⟩⟩
                case rest =>
                 clear HC57
                 (try clear c1); (try clear c2); (try clear p2); (try clear c3); (try clear c4); (try clear c5); (try clear c5b0); (try clear c5b1); (try clear c6); (try clear p6); (try clear c11); (try clear c11b0); (try clear c11b1); (try clear c13); (try clear c14); (try clear c14b0); (try clear c16); (try clear c16b0); (try clear c19); (try clear c29); (try clear c29b0); (try clear c37); (try clear c41); (try clear c42); (try clear c46); (try clear c46b0); (try clear c49); (try clear c50); (try clear c52); (try clear c56); (try clear c57); (try clear c58); (try clear c58b0); (try clear c59); (try clear c60); (try clear c62); (try clear c63); (try clear p64); (try clear hcz17_0); (try clear hcz17_1); (try clear hcz17_2); (try clear hcz17_3); (try clear hcz17_4); (try clear hcz17_5); (try clear hcz17_6); (try clear hcz17_7); (try clear hcz18_0); (try clear hcz18_1); (try clear hcz18_2); (try clear hcz18_3); (try clear hcz18_4); (try clear hcz18_5); (try clear hcz18_6); (try clear hcz18_7); (try clear hcz23_0); (try clear hcz23_1); (try clear hcz23_2); (try clear hcz23_3); (try clear hcz23_4); (try clear hcz23_5); (try clear hcz23_6); (try clear hcz23_7); (try clear hcz25_0); (try clear hcz25_1); (try clear hcz25_2); (try clear hcz25_3); (try clear hcz25_4); (try clear hcz25_5); (try clear hcz25_6); (try clear hcz25_7); (try clear hcz30_0); (try clear hcz30_1); (try clear hcz30_2); (try clear hcz30_3); (try clear hcz30_4); (try clear hcz30_5); (try clear hcz30_6); (try clear hcz30_7); (try clear hcz34_0); (try clear hcz34_1); (try clear hcz34_2); (try clear hcz34_3); (try clear hcz34_4); (try clear hcz34_5); (try clear hcz34_6); (try clear hcz34_7); (try clear hcz38_0); (try clear hcz38_1); (try clear hcz38_2); (try clear hcz43_0); (try clear hcz43_1); (try clear hcz43_2); (try clear hcz51_0); (try clear hcz51_1); (try clear hcz51_2); (try clear hcz51_3); (try clear hcz51_4); (try clear hcz51_5); (try clear hcz51_6); (try clear hcz51_7); (try clear hcz53_0); (try clear hcz53_1); (try clear hcz53_2); (try clear hcz54_0); (try clear hcz54_1); (try clear hcz54_2); (try clear hcz61_0); (try clear hcz61_1); (try clear hcz61_2); (try clear hcz61_3); (try clear hcz61_4); (try clear hcz61_5); (try clear hcz61_6); (try clear hcz61_7); (try clear hcz64_0); (try clear hcz64_1); (try clear hcz64_2); (try clear hcz64_3); (try clear hcz64_4); (try clear hcz64_5); (try clear hcz64_6); (try clear hcz64_7); (try clear hcz8_0); (try clear hcz8_1); (try clear hcz8_2); (try clear hcz8_3); (try clear hcz8_4); (try clear hcz8_5); (try clear hcz8_6); (try clear hcz8_7); (try clear hfz17_0); (try clear hfz17_1); (try clear hfz17_2); (try clear hfz17_3); (try clear hfz17_4); (try clear hfz17_5); (try clear hfz17_6); (try clear hfz17_7); (try clear hfz18_0); (try clear hfz18_1); (try clear hfz18_2); (try clear hfz18_3); (try clear hfz18_4); (try clear hfz18_5); (try clear hfz18_6); (try clear hfz18_7); (try clear hfz23_0); (try clear hfz23_1); (try clear hfz23_2); (try clear hfz23_3); (try clear hfz23_4); (try clear hfz23_5); (try clear hfz23_6); (try clear hfz23_7); (try clear hfz25_0); (try clear hfz25_1); (try clear hfz25_2); (try clear hfz25_3); (try clear hfz25_4); (try clear hfz25_5); (try clear hfz25_6); (try clear hfz25_7); (try clear hfz30_0); (try clear hfz30_1); (try clear hfz30_2); (try clear hfz30_3); (try clear hfz30_4); (try clear hfz30_5); (try clear hfz30_6); (try clear hfz30_7); (try clear hfz34_0); (try clear hfz34_1); (try clear hfz34_2); (try clear hfz34_3); (try clear hfz34_4); (try clear hfz34_5); (try clear hfz34_6); (try clear hfz34_7); (try clear hfz38_0); (try clear hfz38_1); (try clear hfz38_2); (try clear hfz43_0); (try clear hfz43_1); (try clear hfz43_2); (try clear hfz51_0); (try clear hfz51_1); (try clear hfz51_2); (try clear hfz51_3); (try clear hfz51_4); (try clear hfz51_5); (try clear hfz51_6); (try clear hfz51_7); (try clear hfz53_0); (try clear hfz53_1); (try clear hfz53_2); (try clear hfz54_0); (try clear hfz54_1); (try clear hfz54_2); (try clear hfz61_0); (try clear hfz61_1); (try clear hfz61_2); (try clear hfz61_3); (try clear hfz61_4); (try clear hfz61_5); (try clear hfz61_6); (try clear hfz61_7); (try clear hfz64_0); (try clear hfz64_1); (try clear hfz64_2); (try clear hfz64_3); (try clear hfz64_4); (try clear hfz64_5); (try clear hfz64_6); (try clear hfz64_7); (try clear hfz8_0); (try clear hfz8_1); (try clear hfz8_2); (try clear hfz8_3); (try clear hfz8_4); (try clear hfz8_5); (try clear hfz8_6); (try clear hfz8_7); (try clear p2); (try clear p6)
                 obtain ⟨kq, x94_56, rfl, HA, HJ56, HO_12, HO_182005, HO_182006, HO_182007, BK181, BK203, BK208, HB⟩ := hcut
                 cases kq with
                 | zero => exact absurd HA.out (by simp [recur_Days.j4])
                 | succ kj56 =>
                  have H := HA.out
                  clear HA
                  simp only [recur_Days.j4] at H
                  by_cases c65 : x94_56 = true
                  ·subst c65
                   have H1 : (some (x12_4, 0)) = some (r1, r2) := by rw [if_pos rfl] at H; exact H
                   clear H
                   have H := H1
                   clear H1
                   simp only [Option.some.injEq, Prod.mk.injEq] at H
                   obtain ⟨rfl, rfl⟩ := H
                   go_wp2
                   go_ret2
                   exact ⟨_, by first | rfl | (simp [errW_none, errW_some] <;> rfl) | (simp only [← hji21, ← hji45]; first | rfl | (simp [errW_none, errW_some] <;> rfl)) | (simp [*, errW_none, errW_some] <;> rfl), by (with_reducible repeat (first | apply Kd.R_alloc | apply Kd.R_drewN | apply Kd.R_drew)); exact Kd.R_mono HO_12.out (fun _ hk => trivial), be⟩
                  ·replace c65 := Bool.eq_false_iff.mpr c65
                   subst c65
                   have H1 : (if x17_4 ≥ a1 then (if x12_4.length < 17592186044416 then (recur_Days.j5 kj56 a1 a2 (x12_4 ++ [x17_4]) (wrap64 (x13_4 + 1)) x16_4 x17_4 t185 t186 t187 t188 t189 t190 t193 t196 t199 t200 t201 x209000_4 x209001_4 x209002_4) else (none)) else (recur_Days.j5 kj56 a1 a2 x12_4 (wrap64 (x13_4 + 1)) x16_4 x17_4 t185 t186 t187 t188 t189 t190 t193 t196 t199 t200 t201 x209000_4 x209001_4 x209002_4)) = some (r1, r2) := by rw [if_neg (show ¬ (false = true) by decide)] at H; exact H
                   clear H
                   have H := H1
                   clear H1
                   by_cases c66 : x17_4 ≥ a1
                   ·rw [if_pos c66] at H
                    have c66b0 : decide (a1 ≤ x17_4) = true := decide_eq_true c66
                    clear c66
                    by_cases c67 : x12_4.length < 17592186044416
                    ·rw [if_pos c67] at H
                     have LMc67 := Aside0.mk c67
                     clear c67
                     obtain ⟨y211, hy211⟩ : ∃ y_ : List Int, y_ = (x12_4 ++ [x17_4]) := ⟨_, rfl⟩
                     replace H : (recur_Days.j5 kj56 a1 a2 y211 (wrap64 (x13_4 + 1)) x16_4 x17_4 t185 t186 t187 t188 t189 t190 t193 t196 t199 t200 t201 x209000_4 x209001_4 x209002_4) = some (r1, r2) := rp hy211 H
                     have Ny211 := Aside0.mk hy211
                     clear hy211
                     have H' := Aside0.mk H
                     clear H
                     go_wp2_with (first | ((with_reducible refine gate_builtin (b := .append) (xs := #[.tmp 98, .tmp 100]) rfl ?_); at_builtin; refine Kd.R_append (Kd.int .i64) (w0 := w) w.heap.size rfl (.tmp 98) (.tmp 100) 22 3 (.int .i64 0) 8 rfl Try.underlying22 info3 rfl (by decide) (by omega) u12 x12_4 x17_4 [.int .i64 x17_4] (fun k_ => some k_ ≠ (.slice Ao26 t190.length co26 : Value).ownBlock ∧ some k_ ≠ (.slice Ao27 t193.length co27 : Value).ownBlock ∧ some k_ ≠ (.slice Ao28 t196.length co28 : Value).ownBlock) (fun _ => False) rfl rfl ?aP (fun _ hk => hk.elim) ?aF ?aO ?aB ?aS ?aL ?_; (case aP => exact rfl); (case aB => exact be); (case aF => exact (fun k_ hk => ⟨Kd.fresh' (Kd.R_lt (by (with_reducible repeat (first | apply Kd.R_alloc | apply Kd.R_drewN | apply Kd.R_drew)); exact HO_182005.out)) k_ hk, Kd.fresh' (Kd.R_lt (by (with_reducible repeat (first | apply Kd.R_alloc | apply Kd.R_drewN | apply Kd.R_drew)); exact HO_182006.out)) k_ hk, Kd.fresh' (Kd.R_lt (by (with_reducible repeat (first | apply Kd.R_alloc | apply Kd.R_drewN | apply Kd.R_drew)); exact HO_182007.out)) k_ hk⟩)); (case aO => exact (by (with_reducible repeat (first | apply Kd.R_alloc | apply Kd.R_drewN | apply Kd.R_drew)); exact HO_12.out)); (case aS => exact (below_size be)); (case aL => have := LMc67.out; omega); intro v212 w68 ho hb hg hat; rw [← Ny211.out] at ho; have n0_ := Aside0.mk (Kd.R_after (ok := (fun k_ => some k_ ≠ (.slice Ao27 t193.length co27 : Value).ownBlock ∧ some k_ ≠ (.slice Ao28 t196.length co28 : Value).ownBlock)) (by (with_reducible repeat (first | apply Kd.R_alloc | apply Kd.R_drewN | apply Kd.R_drew)); exact Kd.R_mono HO_182005.out (fun _ hk => ⟨⟨hk.2.1, hk.2.2⟩, hk.1⟩)) hg hat); have n1_ := Aside0.mk (Kd.R_after (ok := (fun k_ => some k_ ≠ (.slice Ao26 t190.length co26 : Value).ownBlock ∧ some k_ ≠ (.slice Ao28 t196.length co28 : Value).ownBlock)) (by (with_reducible repeat (first | apply Kd.R_alloc | apply Kd.R_drewN | apply Kd.R_drew)); exact Kd.R_mono HO_182006.out (fun _ hk => ⟨⟨hk.2.1, hk.2.2⟩, hk.1⟩)) hg hat); have n2_ := Aside0.mk (Kd.R_after (ok := (fun k_ => some k_ ≠ (.slice Ao26 t190.length co26 : Value).ownBlock ∧ some k_ ≠ (.slice Ao27 t193.length co27 : Value).ownBlock)) (by (with_reducible repeat (first | apply Kd.R_alloc | apply Kd.R_drewN | apply Kd.R_drew)); exact Kd.R_mono HO_182007.out (fun _ hk => ⟨⟨hk.2.1, hk.2.2⟩, hk.1⟩)) hg hat); have n3_ := Aside0.mk (blk_grown (g := gb181) (o := .cells #[.int .i64 t185, .int .i64 t186, .int .i64 t187, .int .i64 t188, .int .i64 t189, .slice Ao26 t190.length co26, .slice Ao27 t193.length co27, .slice Ao28 t196.length co28] 33 (0, 0)) (bk BK181) hg (Kd.R_ne HO_12.out BK181.out (by decide))); have n4_ := Aside0.mk (blk_grown (g := gb203) (o := .cells #[.int .i64 t199, .int .i64 t200, .int .i64 t201] 107 (0, 0)) (bk BK203) hg (Kd.R_ne HO_12.out BK203.out (by decide))); have n5_ := Aside0.mk (blk_grown (g := gb208) (o := .cells #[.int .i64 x209000_4, .int .i64 x209001_4, .int .i64 x209002_4] 107 (0, 0)) (bk BK208) hg (Kd.R_ne HO_12.out BK208.out (by decide))); have n6_ := Aside0.mk (hb); have n7_ := Aside0.mk (ho); clear HO_182005; clear HO_182006; clear HO_182007; clear BK181; clear BK203; clear BK208; clear HB; clear HO_12; have HO_182005 := n0_; have HO_182006 := n1_; have HO_182007 := n2_; have BK181 := n3_; have BK203 := n4_; have BK208 := n5_; have HB := n6_; have HO213 := n7_; clear n0_ n1_ n2_ n3_ n4_ n5_ n6_ n7_; clear ho hb hg hat))
                     go_meet
                     case rel => exact ⟨_, (y211), ((wrap64 (x13_4 + 1))), rs, H', ⟨by have := HJ5.out; have := HJ14.out; have := HJ21.out; have := HK4.out; have := HJ56.out; first | omega | exact Nat.le_refl _⟩, ⟨by (with_reducible repeat (first | apply Kd.R_alloc | apply Kd.R_drewN | apply Kd.R_drew)); exact HO213.out⟩, ⟨by (with_reducible repeat (first | apply Kd.R_alloc | apply Kd.R_drewN | apply Kd.R_drew)); exact Kd.R_mono HO_182005.out (fun _ hk => ⟨hk.2, ⟨hk.1.1, hk.1.2⟩⟩)⟩, ⟨by (with_reducible repeat (first | apply Kd.R_alloc | apply Kd.R_drewN | apply Kd.R_drew)); exact Kd.R_mono HO_182006.out (fun _ hk => ⟨hk.2, ⟨hk.1.1, hk.1.2⟩⟩)⟩, ⟨by (with_reducible repeat (first | apply Kd.R_alloc | apply Kd.R_drewN | apply Kd.R_drew)); exact Kd.R_mono HO_182007.out (fun _ hk => ⟨hk.2, ⟨hk.1.1, hk.1.2⟩⟩)⟩, ⟨bk BK181⟩, ⟨bk BK203⟩, ⟨bk BK208⟩, ⟨be⟩⟩
                    ·rw [if_neg c67] at H
                     exact absurd H (by simp)
                   ·rw [if_neg c66] at H
                    have c66b0 : decide (a1 ≤ x17_4) = false := decide_eq_false c66
                    clear c66
                    have H' := Aside0.mk H
                    clear H
                    go_wp2
                    go_meet
                    case rel => exact ⟨_, (x12_4), ((wrap64 (x13_4 + 1))), rs, H', ⟨by have := HJ5.out; have := HJ14.out; have := HJ21.out; have := HK4.out; have := HJ56.out; first | omega | exact Nat.le_refl _⟩, ⟨by (with_reducible repeat (first | apply Kd.R_alloc | apply Kd.R_drewN | apply Kd.R_drew)); exact HO_12.out⟩, ⟨by (with_reducible repeat (first | apply Kd.R_alloc | apply Kd.R_drewN | apply Kd.R_drew)); exact HO_182005.out⟩, ⟨by (with_reducible repeat (first | apply Kd.R_alloc | apply Kd.R_drewN | apply Kd.R_drew)); exact HO_182006.out⟩, ⟨by (with_reducible repeat (first | apply Kd.R_alloc | apply Kd.R_drewN | apply Kd.R_drew)); exact HO_182007.out⟩, ⟨bk BK181⟩, ⟨bk BK203⟩, ⟨bk BK208⟩, ⟨be⟩⟩
               ·replace c56 := Bool.eq_false_iff.mpr c56
                subst c56
                have H1 : (recur_Days.j5 k4 a1 a2 x12_4 x13_4 x16_4 x17_4 t185 t186 t187 t188 t189 t190 t193 t196 t199 t200 t201 x209000_4 x209001_4 x209002_4) = some (r1, r2) := by rw [if_neg (show ¬ (false = true) by decide)] at H; exact H
                clear H
                have H := H1
                clear H1
                have H' := Aside0.mk H
                clear H
                go_wp2
                go_meet
                case rel => exact ⟨_, (x12_4), (x13_4), rs, H', ⟨by have := HJ5.out; have := HJ14.out; have := HJ21.out; have := HK4.out; first | omega | exact Nat.le_refl _⟩, ⟨by (with_reducible repeat (first | apply Kd.R_alloc | apply Kd.R_drewN | apply Kd.R_drew)); exact HO_12.out⟩, ⟨by (with_reducible repeat (first | apply Kd.R_alloc | apply Kd.R_drewN | apply Kd.R_drew)); exact HO_182005.out⟩, ⟨by (with_reducible repeat (first | apply Kd.R_alloc | apply Kd.R_drewN | apply Kd.R_drew)); exact HO_182006.out⟩, ⟨by (with_reducible repeat (first | apply Kd.R_alloc | apply Kd.R_drewN | apply Kd.R_drew)); exact HO_182007.out⟩, ⟨bk BK181⟩, ⟨bk BK203⟩, ⟨bk BK208⟩, ⟨be⟩⟩
              case rest =>
               clear HC48
               (try clear c1); (try clear c2); (try clear p2); (try clear c3); (try clear c4); (try clear c5); (try clear c5b0); (try clear c5b1); (try clear c6); (try clear p6); (try clear c11); (try clear c11b0); (try clear c11b1); (try clear c13); (try clear c14); (try clear c14b0); (try clear c16); (try clear c16b0); (try clear c19); (try clear c29); (try clear c29b0); (try clear c37); (try clear c41); (try clear c42); (try clear c46); (try clear c46b0); (try clear c49); (try clear c50); (try clear c52); (try clear c56); (try clear c57); (try clear c58); (try clear c58b0); (try clear c59); (try clear c60); (try clear c62); (try clear c63); (try clear p64); (try clear c65); (try clear c66); (try clear c66b0); (try clear c67); (try clear hcz17_0); (try clear hcz17_1); (try clear hcz17_2); (try clear hcz17_3); (try clear hcz17_4); (try clear hcz17_5); (try clear hcz17_6); (try clear hcz17_7); (try clear hcz18_0); (try clear hcz18_1); (try clear hcz18_2); (try clear hcz18_3); (try clear hcz18_4); (try clear hcz18_5); (try clear hcz18_6); (try clear hcz18_7); (try clear hcz23_0); (try clear hcz23_1); (try clear hcz23_2); (try clear hcz23_3); (try clear hcz23_4); (try clear hcz23_5); (try clear hcz23_6); (try clear hcz23_7); (try clear hcz25_0); (try clear hcz25_1); (try clear hcz25_2); (try clear hcz25_3); (try clear hcz25_4); (try clear hcz25_5); (try clear hcz25_6); (try clear hcz25_7); (try clear hcz30_0); (try clear hcz30_1); (try clear hcz30_2); (try clear hcz30_3); (try clear hcz30_4); (try clear hcz30_5); (try clear hcz30_6); (try clear hcz30_7); (try clear hcz34_0); (try clear hcz34_1); (try clear hcz34_2); (try clear hcz34_3); (try clear hcz34_4); (try clear hcz34_5); (try clear hcz34_6); (try clear hcz34_7); (try clear hcz38_0); (try clear hcz38_1); (try clear hcz38_2); (try clear hcz43_0); (try clear hcz43_1); (try clear hcz43_2); (try clear hcz51_0); (try clear hcz51_1); (try clear hcz51_2); (try clear hcz51_3); (try clear hcz51_4); (try clear hcz51_5); (try clear hcz51_6); (try clear hcz51_7); (try clear hcz53_0); (try clear hcz53_1); (try clear hcz53_2); (try clear hcz54_0); (try clear hcz54_1); (try clear hcz54_2); (try clear hcz61_0); (try clear hcz61_1); (try clear hcz61_2); (try clear hcz61_3); (try clear hcz61_4); (try clear hcz61_5); (try clear hcz61_6); (try clear hcz61_7); (try clear hcz64_0); (try clear hcz64_1); (try clear hcz64_2); (try clear hcz64_3); (try clear hcz64_4); (try clear hcz64_5); (try clear hcz64_6); (try clear hcz64_7); (try clear hcz8_0); (try clear hcz8_1); (try clear hcz8_2); (try clear hcz8_3); (try clear hcz8_4); (try clear hcz8_5); (try clear hcz8_6); (try clear hcz8_7); (try clear hfz17_0); (try clear hfz17_1); (try clear hfz17_2); (try clear hfz17_3); (try clear hfz17_4); (try clear hfz17_5); (try clear hfz17_6); (try clear hfz17_7); (try clear hfz18_0); (try clear hfz18_1); (try clear hfz18_2); (try clear hfz18_3); (try clear hfz18_4); (try clear hfz18_5); (try clear hfz18_6); (try clear hfz18_7); (try clear hfz23_0); (try clear hfz23_1); (try clear hfz23_2); (try clear hfz23_3); (try clear hfz23_4); (try clear hfz23_5); (try clear hfz23_6); (try clear hfz23_7); (try clear hfz25_0); (try clear hfz25_1); (try clear hfz25_2); (try clear hfz25_3); (try clear hfz25_4); (try clear hfz25_5); (try clear hfz25_6); (try clear hfz25_7); (try clear hfz30_0); (try clear hfz30_1); (try clear hfz30_2); (try clear hfz30_3); (try clear hfz30_4); (try clear hfz30_5); (try clear hfz30_6); (try clear hfz30_7); (try clear hfz34_0); (try clear hfz34_1); (try clear hfz34_2); (try clear hfz34_3); (try clear hfz34_4); (try clear hfz34_5); (try clear hfz34_6); (try clear hfz34_7); (try clear hfz38_0); (try clear hfz38_1); (try clear hfz38_2); (try clear hfz43_0); (try clear hfz43_1); (try clear hfz43_2); (try clear hfz51_0); (try clear hfz51_1); (try clear hfz51_2); (try clear hfz51_3); (try clear hfz51_4); (try clear hfz51_5); (try clear hfz51_6); (try clear hfz51_7); (try clear hfz53_0); (try clear hfz53_1); (try clear hfz53_2); (try clear hfz54_0); (try clear hfz54_1); (try clear hfz54_2); (try clear hfz61_0); (try clear hfz61_1); (try clear hfz61_2); (try clear hfz61_3); (try clear hfz61_4); (try clear hfz61_5); (try clear hfz61_6); (try clear hfz61_7); (try clear hfz64_0); (try clear hfz64_1); (try clear hfz64_2); (try clear hfz64_3); (try clear hfz64_4); (try clear hfz64_5); (try clear hfz64_6); (try clear hfz64_7); (try clear hfz8_0); (try clear hfz8_1); (try clear hfz8_2); (try clear hfz8_3); (try clear hfz8_4); (try clear hfz8_5); (try clear hfz8_6); (try clear hfz8_7); (try clear p2); (try clear p6); (try clear p64)
               obtain ⟨kq, x12_47, x13_47, rfl, HA, HJ47, HO_12, HO_182005, HO_182006, HO_182007, BK181, BK203, BK208, HB⟩ := hcut
               cases kq with
               | zero => exact absurd HA.out (by simp [recur_Days.j5])
               | succ kj47 =>
                have H := HA.out
                clear HA
                simp only [recur_Days.j5] at H
                by_cases c69 : (wrap64 (x209002_4 + 1)) > x16_4
                ·rw [if_pos c69] at H
                 have c69b0 : decide (x16_4 < (wrap64 (x209002_4 + 1))) = true := decide_eq_true c69
                 clear c69
                 obtain ⟨ji70, hji70⟩ : ∃ j_ : Int, (mn (wrap64 (x17_4 + 1)) 4000000) = j_ := ⟨_, rfl⟩
                 replace H : ((line_Date.f kj47 (ji70)).bind fun bt214 => ((recur_length.f bt214.1 bt214.2.1 bt214.2.2.1).bind fun t218 => (recur_Days.l0 kj47 a1 a2 x12_47 x13_47 t218 (wrap64 (x17_4 + 1)) t185 t186 t187 t188 t189 t190 t193 t196 t199 t200 t201 bt214.1 bt214.2.1 bt214.2.2.1))) = some (r1, r2) := by first | (rw [hji70] at H; exact H) | (simp only [hji70] at H ⊢; exact H)
                 have hji70_ : (if 4000000 < (wrap64 (x17_4 + 1)) then 4000000 else (wrap64 (x17_4 + 1))) = ji70 := hji70
                 replace H := Option.bind_eq_some_iff.mp H
                 obtain ⟨⟨t214, t215, t216, t217⟩, A710, H⟩ := H
                 replace H : ((recur_length.f t214 t215 t216).bind fun t218 => (recur_Days.l0 kj47 a1 a2 x12_47 x13_47 t218 (wrap64 (x17_4 + 1)) t185 t186 t187 t188 t189 t190 t193 t196 t199 t200 t201 t214 t215 t216)) = some (r1, r2) := H
                 have A71 := Aside0.mk A710
                 clear A710
                 replace H := Option.bind_eq_some_iff.mp H
                 obtain ⟨t218, A720, H⟩ := H
                 replace H : (recur_Days.l0 kj47 a1 a2 x12_47 x13_47 t218 (wrap64 (x17_4 + 1)) t185 t186 t187 t188 t189 t190 t193 t196 t199 t200 t201 t214 t215 t216) = some (r1, r2) := H
                 have A72 := Aside0.mk A720
                 clear A720
                 have H' := Aside0.mk H
                 clear H
                 have hnb73 := NB208_181.out
                 have hnc73 := NB181_208.out
                 have hnb74 := NB208_203.out
                 have hnc74 := NB203_208.out
                 obtain ⟨hcz75_0, hcz75_1, hcz75_2, hfz75_0, hfz75_1, hfz75_2⟩ := bc3 BK208
                 go_wp2_with (first | ((with_reducible refine gate_callee (f := 57) rfl ?_); refine goesL_ (some 114) rfl rfl Try.func57 kx rfl #[.int .i64 ji70] rfl (by (try simp only [List.map_toArray, List.map_cons, List.map_nil]); first | done | (simp only [hji70]; rfl) | rfl | (simp only [List.length_drop, List.length_take]; rfl)) ?_; (with_reducible refine (line_Date.calls kj47 ji70 t214 t215 t216 t217 _ A71.out).mono ?_); rintro e w76 ⟨rfl, hb⟩; refine ⟨_, rfl, ?_⟩; have n0_ := Aside0.mk (Kd.R_below (by (with_reducible repeat (first | apply Kd.R_alloc | apply Kd.R_drewN | apply Kd.R_drew)); exact (Kd.R_mono (Kd.R_far (p := ⟨gb208, 2, none⟩) (Kd.R_types HO_12.out BK208.out (by decide)) (fun _ hk => hk.2) (.int .i64 (wrap64 (x209002_4 + 1)))) (fun _ h_ => h_.1))) hb); have n1_ := Aside0.mk (Kd.R_below (by (with_reducible repeat (first | apply Kd.R_alloc | apply Kd.R_drewN | apply Kd.R_drew)); exact (Kd.R_mono (Kd.R_far (p := ⟨gb208, 2, none⟩) (Kd.R_types HO_182005.out BK208.out (by decide)) (fun _ hk => hk.2) (.int .i64 (wrap64 (x209002_4 + 1)))) (fun _ h_ => h_.1))) hb); have n2_ := Aside0.mk (Kd.R_below (by (with_reducible repeat (first | apply Kd.R_alloc | apply Kd.R_drewN | apply Kd.R_drew)); exact (Kd.R_mono (Kd.R_far (p := ⟨gb208, 2, none⟩) (Kd.R_types HO_182006.out BK208.out (by decide)) (fun _ hk => hk.2) (.int .i64 (wrap64 (x209002_4 + 1)))) (fun _ h_ => h_.1))) hb); have n3_ := Aside0.mk (Kd.R_below (by (with_reducible repeat (first | apply Kd.R_alloc | apply Kd.R_drewN | apply Kd.R_drew)); exact (Kd.R_mono (Kd.R_far (p := ⟨gb208, 2, none⟩) (Kd.R_types HO_182007.out BK208.out (by decide)) (fun _ hk => hk.2) (.int .i64 (wrap64 (x209002_4 + 1)))) (fun _ h_ => h_.1))) hb); have n4_ := bb BK181 hb; have n5_ := bb BK203 hb; have n6_ := Aside0.mk (blk_below (g := gb208) (o := .cells #[.int .i64 x209000_4, .int .i64 x209001_4, .int .i64 (wrap64 (x209002_4 + 1))] 107 (0, 0)) (bk BK208) hb); have n7_ := Aside0.mk (below_step be hb); clear HO_12; clear HO_182005; clear HO_182006; clear HO_182007; clear BK181; clear BK203; clear BK208; clear HB; have HO_12 := n0_; have HO_182005 := n1_; have HO_182006 := n2_; have HO_182007 := n3_; have BK181 := n4_; have BK203 := n5_; have BK208 := n6_; have HB := n7_; clear n0_ n1_ n2_ n3_ n4_ n5_ n6_ n7_; (try clear hb); (try clear hb2); (try clear hk); (try clear hi); obtain ⟨hcz77_0, hcz77_1, hcz77_2, hfz77_0, hfz77_1, hfz77_2⟩ := bc3 BK208) | ((with_reducible refine gate_callee (f := 58) rfl ?_); refine goesL_ (some 118) rfl rfl Try.func58 kx rfl #[.agg #[.int .i64 t214, .int .i64 t215, .int .i64 t216]] rfl aa ?_; (with_reducible refine (recur_length.calls t214 t215 t216 t218 _ A72.out).mono ?_); rintro e w78 ⟨rfl, hb⟩; refine ⟨_, rfl, ?_⟩; have n0_ := Aside0.mk (Kd.R_below (by (with_reducible repeat (first | apply Kd.R_alloc | apply Kd.R_drewN | apply Kd.R_drew)); exact (Kd.R_mono (Kd.R_far (p := ⟨gb208, 2, none⟩) (Kd.R_far (p := ⟨gb208, 1, none⟩) (Kd.R_far (p := ⟨gb208, 0, none⟩) (Kd.R_types HO_12.out BK208.out (by decide)) (fun _ hk => hk.2) (.int .i64 t214)) (fun _ hk => hk.2) (.int .i64 t215)) (fun _ hk => hk.2) (.int .i64 t216)) (fun _ h_ => h_.1))) hb); have n1_ := Aside0.mk (Kd.R_below (by (with_reducible repeat (first | apply Kd.R_alloc | apply Kd.R_drewN | apply Kd.R_drew)); exact (Kd.R_mono (Kd.R_far (p := ⟨gb208, 2, none⟩) (Kd.R_far (p := ⟨gb208, 1, none⟩) (Kd.R_far (p := ⟨gb208, 0, none⟩) (Kd.R_types HO_182005.out BK208.out (by decide)) (fun _ hk => hk.2) (.int .i64 t214)) (fun _ hk => hk.2) (.int .i64 t215)) (fun _ hk => hk.2) (.int .i64 t216)) (fun _ h_ => h_.1))) hb); have n2_ := Aside0.mk (Kd.R_below (by (with_reducible repeat (first | apply Kd.R_alloc | apply Kd.R_drewN | apply Kd.R_drew)); exact (Kd.R_mono (Kd.R_far (p := ⟨gb208, 2, none⟩) (Kd.R_far (p := ⟨gb208, 1, none⟩) (Kd.R_far (p := ⟨gb208, 0, none⟩) (Kd.R_types HO_182006.out BK208.out (by decide)) (fun _ hk => hk.2) (.int .i64 t214)) (fun _ hk => hk.2) (.int .i64 t215)) (fun _ hk => hk.2) (.int .i64 t216)) (fun _ h_ => h_.1))) hb); have n3_ := Aside0.mk (Kd.R_below (by (with_reducible repeat (first | apply Kd.R_alloc | apply Kd.R_drewN | apply Kd.R_drew)); exact (Kd.R_mono (Kd.R_far (p := ⟨gb208, 2, none⟩) (Kd.R_far (p := ⟨gb208, 1, none⟩) (Kd.R_far (p := ⟨gb208, 0, none⟩) (Kd.R_types HO_182007.out BK208.out (by decide)) (fun _ hk => hk.2) (.int .i64 t214)) (fun _ hk => hk.2) (.int .i64 t215)) (fun _ hk => hk.2) (.int .i64 t216)) (fun _ h_ => h_.1))) hb); have n4_ := bb BK181 hb; have n5_ := bb BK203 hb; have n6_ := Aside0.mk (blk_below (g := gb208) (o := .cells #[.int .i64 t214, .int .i64 t215, .int .i64 t216] 107 (0, 0)) (bk BK208) hb); have n7_ := Aside0.mk (below_step be hb); clear HO_12; clear HO_182005; clear HO_182006; clear HO_182007; clear BK181; clear BK203; clear BK208; clear HB; have HO_12 := n0_; have HO_182005 := n1_; have HO_182006 := n2_; have HO_182007 := n3_; have BK181 := n4_; have BK203 := n5_; have BK208 := n6_; have HB := n7_; clear n0_ n1_ n2_ n3_ n4_ n5_ n6_ n7_; (try clear hb); (try clear hb2); (try clear hk); (try clear hi)))
                 go_roundg kj47
                 case measure => have := HJ5.out; have := HJ14.out; have := HJ21.out; have := HK4.out; have := HJ47.out; omega
                 case rel => exact ⟨(x12_47), (x13_47), (t218), (wrap64 (x17_4 + 1)), (t214), (t215), (t216), rs, rs, rs, H', ⟨by have := HJ5.out; have := HJ14.out; have := HJ21.out; have := HK4.out; have := HJ47.out; omega⟩, ⟨by (with_reducible repeat (first | apply Kd.R_alloc | apply Kd.R_drewN | apply Kd.R_drew)); exact HO_12.out⟩, ⟨by (with_reducible repeat (first | apply Kd.R_alloc | apply Kd.R_drewN | apply Kd.R_drew)); exact HO_182005.out⟩, ⟨by (with_reducible repeat (first | apply Kd.R_alloc | apply Kd.R_drewN | apply Kd.R_drew)); exact HO_182006.out⟩, ⟨by (with_reducible repeat (first | apply Kd.R_alloc | apply Kd.R_drewN | apply Kd.R_drew)); exact HO_182007.out⟩, ⟨bk BK181⟩, ⟨bk BK203⟩, ⟨bk BK208⟩, ⟨be⟩⟩
                ·rw [if_neg c69] at H
                 have c69b0 : decide (x16_4 < (wrap64 (x209002_4 + 1))) = false := decide_eq_false c69
                 clear c69
                 have H' := Aside0.mk H
                 clear H
                 have hnb79 := NB208_181.out
                 have hnc79 := NB181_208.out
                 have hnb80 := NB208_203.out
                 have hnc80 := NB203_208.out
                 obtain ⟨hcz81_0, hcz81_1, hcz81_2, hfz81_0, hfz81_1, hfz81_2⟩ := bc3 BK208
                 go_wp2
                 go_roundg kj47
                 case measure => have := HJ5.out; have := HJ14.out; have := HJ21.out; have := HK4.out; have := HJ47.out; omega
                 case rel => exact ⟨(x12_47), (x13_47), (x16_4), (wrap64 (x17_4 + 1)), (x209000_4), (x209001_4), (wrap64 (x209002_4 + 1)), rs, rs, rs, H', ⟨by have := HJ5.out; have := HJ14.out; have := HJ21.out; have := HK4.out; have := HJ47.out; omega⟩, ⟨by (with_reducible repeat (first | apply Kd.R_alloc | apply Kd.R_drewN | apply Kd.R_drew)); exact Kd.R_mono (Kd.R_far (p := ⟨gb208, 2, none⟩) (Kd.R_types HO_12.out BK208.out (by decide)) (fun _ hk => hk.2) (.int .i64 (wrap64 (x209002_4 + 1)))) (fun _ hk => ⟨hk.1.1, ⟨hk.1.2.1, hk.1.2.2⟩⟩)⟩, ⟨by (with_reducible repeat (first | apply Kd.R_alloc | apply Kd.R_drewN | apply Kd.R_drew)); exact Kd.R_mono (Kd.R_far (p := ⟨gb208, 2, none⟩) (Kd.R_types HO_182005.out BK208.out (by decide)) (fun _ hk => hk.2) (.int .i64 (wrap64 (x209002_4 + 1)))) (fun _ hk => ⟨hk.1.1, ⟨hk.1.2.1, hk.1.2.2⟩⟩)⟩, ⟨by (with_reducible repeat (first | apply Kd.R_alloc | apply Kd.R_drewN | apply Kd.R_drew)); exact Kd.R_mono (Kd.R_far (p := ⟨gb208, 2, none⟩) (Kd.R_types HO_182006.out BK208.out (by decide)) (fun _ hk => hk.2) (.int .i64 (wrap64 (x209002_4 + 1)))) (fun _ hk => ⟨hk.1.1, ⟨hk.1.2.1, hk.1.2.2⟩⟩)⟩, ⟨by (with_reducible repeat (first | apply Kd.R_alloc | apply Kd.R_drewN | apply Kd.R_drew)); exact Kd.R_mono (Kd.R_far (p := ⟨gb208, 2, none⟩) (Kd.R_types HO_182007.out BK208.out (by decide)) (fun _ hk => hk.2) (.int .i64 (wrap64 (x209002_4 + 1)))) (fun _ hk => ⟨hk.1.1, ⟨hk.1.2.1, hk.1.2.2⟩⟩)⟩, ⟨bk BK181⟩, ⟨bk BK203⟩, ⟨bk BK208⟩, ⟨be⟩⟩
             ·rw [if_neg c46] at H
              have c46b0 : decide (x17_4 ≤ (ji45)) = false := decide_eq_false c46
              clear c46
              simp only [Option.some.injEq, Prod.mk.injEq] at H
              obtain ⟨rfl, rfl⟩ := H
              have hnb82 := NB181_203.out
              have hnc82 := NB203_181.out
              have hnb83 := NB181_208.out
              have hnc83 := NB208_181.out
              obtain ⟨hcz84_0, hcz84_1, hcz84_2, hcz84_3, hcz84_4, hcz84_5, hcz84_6, hcz84_7, hfz84_0, hfz84_1, hfz84_2, hfz84_3, hfz84_4, hfz84_5, hfz84_6, hfz84_7⟩ := bc8 BK181
              go_wp2
              go_ret2
              exact ⟨_, by first | rfl | (simp [errW_none, errW_some] <;> rfl) | (simp only [← hji21, ← hji45]; first | rfl | (simp [errW_none, errW_some] <;> rfl)) | (simp [*, errW_none, errW_some] <;> rfl), by (with_reducible repeat (first | apply Kd.R_alloc | apply Kd.R_drewN | apply Kd.R_drew)); exact Kd.R_mono HO_12.out (fun _ hk => trivial), be⟩
 ·rw [if_neg c5] at H
  have c5b0 : (t182 == 0) = false := beq_eq_false_iff_ne.mpr c5
  have c5b1 : (t182 != 0) = true := bne_iff_ne.mpr c5
  simp only [Option.some.injEq, Prod.mk.injEq] at H
  obtain ⟨rfl, rfl⟩ := H
  go_enter Try.func14, Try.ntmps14
  go_wp2_with (first | ((with_reducible refine gate_dst (N := 3) rfl ?_); refine box_event ?hg (N := 3) ?hd (cs := #[.int .i64 a0_0, .int .i64 a0_1, .int .i64 a0_2, .int .i64 a0_3, .int .i64 a0_4, .slice A0_5 l0_5.length c0_5, .slice A0_6 l0_6.length c0_6, .slice A0_7 l0_7.length c0_7]) (t := 33) ?hr ?_; (case hd => rfl); (case hg => rfl); (case hr => first | (go_simp; done) | (go_simp; rfl)); intro gb181 hg w85 hbox hb; have n0_ := Aside0.mk (below_step be hb); have n1_ := Aside0.mk (hbox); have n2_ := gs hg HB; have n3_ := n2_; clear HB; have HB := n0_; have BK181 := n1_; have GW181 := n2_; have GE181 := n3_; clear n0_ n1_ n2_ n3_; clear hb hbox hg; obtain ⟨hcz86_0, hcz86_1, hcz86_2, hcz86_3, hcz86_4, hcz86_5, hcz86_6, hcz86_7, hfz86_0, hfz86_1, hfz86_2, hfz86_3, hfz86_4, hfz86_5, hfz86_6, hfz86_7⟩ := bc8 BK181) | ((with_reducible refine gate_callee (f := 54) rfl ?_); refine goesL_ (some 19) rfl rfl Try.func54 kx rfl #[.agg #[.int .i64 a0_0, .int .i64 a0_1, .int .i64 a0_2, .int .i64 a0_3, .int .i64 a0_4, .slice A0_5 l0_5.length c0_5, .slice A0_6 l0_6.length c0_6, .slice A0_7 l0_7.length c0_7]] rfl aa ?_; (with_reducible refine (recur_Check.calls k a0_0 a0_1 a0_2 a0_3 a0_4 _ _ l0_5 _ _ l0_6 _ _ l0_7 t182 _ ?side1 ?side2 ?side3 ?side4 ?side5 ?side6 A4.out).mono ?_); (case side1 => exact kc (Kd.C_below HR0_5.out HB.out)); (case side2 => exact HC0_5.out); (case side3 => exact kc (Kd.C_below HR0_6.out HB.out)); (case side4 => exact HC0_6.out); (case side5 => exact kc (Kd.C_below HR0_7.out HB.out)); (case side6 => exact HC0_7.out); rintro e w87 ⟨rfl, hb⟩; refine ⟨_, rfl, ?_⟩; have n0_ := bb BK181 hb; have n1_ := Aside0.mk (below_step be hb); clear BK181; clear HB; have BK181 := n0_; have HB := n1_; clear n0_ n1_; (try clear hb); (try clear hb2); (try clear hk); (try clear hi)))
  go_ret2
  exact ⟨_, by first | rfl | (simp [errW_none, errW_some] <;> rfl) | (simp [*, errW_none, errW_some] <;> rfl), by first | exact Kd.R_nil _ _ _ _ _ | exact Kd.N_nil _ _ _ _ _ | exact Kd.V_nil _ _ _ _ _ | exact Kd.Q_nil _ _ _ _ _ | exact Kd.S_nil _ _ _ _ _, be⟩

end Go.Proofs.Ytlfammlboncmeaa.PRecurLists
