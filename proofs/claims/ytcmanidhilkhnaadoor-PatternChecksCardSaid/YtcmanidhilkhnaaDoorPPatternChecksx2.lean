-- The walks of the law's functions, told by a program.
import Derived.Test.YtcmanidhilkhnaaDoorPPatternChecksx0
namespace Go.Proofs.YtcmanidhilkhnaaDoor.PPatternChecks
open Go.RowKit Go.Proofs.YtcmanidhilkhnaaDoorW.PrintWords Go.Proofs.YtcmanidhilkhnaaDoorW.PrintLast Go.Proofs.YtcmanidhilkhnaaDoorW.PrintMore
attribute [local go_sem] max2_int min2_int max_two min_two max_three min_three max_four min_four   -- for this text's walks alone
set_option linter.unusedVariables false
set_option linter.unusedSimpArgs false

/-! ### pattern_full: function 46 -/
mutual
def pattern_full.l0 : Nat → List (S151) → List (S151) → Int → Int → Int → Int → Int → Int → Option (Bool)
  | 0, _, _, _, _, _, _, _, _ => none
  | k + 1, x0, x7, x8, x9, x113000, x113001, x113002, x113003 => if x9 < x8 then (if 0 ≤ x9 then (if x9 < (x7.length : Int) then (if ((rd_T151 x7 x9).f0).toList = ([] : List UInt8) then (if 0 < (((rd_T151 x7 x9).f1).size : Int) then (if x9 > 0 then (if (bt ((rd_T151 x7 x9).f1) 0) = 45 then (pattern_full.j1 k x0 x7 x8 x9 true x113000 x113001 x113002 x113003) else (if (bt ((rd_T151 x7 x9).f1) 0) ≥ 97 then (if (bt ((rd_T151 x7 x9).f1) 0) ≤ 122 then (pattern_full.j1 k x0 x7 x8 x9 true x113000 x113001 x113002 x113003) else (if (bt ((rd_T151 x7 x9).f1) 0) ≥ 65 then (if (bt ((rd_T151 x7 x9).f1) 0) ≤ 90 then (pattern_full.j1 k x0 x7 x8 x9 true x113000 x113001 x113002 x113003) else (if (bt ((rd_T151 x7 x9).f1) 0) ≥ 48 then (if (bt ((rd_T151 x7 x9).f1) 0) ≤ 57 then (pattern_full.j1 k x0 x7 x8 x9 true x113000 x113001 x113002 x113003) else (pattern_full.j1 k x0 x7 x8 x9 (decide ((bt ((rd_T151 x7 x9).f1) 0) > 127)) x113000 x113001 x113002 x113003)) else (pattern_full.j1 k x0 x7 x8 x9 (decide ((bt ((rd_T151 x7 x9).f1) 0) > 127)) x113000 x113001 x113002 x113003))) else (if (bt ((rd_T151 x7 x9).f1) 0) ≥ 48 then (if (bt ((rd_T151 x7 x9).f1) 0) ≤ 57 then (pattern_full.j1 k x0 x7 x8 x9 true x113000 x113001 x113002 x113003) else (pattern_full.j1 k x0 x7 x8 x9 (decide ((bt ((rd_T151 x7 x9).f1) 0) > 127)) x113000 x113001 x113002 x113003)) else (pattern_full.j1 k x0 x7 x8 x9 (decide ((bt ((rd_T151 x7 x9).f1) 0) > 127)) x113000 x113001 x113002 x113003)))) else (if (bt ((rd_T151 x7 x9).f1) 0) ≥ 65 then (if (bt ((rd_T151 x7 x9).f1) 0) ≤ 90 then (pattern_full.j1 k x0 x7 x8 x9 true x113000 x113001 x113002 x113003) else (if (bt ((rd_T151 x7 x9).f1) 0) ≥ 48 then (if (bt ((rd_T151 x7 x9).f1) 0) ≤ 57 then (pattern_full.j1 k x0 x7 x8 x9 true x113000 x113001 x113002 x113003) else (pattern_full.j1 k x0 x7 x8 x9 (decide ((bt ((rd_T151 x7 x9).f1) 0) > 127)) x113000 x113001 x113002 x113003)) else (pattern_full.j1 k x0 x7 x8 x9 (decide ((bt ((rd_T151 x7 x9).f1) 0) > 127)) x113000 x113001 x113002 x113003))) else (if (bt ((rd_T151 x7 x9).f1) 0) ≥ 48 then (if (bt ((rd_T151 x7 x9).f1) 0) ≤ 57 then (pattern_full.j1 k x0 x7 x8 x9 true x113000 x113001 x113002 x113003) else (pattern_full.j1 k x0 x7 x8 x9 (decide ((bt ((rd_T151 x7 x9).f1) 0) > 127)) x113000 x113001 x113002 x113003)) else (pattern_full.j1 k x0 x7 x8 x9 (decide ((bt ((rd_T151 x7 x9).f1) 0) > 127)) x113000 x113001 x113002 x113003))))) else (pattern_full.j1 k x0 x7 x8 x9 false x113000 x113001 x113002 x113003)) else (none)) else (if ((rd_T151 x7 x9).f0).toList = ([121] : List UInt8) then (pattern_full.j2 k x0 x9 x7 x8 x9 ((rd_T151 x7 x9).f0) (((rd_T151 x7 x9).f0).toList == ([121] : List UInt8)) x113000 x113001 x113002 x113003) else (pattern_full.j2 k x0 x9 x7 x8 x9 ((rd_T151 x7 x9).f0) (((rd_T151 x7 x9).f0).toList == ([121, 52] : List UInt8)) x113000 x113001 x113002 x113003))) else (none)) else (none)) else (if x113000 = 1 then (if x113001 = 1 then (if x113002 = 1 then (some (decide (x113003 ≤ 1))) else (some false)) else (some false)) else (some false))
def pattern_full.j1 : Nat → List (S151) → List (S151) → Int → Int → Bool → Int → Int → Int → Int → Option (Bool)
  | 0, _, _, _, _, _, _, _, _, _ => none
  | k + 1, x0, x7, x8, x9, x54, x113000, x113001, x113002, x113003 => if x54 = true then (some false) else (pattern_full.l0 k x0 x7 x8 (wrap64 (x9 + 1)) x113000 x113001 x113002 x113003)
def pattern_full.j2 : Nat → List (S151) → Int → List (S151) → Int → Int → ByteArray → Bool → Int → Int → Int → Int → Option (Bool)
  | 0, _, _, _, _, _, _, _, _, _, _, _ => none
  | k + 1, x0, x4, x7, x8, x9, x15, x55, x113000, x113001, x113002, x113003 => if x55 = true then (if x4 > 0 then (if 0 ≤ (wrap64 (x4 - 1)) then (if (wrap64 (x4 - 1)) < (x0.length : Int) then (if ((rd_T151 x0 (wrap64 (x4 - 1))).f0).toList = ([] : List UInt8) then (pattern_full.l0 k x0 x7 x8 (wrap64 (x9 + 1)) (wrap64 (x113000 + 1)) x113001 x113002 x113003) else (some false)) else (none)) else (none)) else (pattern_full.l0 k x0 x7 x8 (wrap64 (x9 + 1)) (wrap64 (x113000 + 1)) x113001 x113002 x113003)) else (if x15.toList = ([109] : List UInt8) then (pattern_full.j3 k x0 x4 x7 x8 x9 x15 (x15.toList == ([109] : List UInt8)) x113000 x113001 x113002 x113003) else (if x15.toList = ([109, 50] : List UInt8) then (pattern_full.j3 k x0 x4 x7 x8 x9 x15 (x15.toList == ([109, 50] : List UInt8)) x113000 x113001 x113002 x113003) else (pattern_full.j3 k x0 x4 x7 x8 x9 x15 (x15.toList == ([110, 97, 109, 101] : List UInt8)) x113000 x113001 x113002 x113003)))
def pattern_full.j3 : Nat → List (S151) → Int → List (S151) → Int → Int → ByteArray → Bool → Int → Int → Int → Int → Option (Bool)
  | 0, _, _, _, _, _, _, _, _, _, _, _ => none
  | k + 1, x0, x4, x7, x8, x9, x15, x62, x113000, x113001, x113002, x113003 => if x62 = true then (if x4 > 0 then (if 0 ≤ (wrap64 (x4 - 1)) then (if (wrap64 (x4 - 1)) < (x0.length : Int) then (if ((rd_T151 x0 (wrap64 (x4 - 1))).f0).toList = ([] : List UInt8) then (pattern_full.l0 k x0 x7 x8 (wrap64 (x9 + 1)) x113000 (wrap64 (x113001 + 1)) x113002 x113003) else (some false)) else (none)) else (none)) else (pattern_full.l0 k x0 x7 x8 (wrap64 (x9 + 1)) x113000 (wrap64 (x113001 + 1)) x113002 x113003)) else (if x15.toList = ([100] : List UInt8) then (pattern_full.j4 k x0 x4 x7 x8 x9 x15 (x15.toList == ([100] : List UInt8)) x113000 x113001 x113002 x113003) else (pattern_full.j4 k x0 x4 x7 x8 x9 x15 (x15.toList == ([100, 50] : List UInt8)) x113000 x113001 x113002 x113003))
def pattern_full.j4 : Nat → List (S151) → Int → List (S151) → Int → Int → ByteArray → Bool → Int → Int → Int → Int → Option (Bool)
  | 0, _, _, _, _, _, _, _, _, _, _, _ => none
  | k + 1, x0, x4, x7, x8, x9, x15, x70, x113000, x113001, x113002, x113003 => if x70 = true then (if x4 > 0 then (if 0 ≤ (wrap64 (x4 - 1)) then (if (wrap64 (x4 - 1)) < (x0.length : Int) then (if ((rd_T151 x0 (wrap64 (x4 - 1))).f0).toList = ([] : List UInt8) then (pattern_full.l0 k x0 x7 x8 (wrap64 (x9 + 1)) x113000 x113001 (wrap64 (x113002 + 1)) x113003) else (some false)) else (none)) else (none)) else (pattern_full.l0 k x0 x7 x8 (wrap64 (x9 + 1)) x113000 x113001 (wrap64 (x113002 + 1)) x113003)) else (if x15.toList = ([119] : List UInt8) then (if x4 > 0 then (if 0 ≤ (wrap64 (x4 - 1)) then (if (wrap64 (x4 - 1)) < (x0.length : Int) then (if ((rd_T151 x0 (wrap64 (x4 - 1))).f0).toList = ([] : List UInt8) then (pattern_full.l0 k x0 x7 x8 (wrap64 (x9 + 1)) x113000 x113001 x113002 (wrap64 (x113003 + 1))) else (some false)) else (none)) else (none)) else (pattern_full.l0 k x0 x7 x8 (wrap64 (x9 + 1)) x113000 x113001 x113002 (wrap64 (x113003 + 1)))) else (if x4 > 0 then (if 0 ≤ (wrap64 (x4 - 1)) then (if (wrap64 (x4 - 1)) < (x0.length : Int) then (if ((rd_T151 x0 (wrap64 (x4 - 1))).f0).toList = ([] : List UInt8) then (pattern_full.l0 k x0 x7 x8 (wrap64 (x9 + 1)) x113000 x113001 x113002 x113003) else (some false)) else (none)) else (none)) else (pattern_full.l0 k x0 x7 x8 (wrap64 (x9 + 1)) x113000 x113001 x113002 x113003)))
end
def pattern_full.f (k : Nat) (l0 : List (S151)) : Option (Bool) := pattern_full.l0 k l0 l0 (l0.length : Int) 0 0 0 0 0
theorem pattern_full.mono_l : ∀ k, (∀ y0 y1 y2 y3 y4 y5 y6 y7, LeO (pattern_full.l0 k y0 y1 y2 y3 y4 y5 y6 y7) (pattern_full.l0 (k + 1) y0 y1 y2 y3 y4 y5 y6 y7)) ∧ (∀ y0 y1 y2 y3 y4 y5 y6 y7 y8, LeO (pattern_full.j1 k y0 y1 y2 y3 y4 y5 y6 y7 y8) (pattern_full.j1 (k + 1) y0 y1 y2 y3 y4 y5 y6 y7 y8)) ∧ (∀ y0 y1 y2 y3 y4 y5 y6 y7 y8 y9 y10, LeO (pattern_full.j2 k y0 y1 y2 y3 y4 y5 y6 y7 y8 y9 y10) (pattern_full.j2 (k + 1) y0 y1 y2 y3 y4 y5 y6 y7 y8 y9 y10)) ∧ (∀ y0 y1 y2 y3 y4 y5 y6 y7 y8 y9 y10, LeO (pattern_full.j3 k y0 y1 y2 y3 y4 y5 y6 y7 y8 y9 y10) (pattern_full.j3 (k + 1) y0 y1 y2 y3 y4 y5 y6 y7 y8 y9 y10)) ∧ (∀ y0 y1 y2 y3 y4 y5 y6 y7 y8 y9 y10, LeO (pattern_full.j4 k y0 y1 y2 y3 y4 y5 y6 y7 y8 y9 y10) (pattern_full.j4 (k + 1) y0 y1 y2 y3 y4 y5 y6 y7 y8 y9 y10))
  | 0 => ⟨fun _ _ _ _ _ _ _ _ r h => by simp [pattern_full.l0] at h, fun _ _ _ _ _ _ _ _ _ r h => by simp [pattern_full.j1] at h, fun _ _ _ _ _ _ _ _ _ _ _ r h => by simp [pattern_full.j2] at h, fun _ _ _ _ _ _ _ _ _ _ _ r h => by simp [pattern_full.j3] at h, fun _ _ _ _ _ _ _ _ _ _ _ r h => by simp [pattern_full.j4] at h⟩
  | k + 1 => by
    obtain ⟨ih0, ih1, ih2, ih3, ih4⟩ := pattern_full.mono_l k
    refine ⟨?_, ?_, ?_, ?_, ?_⟩
    · intro y0 y1 y2 y3 y4 y5 y6 y7
      unfold pattern_full.l0
      repeat' first
      | (with_reducible exact ih0 _ _ _ _ _ _ _ _)
      | (with_reducible exact ih1 _ _ _ _ _ _ _ _ _)
      | (with_reducible exact ih2 _ _ _ _ _ _ _ _ _ _ _)
      | (with_reducible exact ih3 _ _ _ _ _ _ _ _ _ _ _)
      | (with_reducible exact ih4 _ _ _ _ _ _ _ _ _ _ _)
      | (with_reducible exact LeO.refl _)
      | (with_reducible exact LeO.none _)
      | (with_reducible refine LeO.ite ?_ ?_)
      | (with_reducible refine LeO.bind ?_ (fun _ => ?_))
      | exact ih0 _ _ _ _ _ _ _ _
      | exact ih1 _ _ _ _ _ _ _ _ _
      | exact ih2 _ _ _ _ _ _ _ _ _ _ _
      | exact ih3 _ _ _ _ _ _ _ _ _ _ _
      | exact ih4 _ _ _ _ _ _ _ _ _ _ _
      | exact LeO.none _
      | refine LeO.ite ?_ ?_
      | refine LeO.bind ?_ (fun _ => ?_)
    · intro y0 y1 y2 y3 y4 y5 y6 y7 y8
      unfold pattern_full.j1
      repeat' first
      | (with_reducible exact ih0 _ _ _ _ _ _ _ _)
      | (with_reducible exact ih1 _ _ _ _ _ _ _ _ _)
      | (with_reducible exact ih2 _ _ _ _ _ _ _ _ _ _ _)
      | (with_reducible exact ih3 _ _ _ _ _ _ _ _ _ _ _)
      | (with_reducible exact ih4 _ _ _ _ _ _ _ _ _ _ _)
      | (with_reducible exact LeO.refl _)
      | (with_reducible exact LeO.none _)
      | (with_reducible refine LeO.ite ?_ ?_)
      | (with_reducible refine LeO.bind ?_ (fun _ => ?_))
      | exact ih0 _ _ _ _ _ _ _ _
      | exact ih1 _ _ _ _ _ _ _ _ _
      | exact ih2 _ _ _ _ _ _ _ _ _ _ _
      | exact ih3 _ _ _ _ _ _ _ _ _ _ _
      | exact ih4 _ _ _ _ _ _ _ _ _ _ _
      | exact LeO.none _
      | refine LeO.ite ?_ ?_
      | refine LeO.bind ?_ (fun _ => ?_)
    · intro y0 y1 y2 y3 y4 y5 y6 y7 y8 y9 y10
      unfold pattern_full.j2
      repeat' first
      | (with_reducible exact ih0 _ _ _ _ _ _ _ _)
      | (with_reducible exact ih1 _ _ _ _ _ _ _ _ _)
      | (with_reducible exact ih2 _ _ _ _ _ _ _ _ _ _ _)
      | (with_reducible exact ih3 _ _ _ _ _ _ _ _ _ _ _)
      | (with_reducible exact ih4 _ _ _ _ _ _ _ _ _ _ _)
      | (with_reducible exact LeO.refl _)
      | (with_reducible exact LeO.none _)
      | (with_reducible refine LeO.ite ?_ ?_)
      | (with_reducible refine LeO.bind ?_ (fun _ => ?_))
      | exact ih0 _ _ _ _ _ _ _ _
      | exact ih1 _ _ _ _ _ _ _ _ _
      | exact ih2 _ _ _ _ _ _ _ _ _ _ _
      | exact ih3 _ _ _ _ _ _ _ _ _ _ _
      | exact ih4 _ _ _ _ _ _ _ _ _ _ _
      | exact LeO.none _
      | refine LeO.ite ?_ ?_
      | refine LeO.bind ?_ (fun _ => ?_)
    · intro y0 y1 y2 y3 y4 y5 y6 y7 y8 y9 y10
      unfold pattern_full.j3
      repeat' first
      | (with_reducible exact ih0 _ _ _ _ _ _ _ _)
      | (with_reducible exact ih1 _ _ _ _ _ _ _ _ _)
      | (with_reducible exact ih2 _ _ _ _ _ _ _ _ _ _ _)
      | (with_reducible exact ih3 _ _ _ _ _ _ _ _ _ _ _)
      | (with_reducible exact ih4 _ _ _ _ _ _ _ _ _ _ _)
      | (with_reducible exact LeO.refl _)
      | (with_reducible exact LeO.none _)
      | (with_reducible refine LeO.ite ?_ ?_)
      | (with_reducible refine LeO.bind ?_ (fun _ => ?_))
      | exact ih0 _ _ _ _ _ _ _ _
      | exact ih1 _ _ _ _ _ _ _ _ _
      | exact ih2 _ _ _ _ _ _ _ _ _ _ _
      | exact ih3 _ _ _ _ _ _ _ _ _ _ _
      | exact ih4 _ _ _ _ _ _ _ _ _ _ _
      | exact LeO.none _
      | refine LeO.ite ?_ ?_
      | refine LeO.bind ?_ (fun _ => ?_)
    · intro y0 y1 y2 y3 y4 y5 y6 y7 y8 y9 y10
      unfold pattern_full.j4
      repeat' first
      | (with_reducible exact ih0 _ _ _ _ _ _ _ _)
      | (with_reducible exact ih1 _ _ _ _ _ _ _ _ _)
      | (with_reducible exact ih2 _ _ _ _ _ _ _ _ _ _ _)
      | (with_reducible exact ih3 _ _ _ _ _ _ _ _ _ _ _)
      | (with_reducible exact ih4 _ _ _ _ _ _ _ _ _ _ _)
      | (with_reducible exact LeO.refl _)
      | (with_reducible exact LeO.none _)
      | (with_reducible refine LeO.ite ?_ ?_)
      | (with_reducible refine LeO.bind ?_ (fun _ => ?_))
      | exact ih0 _ _ _ _ _ _ _ _
      | exact ih1 _ _ _ _ _ _ _ _ _
      | exact ih2 _ _ _ _ _ _ _ _ _ _ _
      | exact ih3 _ _ _ _ _ _ _ _ _ _ _
      | exact ih4 _ _ _ _ _ _ _ _ _ _ _
      | exact LeO.none _
      | refine LeO.ite ?_ ?_
      | refine LeO.bind ?_ (fun _ => ?_)
theorem pattern_full.mono : ∀ a0 k, LeO (pattern_full.f k a0) (pattern_full.f (k + 1) a0) := by
  intro a0 k
  obtain ⟨ih0, ih1, ih2, ih3, ih4⟩ := pattern_full.mono_l k
  unfold pattern_full.f
  repeat' first
      | (with_reducible exact ih0 _ _ _ _ _ _ _ _)
      | (with_reducible exact ih1 _ _ _ _ _ _ _ _ _)
      | (with_reducible exact ih2 _ _ _ _ _ _ _ _ _ _ _)
      | (with_reducible exact ih3 _ _ _ _ _ _ _ _ _ _ _)
      | (with_reducible exact ih4 _ _ _ _ _ _ _ _ _ _ _)
      | (with_reducible exact LeO.refl _)
      | (with_reducible exact LeO.none _)
      | (with_reducible refine LeO.ite ?_ ?_)
      | (with_reducible refine LeO.bind ?_ (fun _ => ?_))
      | exact ih0 _ _ _ _ _ _ _ _
      | exact ih1 _ _ _ _ _ _ _ _ _
      | exact ih2 _ _ _ _ _ _ _ _ _ _ _
      | exact ih3 _ _ _ _ _ _ _ _ _ _ _
      | exact ih4 _ _ _ _ _ _ _ _ _ _ _
      | exact LeO.none _
      | refine LeO.ite ?_ ?_
      | refine LeO.bind ?_ (fun _ => ?_)
set_option maxHeartbeats 8000000 in
set_option maxRecDepth 100000 in
theorem pattern_full.calls (k : Nat) (A0 : Option Addr) (c0 : Nat) (l0 : List (S151)) (r : Bool) (w : World) (hr0 : Kd.C k151 w A0 l0.length l0) (hc0 : l0.length ≤ c0) (h : pattern_full.f k l0 = some r) :
    Calls Tryd.prog 46 #[.slice A0 l0.length c0] w fun e w' => e = .returned (.bool r) ∧ Below w.heap.size w w' := by
  have hu104 := Tryd.underlying104
  have hu151 := Tryd.underlying151
  have HR0 := Aside0.mk hr0
  have HC0 := Aside0.mk hc0
  clear hr0 hc0
  have HB := Aside0.mk (Below.refl w.heap.size w)
  have H : (pattern_full.l0 k l0 l0 (l0.length : Int) 0 0 0 0 0) = some r := h
  clear h
  have H' := Aside0.mk H
  clear H
  go_enter Tryd.func46, Tryd.ntmps46
  go_wp2_with (first | ((with_reducible refine gate_dst (N := 3) rfl ?_); refine box_event ?hg (N := 3) ?hd (cs := #[.int .i64 0, .int .i64 0, .int .i64 0, .int .i64 0]) (t := 104) ?hr ?_; (case hd => rfl); (case hg => rfl); (case hr => first | (go_simp; done) | (go_simp; rfl)); intro gb112 hg w2 hbox hb; have n0_ := Aside0.mk (below_step (by repeat (first | (with_reducible first | exact HB.out | apply below_alloc | apply pw_below_drewN | apply below_drew1) | exact HB.out)) hb); have n1_ := Aside0.mk (hbox); have n2_ := Aside0.mk ((by rw [hg]; exact (below_size (by repeat (first | (with_reducible first | exact HB.out | apply below_alloc | apply pw_below_drewN | apply below_drew1) | exact HB.out))) : w.heap.size ≤ gb112)); have n3_ := Aside0.mk ((by rw [hg]; exact (below_size (by repeat (first | (with_reducible first | exact HB.out | apply below_alloc | apply pw_below_drewN | apply below_drew1) | exact HB.out))) : w.heap.size ≤ gb112)); clear HB; have HB := n0_; have BK112 := n1_; have GW112 := n2_; have GE112 := n3_; clear n0_ n1_ n2_ n3_; clear hb hbox hg))
  go_loopg [9] k (fun kq v9 w' => ∃ (x9_1 : Int) (x113000_1 : Int) (x113001_1 : Int) (x113002_1 : Int) (x113003_1 : Int), v9 = .int .i64 x9_1 ∧ Aside0 (pattern_full.l0 kq l0 l0 (l0.length : Int) x9_1 x113000_1 x113001_1 x113002_1 x113003_1 = some r) ∧ Aside0 (kq ≤ k) ∧ Aside0 (w'.heap[gb112]? = some (.cells #[.int .i64 x113000_1, .int .i64 x113001_1, .int .i64 x113002_1, .int .i64 x113003_1] 104 (0, 0))) ∧ Aside0 (Below w.heap.size w w'))
  case atStart => exact ⟨(0), (0), (0), (0), (0), (by first | rfl | (simp; done) | (simp [*]; done)), H', ⟨Nat.le_refl _⟩, ⟨by (with_reducible repeat (first | refine blk_drewN ?_ _ | refine blk_drew ?_ | refine blk_alloc ?_ _)); exact BK112.out⟩, ⟨by repeat (first | (with_reducible first | exact HB.out | apply below_alloc | apply pw_below_drewN | apply below_drew1 | refine below_set ?_ GE112.out) | exact HB.out)⟩⟩
  case round =>
    clear H'
    try clear p2
    obtain ⟨x9_1, x113000_1, x113001_1, x113002_1, x113003_1, rfl, HA, HK1, BK112, HB⟩ := hrel
    cases gk with
    | zero => exact absurd HA.out (by simp [pattern_full.l0])
    | succ k1 =>
      have H := HA.out
      clear HA
      simp only [pattern_full.l0] at H
      by_cases c3 : x9_1 < (l0.length : Int)
      · rw [if_pos c3] at H
        have c3b0 : decide (x9_1 < (l0.length : Int)) = true := decide_eq_true c3
        clear c3
        by_cases c4 : 0 ≤ x9_1
        · rw [if_pos c4] at H
          have c4b0 : decide (0 ≤ x9_1) = true := decide_eq_true c4
          clear c4
          by_cases c5 : x9_1 < (l0.length : Int)
          · rw [if_pos c5] at H
            have c5b0 : decide (x9_1 < (l0.length : Int)) = true := decide_eq_true c5
            clear c5
            by_cases c6 : ((rd_T151 l0 x9_1).f0).toList = ([] : List UInt8)
            · rw [if_pos c6] at H
              have c6b0 : (((rd_T151 l0 x9_1).f0).toList == ([] : List UInt8)) = true := beq_iff_eq.mpr c6
              have c6b1 : (((rd_T151 l0 x9_1).f0).toList != ([] : List UInt8)) = false := bne_eq_false_iff_eq.mpr c6
              clear c6
              by_cases c7 : 0 < (((rd_T151 l0 x9_1).f1).size : Int)
              · rw [if_pos c7] at H
                have c7b0 : decide (0 < (((rd_T151 l0 x9_1).f1).size : Int)) = true := decide_eq_true c7
                have c7b1 : decide (0 < ((rd_T151 l0 x9_1).f1).size) = true := decide_eq_true (by omega)
                clear c7
                have HC9 := Aside0.mk H
                clear H
                have p113 : 0 ≤ (x9_1 : Int) := of_decide_eq_true (by first | (with_reducible assumption) | assumption)
                have q113 : x9_1 < (l0.length : Int) := of_decide_eq_true (by first | (with_reducible assumption) | assumption)
                obtain ⟨ad113, e113, hx113_0, hx113_1⟩ := at_T151 HR0.out x9_1 p113 q113
                cases e113
                replace hx113_0 := (HB.out.cell (World.block_lt_of_cell? w _ hx113_0)).trans hx113_0
                replace hx113_1 := (HB.out.cell (World.block_lt_of_cell? w _ hx113_1)).trans hx113_1
                replace p113 := eq_true p113
                replace q113 := eq_true q113
                go_upto_region 8 with (first | ((with_reducible refine gate_dst (N := 5) rfl ?_); refine box_event ?hg (N := 5) ?hd (cs := #[.string (⟨#[]⟩ : ByteArray), .string (⟨#[]⟩ : ByteArray)]) (t := 151) ?hr ?_; (case hd => rfl); (case hg => rfl); (case hr => first | (go_simp; done) | (go_simp; rfl)); intro gb114 hg w10 hbox hb; have n0_ := Aside0.mk (blk_below (g := gb112) (o := .cells #[.int .i64 x113000_1, .int .i64 x113001_1, .int .i64 x113002_1, .int .i64 x113003_1] 104 (0, 0)) (by (with_reducible repeat (first | refine blk_drewN ?_ _ | refine blk_drew ?_ | refine blk_alloc ?_ _)); exact BK112.out) hb); have n1_ := Aside0.mk (below_step (by repeat (first | (with_reducible first | exact HB.out | apply below_alloc | apply pw_below_drewN | apply below_drew1 | refine below_set ?_ GE112.out) | exact HB.out)) hb); have n2_ := Aside0.mk (hbox); have n3_ := Aside0.mk ((by rw [hg]; exact (below_size (by repeat (first | (with_reducible first | exact HB.out | apply below_alloc | apply pw_below_drewN | apply below_drew1 | refine below_set ?_ GE112.out) | exact HB.out))) : w.heap.size ≤ gb114)); have n4_ := Aside0.mk ((by rw [hg]; exact (below_size (by repeat (first | (with_reducible first | exact HB.out | apply below_alloc | apply pw_below_drewN | apply below_drew1 | refine below_set ?_ GE112.out) | exact HB.out))) : w.heap.size ≤ gb114)); have n5_ := Aside0.mk ((by rw [hg]; exact Nat.ne_of_lt (blk_lt (g := gb112) (o := .cells #[.int .i64 x113000_1, .int .i64 x113001_1, .int .i64 x113002_1, .int .i64 x113003_1] 104 (0, 0)) (by (with_reducible repeat (first | refine blk_drewN ?_ _ | refine blk_drew ?_ | refine blk_alloc ?_ _)); exact BK112.out)) : gb112 ≠ gb114)); have n6_ := Aside0.mk ((by rw [hg]; exact Nat.ne_of_gt (blk_lt (g := gb112) (o := .cells #[.int .i64 x113000_1, .int .i64 x113001_1, .int .i64 x113002_1, .int .i64 x113003_1] 104 (0, 0)) (by (with_reducible repeat (first | refine blk_drewN ?_ _ | refine blk_drew ?_ | refine blk_alloc ?_ _)); exact BK112.out)) : gb114 ≠ gb112)); clear BK112; clear HB; have BK112 := n0_; have HB := n1_; have BK114 := n2_; have GW114 := n3_; have GE114 := n4_; have NB112_114 := n5_; have NB114_112 := n6_; clear n0_ n1_ n2_ n3_ n4_ n5_ n6_; clear hb hbox hg; have hnb11 := NB114_112.out; have hnc11 := NB112_114.out; have hcz12_0 : w10.cell? ⟨gb114, 0, none⟩ = some (.string (⟨#[]⟩ : ByteArray)) := (blk_cell BK114.out 0).trans rfl; have hcz12_1 : w10.cell? ⟨gb114, 1, none⟩ = some (.string (⟨#[]⟩ : ByteArray)) := (blk_cell BK114.out 1).trans rfl; have hfz12_0 := blk_frozen BK114.out 0; have hfz12_1 := blk_frozen BK114.out 1; have p8 : 0 ≤ (0 : Int) := (by omega); have q8 : 0 < ((rd_T151 l0 x9_1).f1).size := (by have : (0 : Int) < (((rd_T151 l0 x9_1).f1).size : Int) := of_decide_eq_true (by first | (with_reducible assumption) | assumption); omega); have hx8 : ∀ h : 0 < ((rd_T151 l0 x9_1).f1).size, ((((rd_T151 l0 x9_1).f1)[0]'h).toNat : Int) = bt ((rd_T151 l0 x9_1).f1) 0 := bt_at ((rd_T151 l0 x9_1).f1) 0; clear p8; have qi8 : (0 < (((rd_T151 l0 x9_1).f1).size : Int)) = True := eq_true (of_decide_eq_true (by first | (with_reducible assumption) | assumption)); replace q8 := eq_true q8))
                (try simp only [Act.put, List.setIfInBounds_toArray, List.set_cons_zero, List.set_cons_succ])
                go_cut [54] (fun v54 wc => ∃ (kq : Nat) (x54_8 : Bool), v54 = .bool x54_8 ∧ Aside0 (pattern_full.j1 kq l0 l0 (l0.length : Int) x9_1 x54_8 x113000_1 x113001_1 x113002_1 x113003_1 = some r) ∧ Aside0 (kq ≤ k1) ∧ Aside0 (wc.heap[gb112]? = some (.cells #[.int .i64 x113000_1, .int .i64 x113001_1, .int .i64 x113002_1, .int .i64 x113003_1] 104 (0, 0))) ∧ Aside0 (wc.heap[gb114]? = some (.cells #[.string ((rd_T151 l0 x9_1).f0), .string ((rd_T151 l0 x9_1).f1)] 151 (0, 0))) ∧ Aside0 (Below w.heap.size w wc))
                case first =>
                  have H := HC9.out
                  clear HC9
                  by_cases c13 : x9_1 > 0
                  · rw [if_pos c13] at H
                    have c13b0 : decide (0 < x9_1) = true := decide_eq_true c13
                    clear c13
                    (first | rw [c13b0] | (simp only [i64_w, i32_w]; rw [c13b0]) | skip)
                    by_cases c14 : (bt ((rd_T151 l0 x9_1).f1) 0) = 45
                    · rw [if_pos c14] at H
                      have c14b0 : ((bt ((rd_T151 l0 x9_1).f1) 0) == 45) = true := beq_iff_eq.mpr c14
                      have c14b1 : ((bt ((rd_T151 l0 x9_1).f1) 0) != 45) = false := bne_eq_false_iff_eq.mpr c14
                      clear c14
                      have H' := Aside0.mk H
                      clear H
                      go_wp2
                      go_meet
                      case rel => exact ⟨_, (true), (by first | rfl | (simp; done) | (simp [*]; done)), H', ⟨by have := HK1.out; first | omega | exact Nat.le_refl _⟩, ⟨by (with_reducible repeat (first | refine blk_drewN ?_ _ | refine blk_drew ?_ | refine blk_alloc ?_ _)); refine blk_far ?_ NB112_114.out _; (with_reducible repeat (first | refine blk_drewN ?_ _ | refine blk_drew ?_ | refine blk_alloc ?_ _)); refine blk_far ?_ NB112_114.out _; (with_reducible repeat (first | refine blk_drewN ?_ _ | refine blk_drew ?_ | refine blk_alloc ?_ _)); exact BK112.out⟩, ⟨by (with_reducible repeat (first | refine blk_drewN ?_ _ | refine blk_drew ?_ | refine blk_alloc ?_ _)); refine blk_put (cs := #[.string ((rd_T151 l0 x9_1).f0), .string (⟨#[]⟩ : ByteArray)]) ?_ 1 _ rfl; (with_reducible repeat (first | refine blk_drewN ?_ _ | refine blk_drew ?_ | refine blk_alloc ?_ _)); refine blk_put (cs := #[.string (⟨#[]⟩ : ByteArray), .string (⟨#[]⟩ : ByteArray)]) ?_ 0 _ rfl; (with_reducible repeat (first | refine blk_drewN ?_ _ | refine blk_drew ?_ | refine blk_alloc ?_ _)); exact BK114.out⟩, ⟨by repeat (first | (with_reducible first | exact HB.out | apply below_alloc | apply pw_below_drewN | apply below_drew1 | refine below_set ?_ GE112.out | refine below_set ?_ GE114.out) | exact HB.out)⟩⟩
                    · rw [if_neg c14] at H
                      have c14b0 : ((bt ((rd_T151 l0 x9_1).f1) 0) == 45) = false := beq_eq_false_iff_ne.mpr c14
                      have c14b1 : ((bt ((rd_T151 l0 x9_1).f1) 0) != 45) = true := bne_iff_ne.mpr c14
                      by_cases c15 : (bt ((rd_T151 l0 x9_1).f1) 0) ≥ 97
                      · rw [if_pos c15] at H
                        have c15b0 : decide (97 ≤ (bt ((rd_T151 l0 x9_1).f1) 0)) = true := decide_eq_true c15
                        clear c15
                        by_cases c16 : (bt ((rd_T151 l0 x9_1).f1) 0) ≤ 122
                        · rw [if_pos c16] at H
                          have c16b0 : decide ((bt ((rd_T151 l0 x9_1).f1) 0) ≤ 122) = true := decide_eq_true c16
                          clear c16
                          have H' := Aside0.mk H
                          clear H
                          go_wp2
                          go_meet
                          case rel => exact ⟨_, (true), (by first | rfl | (simp; done) | (simp [*]; done)), H', ⟨by have := HK1.out; first | omega | exact Nat.le_refl _⟩, ⟨by (with_reducible repeat (first | refine blk_drewN ?_ _ | refine blk_drew ?_ | refine blk_alloc ?_ _)); refine blk_far ?_ NB112_114.out _; (with_reducible repeat (first | refine blk_drewN ?_ _ | refine blk_drew ?_ | refine blk_alloc ?_ _)); refine blk_far ?_ NB112_114.out _; (with_reducible repeat (first | refine blk_drewN ?_ _ | refine blk_drew ?_ | refine blk_alloc ?_ _)); exact BK112.out⟩, ⟨by (with_reducible repeat (first | refine blk_drewN ?_ _ | refine blk_drew ?_ | refine blk_alloc ?_ _)); refine blk_put (cs := #[.string ((rd_T151 l0 x9_1).f0), .string (⟨#[]⟩ : ByteArray)]) ?_ 1 _ rfl; (with_reducible repeat (first | refine blk_drewN ?_ _ | refine blk_drew ?_ | refine blk_alloc ?_ _)); refine blk_put (cs := #[.string (⟨#[]⟩ : ByteArray), .string (⟨#[]⟩ : ByteArray)]) ?_ 0 _ rfl; (with_reducible repeat (first | refine blk_drewN ?_ _ | refine blk_drew ?_ | refine blk_alloc ?_ _)); exact BK114.out⟩, ⟨by repeat (first | (with_reducible first | exact HB.out | apply below_alloc | apply pw_below_drewN | apply below_drew1 | refine below_set ?_ GE112.out | refine below_set ?_ GE114.out) | exact HB.out)⟩⟩
                        · rw [if_neg c16] at H
                          have c16b0 : decide ((bt ((rd_T151 l0 x9_1).f1) 0) ≤ 122) = false := decide_eq_false c16
                          clear c16
                          by_cases c17 : (bt ((rd_T151 l0 x9_1).f1) 0) ≥ 65
                          · rw [if_pos c17] at H
                            have c17b0 : decide (65 ≤ (bt ((rd_T151 l0 x9_1).f1) 0)) = true := decide_eq_true c17
                            clear c17
                            by_cases c18 : (bt ((rd_T151 l0 x9_1).f1) 0) ≤ 90
                            · rw [if_pos c18] at H
                              have c18b0 : decide ((bt ((rd_T151 l0 x9_1).f1) 0) ≤ 90) = true := decide_eq_true c18
                              clear c18
                              have H' := Aside0.mk H
                              clear H
                              go_wp2
                              go_meet
                              case rel => exact ⟨_, (true), (by first | rfl | (simp; done) | (simp [*]; done)), H', ⟨by have := HK1.out; first | omega | exact Nat.le_refl _⟩, ⟨by (with_reducible repeat (first | refine blk_drewN ?_ _ | refine blk_drew ?_ | refine blk_alloc ?_ _)); refine blk_far ?_ NB112_114.out _; (with_reducible repeat (first | refine blk_drewN ?_ _ | refine blk_drew ?_ | refine blk_alloc ?_ _)); refine blk_far ?_ NB112_114.out _; (with_reducible repeat (first | refine blk_drewN ?_ _ | refine blk_drew ?_ | refine blk_alloc ?_ _)); exact BK112.out⟩, ⟨by (with_reducible repeat (first | refine blk_drewN ?_ _ | refine blk_drew ?_ | refine blk_alloc ?_ _)); refine blk_put (cs := #[.string ((rd_T151 l0 x9_1).f0), .string (⟨#[]⟩ : ByteArray)]) ?_ 1 _ rfl; (with_reducible repeat (first | refine blk_drewN ?_ _ | refine blk_drew ?_ | refine blk_alloc ?_ _)); refine blk_put (cs := #[.string (⟨#[]⟩ : ByteArray), .string (⟨#[]⟩ : ByteArray)]) ?_ 0 _ rfl; (with_reducible repeat (first | refine blk_drewN ?_ _ | refine blk_drew ?_ | refine blk_alloc ?_ _)); exact BK114.out⟩, ⟨by repeat (first | (with_reducible first | exact HB.out | apply below_alloc | apply pw_below_drewN | apply below_drew1 | refine below_set ?_ GE112.out | refine below_set ?_ GE114.out) | exact HB.out)⟩⟩
                            · rw [if_neg c18] at H
                              have c18b0 : decide ((bt ((rd_T151 l0 x9_1).f1) 0) ≤ 90) = false := decide_eq_false c18
                              clear c18
                              by_cases c19 : (bt ((rd_T151 l0 x9_1).f1) 0) ≥ 48
                              · rw [if_pos c19] at H
                                have c19b0 : decide (48 ≤ (bt ((rd_T151 l0 x9_1).f1) 0)) = true := decide_eq_true c19
                                clear c19
                                by_cases c20 : (bt ((rd_T151 l0 x9_1).f1) 0) ≤ 57
                                · rw [if_pos c20] at H
                                  have c20b0 : decide ((bt ((rd_T151 l0 x9_1).f1) 0) ≤ 57) = true := decide_eq_true c20
                                  clear c20
                                  have H' := Aside0.mk H
                                  clear H
                                  go_wp2
                                  go_meet
                                  case rel => exact ⟨_, (true), (by first | rfl | (simp; done) | (simp [*]; done)), H', ⟨by have := HK1.out; first | omega | exact Nat.le_refl _⟩, ⟨by (with_reducible repeat (first | refine blk_drewN ?_ _ | refine blk_drew ?_ | refine blk_alloc ?_ _)); refine blk_far ?_ NB112_114.out _; (with_reducible repeat (first | refine blk_drewN ?_ _ | refine blk_drew ?_ | refine blk_alloc ?_ _)); refine blk_far ?_ NB112_114.out _; (with_reducible repeat (first | refine blk_drewN ?_ _ | refine blk_drew ?_ | refine blk_alloc ?_ _)); exact BK112.out⟩, ⟨by (with_reducible repeat (first | refine blk_drewN ?_ _ | refine blk_drew ?_ | refine blk_alloc ?_ _)); refine blk_put (cs := #[.string ((rd_T151 l0 x9_1).f0), .string (⟨#[]⟩ : ByteArray)]) ?_ 1 _ rfl; (with_reducible repeat (first | refine blk_drewN ?_ _ | refine blk_drew ?_ | refine blk_alloc ?_ _)); refine blk_put (cs := #[.string (⟨#[]⟩ : ByteArray), .string (⟨#[]⟩ : ByteArray)]) ?_ 0 _ rfl; (with_reducible repeat (first | refine blk_drewN ?_ _ | refine blk_drew ?_ | refine blk_alloc ?_ _)); exact BK114.out⟩, ⟨by repeat (first | (with_reducible first | exact HB.out | apply below_alloc | apply pw_below_drewN | apply below_drew1 | refine below_set ?_ GE112.out | refine below_set ?_ GE114.out) | exact HB.out)⟩⟩
                                · rw [if_neg c20] at H
                                  have c20b0 : decide ((bt ((rd_T151 l0 x9_1).f1) 0) ≤ 57) = false := decide_eq_false c20
                                  clear c20
                                  have H' := Aside0.mk H
                                  clear H
                                  go_wp2
                                  go_meet
                                  case rel => exact ⟨_, (decide ((bt ((rd_T151 l0 x9_1).f1) 0) > 127)), (by first | rfl | (simp; done) | (simp [*]; done)), H', ⟨by have := HK1.out; first | omega | exact Nat.le_refl _⟩, ⟨by (with_reducible repeat (first | refine blk_drewN ?_ _ | refine blk_drew ?_ | refine blk_alloc ?_ _)); refine blk_far ?_ NB112_114.out _; (with_reducible repeat (first | refine blk_drewN ?_ _ | refine blk_drew ?_ | refine blk_alloc ?_ _)); refine blk_far ?_ NB112_114.out _; (with_reducible repeat (first | refine blk_drewN ?_ _ | refine blk_drew ?_ | refine blk_alloc ?_ _)); exact BK112.out⟩, ⟨by (with_reducible repeat (first | refine blk_drewN ?_ _ | refine blk_drew ?_ | refine blk_alloc ?_ _)); refine blk_put (cs := #[.string ((rd_T151 l0 x9_1).f0), .string (⟨#[]⟩ : ByteArray)]) ?_ 1 _ rfl; (with_reducible repeat (first | refine blk_drewN ?_ _ | refine blk_drew ?_ | refine blk_alloc ?_ _)); refine blk_put (cs := #[.string (⟨#[]⟩ : ByteArray), .string (⟨#[]⟩ : ByteArray)]) ?_ 0 _ rfl; (with_reducible repeat (first | refine blk_drewN ?_ _ | refine blk_drew ?_ | refine blk_alloc ?_ _)); exact BK114.out⟩, ⟨by repeat (first | (with_reducible first | exact HB.out | apply below_alloc | apply pw_below_drewN | apply below_drew1 | refine below_set ?_ GE112.out | refine below_set ?_ GE114.out) | exact HB.out)⟩⟩
                              · rw [if_neg c19] at H
                                have c19b0 : decide (48 ≤ (bt ((rd_T151 l0 x9_1).f1) 0)) = false := decide_eq_false c19
                                clear c19
                                have H' := Aside0.mk H
                                clear H
                                go_wp2
                                go_meet
                                case rel => exact ⟨_, (decide ((bt ((rd_T151 l0 x9_1).f1) 0) > 127)), (by first | rfl | (simp; done) | (simp [*]; done)), H', ⟨by have := HK1.out; first | omega | exact Nat.le_refl _⟩, ⟨by (with_reducible repeat (first | refine blk_drewN ?_ _ | refine blk_drew ?_ | refine blk_alloc ?_ _)); refine blk_far ?_ NB112_114.out _; (with_reducible repeat (first | refine blk_drewN ?_ _ | refine blk_drew ?_ | refine blk_alloc ?_ _)); refine blk_far ?_ NB112_114.out _; (with_reducible repeat (first | refine blk_drewN ?_ _ | refine blk_drew ?_ | refine blk_alloc ?_ _)); exact BK112.out⟩, ⟨by (with_reducible repeat (first | refine blk_drewN ?_ _ | refine blk_drew ?_ | refine blk_alloc ?_ _)); refine blk_put (cs := #[.string ((rd_T151 l0 x9_1).f0), .string (⟨#[]⟩ : ByteArray)]) ?_ 1 _ rfl; (with_reducible repeat (first | refine blk_drewN ?_ _ | refine blk_drew ?_ | refine blk_alloc ?_ _)); refine blk_put (cs := #[.string (⟨#[]⟩ : ByteArray), .string (⟨#[]⟩ : ByteArray)]) ?_ 0 _ rfl; (with_reducible repeat (first | refine blk_drewN ?_ _ | refine blk_drew ?_ | refine blk_alloc ?_ _)); exact BK114.out⟩, ⟨by repeat (first | (with_reducible first | exact HB.out | apply below_alloc | apply pw_below_drewN | apply below_drew1 | refine below_set ?_ GE112.out | refine below_set ?_ GE114.out) | exact HB.out)⟩⟩
                          · rw [if_neg c17] at H
                            have c17b0 : decide (65 ≤ (bt ((rd_T151 l0 x9_1).f1) 0)) = false := decide_eq_false c17
                            clear c17
                            by_cases c21 : (bt ((rd_T151 l0 x9_1).f1) 0) ≥ 48
                            · rw [if_pos c21] at H
                              have c21b0 : decide (48 ≤ (bt ((rd_T151 l0 x9_1).f1) 0)) = true := decide_eq_true c21
                              clear c21
                              by_cases c22 : (bt ((rd_T151 l0 x9_1).f1) 0) ≤ 57
                              · rw [if_pos c22] at H
                                have c22b0 : decide ((bt ((rd_T151 l0 x9_1).f1) 0) ≤ 57) = true := decide_eq_true c22
                                clear c22
                                have H' := Aside0.mk H
                                clear H
                                go_wp2
                                go_meet
                                case rel => exact ⟨_, (true), (by first | rfl | (simp; done) | (simp [*]; done)), H', ⟨by have := HK1.out; first | omega | exact Nat.le_refl _⟩, ⟨by (with_reducible repeat (first | refine blk_drewN ?_ _ | refine blk_drew ?_ | refine blk_alloc ?_ _)); refine blk_far ?_ NB112_114.out _; (with_reducible repeat (first | refine blk_drewN ?_ _ | refine blk_drew ?_ | refine blk_alloc ?_ _)); refine blk_far ?_ NB112_114.out _; (with_reducible repeat (first | refine blk_drewN ?_ _ | refine blk_drew ?_ | refine blk_alloc ?_ _)); exact BK112.out⟩, ⟨by (with_reducible repeat (first | refine blk_drewN ?_ _ | refine blk_drew ?_ | refine blk_alloc ?_ _)); refine blk_put (cs := #[.string ((rd_T151 l0 x9_1).f0), .string (⟨#[]⟩ : ByteArray)]) ?_ 1 _ rfl; (with_reducible repeat (first | refine blk_drewN ?_ _ | refine blk_drew ?_ | refine blk_alloc ?_ _)); refine blk_put (cs := #[.string (⟨#[]⟩ : ByteArray), .string (⟨#[]⟩ : ByteArray)]) ?_ 0 _ rfl; (with_reducible repeat (first | refine blk_drewN ?_ _ | refine blk_drew ?_ | refine blk_alloc ?_ _)); exact BK114.out⟩, ⟨by repeat (first | (with_reducible first | exact HB.out | apply below_alloc | apply pw_below_drewN | apply below_drew1 | refine below_set ?_ GE112.out | refine below_set ?_ GE114.out) | exact HB.out)⟩⟩
                              · rw [if_neg c22] at H
                                have c22b0 : decide ((bt ((rd_T151 l0 x9_1).f1) 0) ≤ 57) = false := decide_eq_false c22
                                clear c22
                                have H' := Aside0.mk H
                                clear H
                                go_wp2
                                go_meet
                                case rel => exact ⟨_, (decide ((bt ((rd_T151 l0 x9_1).f1) 0) > 127)), (by first | rfl | (simp; done) | (simp [*]; done)), H', ⟨by have := HK1.out; first | omega | exact Nat.le_refl _⟩, ⟨by (with_reducible repeat (first | refine blk_drewN ?_ _ | refine blk_drew ?_ | refine blk_alloc ?_ _)); refine blk_far ?_ NB112_114.out _; (with_reducible repeat (first | refine blk_drewN ?_ _ | refine blk_drew ?_ | refine blk_alloc ?_ _)); refine blk_far ?_ NB112_114.out _; (with_reducible repeat (first | refine blk_drewN ?_ _ | refine blk_drew ?_ | refine blk_alloc ?_ _)); exact BK112.out⟩, ⟨by (with_reducible repeat (first | refine blk_drewN ?_ _ | refine blk_drew ?_ | refine blk_alloc ?_ _)); refine blk_put (cs := #[.string ((rd_T151 l0 x9_1).f0), .string (⟨#[]⟩ : ByteArray)]) ?_ 1 _ rfl; (with_reducible repeat (first | refine blk_drewN ?_ _ | refine blk_drew ?_ | refine blk_alloc ?_ _)); refine blk_put (cs := #[.string (⟨#[]⟩ : ByteArray), .string (⟨#[]⟩ : ByteArray)]) ?_ 0 _ rfl; (with_reducible repeat (first | refine blk_drewN ?_ _ | refine blk_drew ?_ | refine blk_alloc ?_ _)); exact BK114.out⟩, ⟨by repeat (first | (with_reducible first | exact HB.out | apply below_alloc | apply pw_below_drewN | apply below_drew1 | refine below_set ?_ GE112.out | refine below_set ?_ GE114.out) | exact HB.out)⟩⟩
                            · rw [if_neg c21] at H
                              have c21b0 : decide (48 ≤ (bt ((rd_T151 l0 x9_1).f1) 0)) = false := decide_eq_false c21
                              clear c21
                              have H' := Aside0.mk H
                              clear H
                              go_wp2
                              go_meet
                              case rel => exact ⟨_, (decide ((bt ((rd_T151 l0 x9_1).f1) 0) > 127)), (by first | rfl | (simp; done) | (simp [*]; done)), H', ⟨by have := HK1.out; first | omega | exact Nat.le_refl _⟩, ⟨by (with_reducible repeat (first | refine blk_drewN ?_ _ | refine blk_drew ?_ | refine blk_alloc ?_ _)); refine blk_far ?_ NB112_114.out _; (with_reducible repeat (first | refine blk_drewN ?_ _ | refine blk_drew ?_ | refine blk_alloc ?_ _)); refine blk_far ?_ NB112_114.out _; (with_reducible repeat (first | refine blk_drewN ?_ _ | refine blk_drew ?_ | refine blk_alloc ?_ _)); exact BK112.out⟩, ⟨by (with_reducible repeat (first | refine blk_drewN ?_ _ | refine blk_drew ?_ | refine blk_alloc ?_ _)); refine blk_put (cs := #[.string ((rd_T151 l0 x9_1).f0), .string (⟨#[]⟩ : ByteArray)]) ?_ 1 _ rfl; (with_reducible repeat (first | refine blk_drewN ?_ _ | refine blk_drew ?_ | refine blk_alloc ?_ _)); refine blk_put (cs := #[.string (⟨#[]⟩ : ByteArray), .string (⟨#[]⟩ : ByteArray)]) ?_ 0 _ rfl; (with_reducible repeat (first | refine blk_drewN ?_ _ | refine blk_drew ?_ | refine blk_alloc ?_ _)); exact BK114.out⟩, ⟨by repeat (first | (with_reducible first | exact HB.out | apply below_alloc | apply pw_below_drewN | apply below_drew1 | refine below_set ?_ GE112.out | refine below_set ?_ GE114.out) | exact HB.out)⟩⟩
                      · rw [if_neg c15] at H
                        have c15b0 : decide (97 ≤ (bt ((rd_T151 l0 x9_1).f1) 0)) = false := decide_eq_false c15
                        clear c15
                        by_cases c23 : (bt ((rd_T151 l0 x9_1).f1) 0) ≥ 65
                        · rw [if_pos c23] at H
                          have c23b0 : decide (65 ≤ (bt ((rd_T151 l0 x9_1).f1) 0)) = true := decide_eq_true c23
                          clear c23
                          by_cases c24 : (bt ((rd_T151 l0 x9_1).f1) 0) ≤ 90
                          · rw [if_pos c24] at H
                            have c24b0 : decide ((bt ((rd_T151 l0 x9_1).f1) 0) ≤ 90) = true := decide_eq_true c24
                            clear c24
                            have H' := Aside0.mk H
                            clear H
                            go_wp2
                            go_meet
                            case rel => exact ⟨_, (true), (by first | rfl | (simp; done) | (simp [*]; done)), H', ⟨by have := HK1.out; first | omega | exact Nat.le_refl _⟩, ⟨by (with_reducible repeat (first | refine blk_drewN ?_ _ | refine blk_drew ?_ | refine blk_alloc ?_ _)); refine blk_far ?_ NB112_114.out _; (with_reducible repeat (first | refine blk_drewN ?_ _ | refine blk_drew ?_ | refine blk_alloc ?_ _)); refine blk_far ?_ NB112_114.out _; (with_reducible repeat (first | refine blk_drewN ?_ _ | refine blk_drew ?_ | refine blk_alloc ?_ _)); exact BK112.out⟩, ⟨by (with_reducible repeat (first | refine blk_drewN ?_ _ | refine blk_drew ?_ | refine blk_alloc ?_ _)); refine blk_put (cs := #[.string ((rd_T151 l0 x9_1).f0), .string (⟨#[]⟩ : ByteArray)]) ?_ 1 _ rfl; (with_reducible repeat (first | refine blk_drewN ?_ _ | refine blk_drew ?_ | refine blk_alloc ?_ _)); refine blk_put (cs := #[.string (⟨#[]⟩ : ByteArray), .string (⟨#[]⟩ : ByteArray)]) ?_ 0 _ rfl; (with_reducible repeat (first | refine blk_drewN ?_ _ | refine blk_drew ?_ | refine blk_alloc ?_ _)); exact BK114.out⟩, ⟨by repeat (first | (with_reducible first | exact HB.out | apply below_alloc | apply pw_below_drewN | apply below_drew1 | refine below_set ?_ GE112.out | refine below_set ?_ GE114.out) | exact HB.out)⟩⟩
                          · rw [if_neg c24] at H
                            have c24b0 : decide ((bt ((rd_T151 l0 x9_1).f1) 0) ≤ 90) = false := decide_eq_false c24
                            clear c24
                            by_cases c25 : (bt ((rd_T151 l0 x9_1).f1) 0) ≥ 48
                            · rw [if_pos c25] at H
                              have c25b0 : decide (48 ≤ (bt ((rd_T151 l0 x9_1).f1) 0)) = true := decide_eq_true c25
                              clear c25
                              by_cases c26 : (bt ((rd_T151 l0 x9_1).f1) 0) ≤ 57
                              · rw [if_pos c26] at H
                                have c26b0 : decide ((bt ((rd_T151 l0 x9_1).f1) 0) ≤ 57) = true := decide_eq_true c26
                                clear c26
                                have H' := Aside0.mk H
                                clear H
                                go_wp2
                                go_meet
                                case rel => exact ⟨_, (true), (by first | rfl | (simp; done) | (simp [*]; done)), H', ⟨by have := HK1.out; first | omega | exact Nat.le_refl _⟩, ⟨by (with_reducible repeat (first | refine blk_drewN ?_ _ | refine blk_drew ?_ | refine blk_alloc ?_ _)); refine blk_far ?_ NB112_114.out _; (with_reducible repeat (first | refine blk_drewN ?_ _ | refine blk_drew ?_ | refine blk_alloc ?_ _)); refine blk_far ?_ NB112_114.out _; (with_reducible repeat (first | refine blk_drewN ?_ _ | refine blk_drew ?_ | refine blk_alloc ?_ _)); exact BK112.out⟩, ⟨by (with_reducible repeat (first | refine blk_drewN ?_ _ | refine blk_drew ?_ | refine blk_alloc ?_ _)); refine blk_put (cs := #[.string ((rd_T151 l0 x9_1).f0), .string (⟨#[]⟩ : ByteArray)]) ?_ 1 _ rfl; (with_reducible repeat (first | refine blk_drewN ?_ _ | refine blk_drew ?_ | refine blk_alloc ?_ _)); refine blk_put (cs := #[.string (⟨#[]⟩ : ByteArray), .string (⟨#[]⟩ : ByteArray)]) ?_ 0 _ rfl; (with_reducible repeat (first | refine blk_drewN ?_ _ | refine blk_drew ?_ | refine blk_alloc ?_ _)); exact BK114.out⟩, ⟨by repeat (first | (with_reducible first | exact HB.out | apply below_alloc | apply pw_below_drewN | apply below_drew1 | refine below_set ?_ GE112.out | refine below_set ?_ GE114.out) | exact HB.out)⟩⟩
                              · rw [if_neg c26] at H
                                have c26b0 : decide ((bt ((rd_T151 l0 x9_1).f1) 0) ≤ 57) = false := decide_eq_false c26
                                clear c26
                                have H' := Aside0.mk H
                                clear H
                                go_wp2
                                go_meet
                                case rel => exact ⟨_, (decide ((bt ((rd_T151 l0 x9_1).f1) 0) > 127)), (by first | rfl | (simp; done) | (simp [*]; done)), H', ⟨by have := HK1.out; first | omega | exact Nat.le_refl _⟩, ⟨by (with_reducible repeat (first | refine blk_drewN ?_ _ | refine blk_drew ?_ | refine blk_alloc ?_ _)); refine blk_far ?_ NB112_114.out _; (with_reducible repeat (first | refine blk_drewN ?_ _ | refine blk_drew ?_ | refine blk_alloc ?_ _)); refine blk_far ?_ NB112_114.out _; (with_reducible repeat (first | refine blk_drewN ?_ _ | refine blk_drew ?_ | refine blk_alloc ?_ _)); exact BK112.out⟩, ⟨by (with_reducible repeat (first | refine blk_drewN ?_ _ | refine blk_drew ?_ | refine blk_alloc ?_ _)); refine blk_put (cs := #[.string ((rd_T151 l0 x9_1).f0), .string (⟨#[]⟩ : ByteArray)]) ?_ 1 _ rfl; (with_reducible repeat (first | refine blk_drewN ?_ _ | refine blk_drew ?_ | refine blk_alloc ?_ _)); refine blk_put (cs := #[.string (⟨#[]⟩ : ByteArray), .string (⟨#[]⟩ : ByteArray)]) ?_ 0 _ rfl; (with_reducible repeat (first | refine blk_drewN ?_ _ | refine blk_drew ?_ | refine blk_alloc ?_ _)); exact BK114.out⟩, ⟨by repeat (first | (with_reducible first | exact HB.out | apply below_alloc | apply pw_below_drewN | apply below_drew1 | refine below_set ?_ GE112.out | refine below_set ?_ GE114.out) | exact HB.out)⟩⟩
                            · rw [if_neg c25] at H
                              have c25b0 : decide (48 ≤ (bt ((rd_T151 l0 x9_1).f1) 0)) = false := decide_eq_false c25
                              clear c25
                              have H' := Aside0.mk H
                              clear H
                              go_wp2
                              go_meet
                              case rel => exact ⟨_, (decide ((bt ((rd_T151 l0 x9_1).f1) 0) > 127)), (by first | rfl | (simp; done) | (simp [*]; done)), H', ⟨by have := HK1.out; first | omega | exact Nat.le_refl _⟩, ⟨by (with_reducible repeat (first | refine blk_drewN ?_ _ | refine blk_drew ?_ | refine blk_alloc ?_ _)); refine blk_far ?_ NB112_114.out _; (with_reducible repeat (first | refine blk_drewN ?_ _ | refine blk_drew ?_ | refine blk_alloc ?_ _)); refine blk_far ?_ NB112_114.out _; (with_reducible repeat (first | refine blk_drewN ?_ _ | refine blk_drew ?_ | refine blk_alloc ?_ _)); exact BK112.out⟩, ⟨by (with_reducible repeat (first | refine blk_drewN ?_ _ | refine blk_drew ?_ | refine blk_alloc ?_ _)); refine blk_put (cs := #[.string ((rd_T151 l0 x9_1).f0), .string (⟨#[]⟩ : ByteArray)]) ?_ 1 _ rfl; (with_reducible repeat (first | refine blk_drewN ?_ _ | refine blk_drew ?_ | refine blk_alloc ?_ _)); refine blk_put (cs := #[.string (⟨#[]⟩ : ByteArray), .string (⟨#[]⟩ : ByteArray)]) ?_ 0 _ rfl; (with_reducible repeat (first | refine blk_drewN ?_ _ | refine blk_drew ?_ | refine blk_alloc ?_ _)); exact BK114.out⟩, ⟨by repeat (first | (with_reducible first | exact HB.out | apply below_alloc | apply pw_below_drewN | apply below_drew1 | refine below_set ?_ GE112.out | refine below_set ?_ GE114.out) | exact HB.out)⟩⟩
                        · rw [if_neg c23] at H
                          have c23b0 : decide (65 ≤ (bt ((rd_T151 l0 x9_1).f1) 0)) = false := decide_eq_false c23
                          clear c23
                          by_cases c27 : (bt ((rd_T151 l0 x9_1).f1) 0) ≥ 48
                          · rw [if_pos c27] at H
                            have c27b0 : decide (48 ≤ (bt ((rd_T151 l0 x9_1).f1) 0)) = true := decide_eq_true c27
                            clear c27
                            by_cases c28 : (bt ((rd_T151 l0 x9_1).f1) 0) ≤ 57
                            · rw [if_pos c28] at H
                              have c28b0 : decide ((bt ((rd_T151 l0 x9_1).f1) 0) ≤ 57) = true := decide_eq_true c28
                              clear c28
                              have H' := Aside0.mk H
                              clear H
                              go_wp2
                              go_meet
                              case rel => exact ⟨_, (true), (by first | rfl | (simp; done) | (simp [*]; done)), H', ⟨by have := HK1.out; first | omega | exact Nat.le_refl _⟩, ⟨by (with_reducible repeat (first | refine blk_drewN ?_ _ | refine blk_drew ?_ | refine blk_alloc ?_ _)); refine blk_far ?_ NB112_114.out _; (with_reducible repeat (first | refine blk_drewN ?_ _ | refine blk_drew ?_ | refine blk_alloc ?_ _)); refine blk_far ?_ NB112_114.out _; (with_reducible repeat (first | refine blk_drewN ?_ _ | refine blk_drew ?_ | refine blk_alloc ?_ _)); exact BK112.out⟩, ⟨by (with_reducible repeat (first | refine blk_drewN ?_ _ | refine blk_drew ?_ | refine blk_alloc ?_ _)); refine blk_put (cs := #[.string ((rd_T151 l0 x9_1).f0), .string (⟨#[]⟩ : ByteArray)]) ?_ 1 _ rfl; (with_reducible repeat (first | refine blk_drewN ?_ _ | refine blk_drew ?_ | refine blk_alloc ?_ _)); refine blk_put (cs := #[.string (⟨#[]⟩ : ByteArray), .string (⟨#[]⟩ : ByteArray)]) ?_ 0 _ rfl; (with_reducible repeat (first | refine blk_drewN ?_ _ | refine blk_drew ?_ | refine blk_alloc ?_ _)); exact BK114.out⟩, ⟨by repeat (first | (with_reducible first | exact HB.out | apply below_alloc | apply pw_below_drewN | apply below_drew1 | refine below_set ?_ GE112.out | refine below_set ?_ GE114.out) | exact HB.out)⟩⟩
                            · rw [if_neg c28] at H
                              have c28b0 : decide ((bt ((rd_T151 l0 x9_1).f1) 0) ≤ 57) = false := decide_eq_false c28
                              clear c28
                              have H' := Aside0.mk H
                              clear H
                              go_wp2
                              go_meet
                              case rel => exact ⟨_, (decide ((bt ((rd_T151 l0 x9_1).f1) 0) > 127)), (by first | rfl | (simp; done) | (simp [*]; done)), H', ⟨by have := HK1.out; first | omega | exact Nat.le_refl _⟩, ⟨by (with_reducible repeat (first | refine blk_drewN ?_ _ | refine blk_drew ?_ | refine blk_alloc ?_ _)); refine blk_far ?_ NB112_114.out _; (with_reducible repeat (first | refine blk_drewN ?_ _ | refine blk_drew ?_ | refine blk_alloc ?_ _)); refine blk_far ?_ NB112_114.out _; (with_reducible repeat (first | refine blk_drewN ?_ _ | refine blk_drew ?_ | refine blk_alloc ?_ _)); exact BK112.out⟩, ⟨by (with_reducible repeat (first | refine blk_drewN ?_ _ | refine blk_drew ?_ | refine blk_alloc ?_ _)); refine blk_put (cs := #[.string ((rd_T151 l0 x9_1).f0), .string (⟨#[]⟩ : ByteArray)]) ?_ 1 _ rfl; (with_reducible repeat (first | refine blk_drewN ?_ _ | refine blk_drew ?_ | refine blk_alloc ?_ _)); refine blk_put (cs := #[.string (⟨#[]⟩ : ByteArray), .string (⟨#[]⟩ : ByteArray)]) ?_ 0 _ rfl; (with_reducible repeat (first | refine blk_drewN ?_ _ | refine blk_drew ?_ | refine blk_alloc ?_ _)); exact BK114.out⟩, ⟨by repeat (first | (with_reducible first | exact HB.out | apply below_alloc | apply pw_below_drewN | apply below_drew1 | refine below_set ?_ GE112.out | refine below_set ?_ GE114.out) | exact HB.out)⟩⟩
                          · rw [if_neg c27] at H
                            have c27b0 : decide (48 ≤ (bt ((rd_T151 l0 x9_1).f1) 0)) = false := decide_eq_false c27
                            clear c27
                            have H' := Aside0.mk H
                            clear H
                            go_wp2
                            go_meet
                            case rel => exact ⟨_, (decide ((bt ((rd_T151 l0 x9_1).f1) 0) > 127)), (by first | rfl | (simp; done) | (simp [*]; done)), H', ⟨by have := HK1.out; first | omega | exact Nat.le_refl _⟩, ⟨by (with_reducible repeat (first | refine blk_drewN ?_ _ | refine blk_drew ?_ | refine blk_alloc ?_ _)); refine blk_far ?_ NB112_114.out _; (with_reducible repeat (first | refine blk_drewN ?_ _ | refine blk_drew ?_ | refine blk_alloc ?_ _)); refine blk_far ?_ NB112_114.out _; (with_reducible repeat (first | refine blk_drewN ?_ _ | refine blk_drew ?_ | refine blk_alloc ?_ _)); exact BK112.out⟩, ⟨by (with_reducible repeat (first | refine blk_drewN ?_ _ | refine blk_drew ?_ | refine blk_alloc ?_ _)); refine blk_put (cs := #[.string ((rd_T151 l0 x9_1).f0), .string (⟨#[]⟩ : ByteArray)]) ?_ 1 _ rfl; (with_reducible repeat (first | refine blk_drewN ?_ _ | refine blk_drew ?_ | refine blk_alloc ?_ _)); refine blk_put (cs := #[.string (⟨#[]⟩ : ByteArray), .string (⟨#[]⟩ : ByteArray)]) ?_ 0 _ rfl; (with_reducible repeat (first | refine blk_drewN ?_ _ | refine blk_drew ?_ | refine blk_alloc ?_ _)); exact BK114.out⟩, ⟨by repeat (first | (with_reducible first | exact HB.out | apply below_alloc | apply pw_below_drewN | apply below_drew1 | refine below_set ?_ GE112.out | refine below_set ?_ GE114.out) | exact HB.out)⟩⟩
                  · rw [if_neg c13] at H
                    have c13b0 : decide (0 < x9_1) = false := decide_eq_false c13
                    clear c13
                    (first | rw [c13b0] | (simp only [i64_w, i32_w]; rw [c13b0]) | skip)
                    have H' := Aside0.mk H
                    clear H
                    go_wp2
                    go_meet
                    case rel => exact ⟨_, (false), (by first | rfl | (simp; done) | (simp [*]; done)), H', ⟨by have := HK1.out; first | omega | exact Nat.le_refl _⟩, ⟨by (with_reducible repeat (first | refine blk_drewN ?_ _ | refine blk_drew ?_ | refine blk_alloc ?_ _)); refine blk_far ?_ NB112_114.out _; (with_reducible repeat (first | refine blk_drewN ?_ _ | refine blk_drew ?_ | refine blk_alloc ?_ _)); refine blk_far ?_ NB112_114.out _; (with_reducible repeat (first | refine blk_drewN ?_ _ | refine blk_drew ?_ | refine blk_alloc ?_ _)); exact BK112.out⟩, ⟨by (with_reducible repeat (first | refine blk_drewN ?_ _ | refine blk_drew ?_ | refine blk_alloc ?_ _)); refine blk_put (cs := #[.string ((rd_T151 l0 x9_1).f0), .string (⟨#[]⟩ : ByteArray)]) ?_ 1 _ rfl; (with_reducible repeat (first | refine blk_drewN ?_ _ | refine blk_drew ?_ | refine blk_alloc ?_ _)); refine blk_put (cs := #[.string (⟨#[]⟩ : ByteArray), .string (⟨#[]⟩ : ByteArray)]) ?_ 0 _ rfl; (with_reducible repeat (first | refine blk_drewN ?_ _ | refine blk_drew ?_ | refine blk_alloc ?_ _)); exact BK114.out⟩, ⟨by repeat (first | (with_reducible first | exact HB.out | apply below_alloc | apply pw_below_drewN | apply below_drew1 | refine below_set ?_ GE112.out | refine below_set ?_ GE114.out) | exact HB.out)⟩⟩
                case rest =>
                  clear HC9
                  try clear c1
                  try clear p1
                  try clear q1
                  try clear hx1
                  try clear c2
                  try clear p2
                  try clear c3
                  try clear c3b0
                  try clear c4
                  try clear c4b0
                  try clear c5
                  try clear c5b0
                  try clear c6
                  try clear c6b0
                  try clear c6b1
                  try clear c7
                  try clear c7b0
                  try clear c7b1
                  try clear p8
                  try clear q8
                  try clear hx8
                  try clear qi8
                  try clear c11
                  try clear p11
                  try clear q11
                  try clear hx11
                  try clear c13
                  try clear c13b0
                  try clear c14
                  try clear c14b0
                  try clear c14b1
                  try clear c15
                  try clear c15b0
                  try clear c16
                  try clear c16b0
                  try clear c17
                  try clear c17b0
                  try clear c18
                  try clear c18b0
                  try clear c19
                  try clear c19b0
                  try clear c20
                  try clear c20b0
                  try clear c21
                  try clear c21b0
                  try clear c22
                  try clear c22b0
                  try clear c23
                  try clear c23b0
                  try clear c24
                  try clear c24b0
                  try clear c25
                  try clear c25b0
                  try clear c26
                  try clear c26b0
                  try clear c27
                  try clear c27b0
                  try clear c28
                  try clear c28b0
                  try clear hcz12_0
                  try clear hcz12_1
                  try clear hfz12_0
                  try clear hfz12_1
                  try clear hx113_0
                  try clear hx113_1
                  try clear p113
                  try clear p2
                  try clear p8
                  try clear q113
                  try clear q8
                  obtain ⟨kq, x54_8, rfl, HA, HJ8, BK112, BK114, HB⟩ := hcut
                  cases kq with
                  | zero => exact absurd HA.out (by simp [pattern_full.j1])
                  | succ kj8 =>
                    have H := HA.out
                    clear HA
                    simp only [pattern_full.j1] at H
                    by_cases c29 : x54_8 = true
                    · subst c29
                      have H1 : (some false) = some r := by rw [if_pos rfl] at H; exact H
                      clear H
                      have H := H1
                      clear H1
                      obtain rfl := Option.some.inj H
                      go_wp2
                      go_ret
                      exact ⟨by first | rfl | (simp [errW_none, errW_some] <;> rfl) | (simp [*, errW_none, errW_some] <;> rfl), by repeat (first | (with_reducible first | exact HB.out | apply below_alloc | apply pw_below_drewN | apply below_drew1 | refine below_set ?_ GE112.out | refine below_set ?_ GE114.out) | exact HB.out)⟩
                    · replace c29 := Bool.eq_false_iff.mpr c29
                      subst c29
                      have H1 : (pattern_full.l0 kj8 l0 l0 (l0.length : Int) (wrap64 (x9_1 + 1)) x113000_1 x113001_1 x113002_1 x113003_1) = some r := by rw [if_neg (show ¬ (false = true) by decide)] at H; exact H
                      clear H
                      have H := H1
                      clear H1
                      have H' := Aside0.mk H
                      clear H
                      go_wp2
                      go_roundg kj8
                      case measure => have := HK1.out; have := HJ8.out; omega
                      case rel => exact ⟨(wrap64 (x9_1 + 1)), (x113000_1), (x113001_1), (x113002_1), (x113003_1), (by first | rfl | (simp; done) | (simp [*]; done)), H', ⟨by have := HK1.out; have := HJ8.out; omega⟩, ⟨by (with_reducible repeat (first | refine blk_drewN ?_ _ | refine blk_drew ?_ | refine blk_alloc ?_ _)); exact BK112.out⟩, ⟨by repeat (first | (with_reducible first | exact HB.out | apply below_alloc | apply pw_below_drewN | apply below_drew1 | refine below_set ?_ GE112.out | refine below_set ?_ GE114.out) | exact HB.out)⟩⟩
              · rw [if_neg c7] at H
                exact absurd H (by simp)
            · rw [if_neg c6] at H
              have c6b0 : (((rd_T151 l0 x9_1).f0).toList == ([] : List UInt8)) = false := beq_eq_false_iff_ne.mpr c6
              have c6b1 : (((rd_T151 l0 x9_1).f0).toList != ([] : List UInt8)) = true := bne_iff_ne.mpr c6
              have HC30 := Aside0.mk H
              clear H
              have p113 : 0 ≤ (x9_1 : Int) := of_decide_eq_true (by first | (with_reducible assumption) | assumption)
              have q113 : x9_1 < (l0.length : Int) := of_decide_eq_true (by first | (with_reducible assumption) | assumption)
              obtain ⟨ad113, e113, hx113_0, hx113_1⟩ := at_T151 HR0.out x9_1 p113 q113
              cases e113
              replace hx113_0 := (HB.out.cell (World.block_lt_of_cell? w _ hx113_0)).trans hx113_0
              replace hx113_1 := (HB.out.cell (World.block_lt_of_cell? w _ hx113_1)).trans hx113_1
              replace p113 := eq_true p113
              replace q113 := eq_true q113
              go_upto_if 55 with (first | ((with_reducible refine gate_dst (N := 5) rfl ?_); refine box_event ?hg (N := 5) ?hd (cs := #[.string (⟨#[]⟩ : ByteArray), .string (⟨#[]⟩ : ByteArray)]) (t := 151) ?hr ?_; (case hd => rfl); (case hg => rfl); (case hr => first | (go_simp; done) | (go_simp; rfl)); intro gb114 hg w31 hbox hb; have n0_ := Aside0.mk (blk_below (g := gb112) (o := .cells #[.int .i64 x113000_1, .int .i64 x113001_1, .int .i64 x113002_1, .int .i64 x113003_1] 104 (0, 0)) (by (with_reducible repeat (first | refine blk_drewN ?_ _ | refine blk_drew ?_ | refine blk_alloc ?_ _)); exact BK112.out) hb); have n1_ := Aside0.mk (below_step (by repeat (first | (with_reducible first | exact HB.out | apply below_alloc | apply pw_below_drewN | apply below_drew1 | refine below_set ?_ GE112.out) | exact HB.out)) hb); have n2_ := Aside0.mk (hbox); have n3_ := Aside0.mk ((by rw [hg]; exact (below_size (by repeat (first | (with_reducible first | exact HB.out | apply below_alloc | apply pw_below_drewN | apply below_drew1 | refine below_set ?_ GE112.out) | exact HB.out))) : w.heap.size ≤ gb114)); have n4_ := Aside0.mk ((by rw [hg]; exact (below_size (by repeat (first | (with_reducible first | exact HB.out | apply below_alloc | apply pw_below_drewN | apply below_drew1 | refine below_set ?_ GE112.out) | exact HB.out))) : w.heap.size ≤ gb114)); have n5_ := Aside0.mk ((by rw [hg]; exact Nat.ne_of_lt (blk_lt (g := gb112) (o := .cells #[.int .i64 x113000_1, .int .i64 x113001_1, .int .i64 x113002_1, .int .i64 x113003_1] 104 (0, 0)) (by (with_reducible repeat (first | refine blk_drewN ?_ _ | refine blk_drew ?_ | refine blk_alloc ?_ _)); exact BK112.out)) : gb112 ≠ gb114)); have n6_ := Aside0.mk ((by rw [hg]; exact Nat.ne_of_gt (blk_lt (g := gb112) (o := .cells #[.int .i64 x113000_1, .int .i64 x113001_1, .int .i64 x113002_1, .int .i64 x113003_1] 104 (0, 0)) (by (with_reducible repeat (first | refine blk_drewN ?_ _ | refine blk_drew ?_ | refine blk_alloc ?_ _)); exact BK112.out)) : gb114 ≠ gb112)); clear BK112; clear HB; have BK112 := n0_; have HB := n1_; have BK114 := n2_; have GW114 := n3_; have GE114 := n4_; have NB112_114 := n5_; have NB114_112 := n6_; clear n0_ n1_ n2_ n3_ n4_ n5_ n6_; clear hb hbox hg; have hnb32 := NB114_112.out; have hnc32 := NB112_114.out; have hcz33_0 : w31.cell? ⟨gb114, 0, none⟩ = some (.string (⟨#[]⟩ : ByteArray)) := (blk_cell BK114.out 0).trans rfl; have hcz33_1 : w31.cell? ⟨gb114, 1, none⟩ = some (.string (⟨#[]⟩ : ByteArray)) := (blk_cell BK114.out 1).trans rfl; have hfz33_0 := blk_frozen BK114.out 0; have hfz33_1 := blk_frozen BK114.out 1))
              (try simp only [Act.put, List.setIfInBounds_toArray, List.set_cons_zero, List.set_cons_succ])
              go_cut [55] (fun v55 wc => ∃ (kq : Nat) (x55_29 : Bool), v55 = .bool x55_29 ∧ Aside0 (pattern_full.j2 kq l0 x9_1 l0 (l0.length : Int) x9_1 ((rd_T151 l0 x9_1).f0) x55_29 x113000_1 x113001_1 x113002_1 x113003_1 = some r) ∧ Aside0 (kq ≤ k1) ∧ Aside0 (wc.heap[gb112]? = some (.cells #[.int .i64 x113000_1, .int .i64 x113001_1, .int .i64 x113002_1, .int .i64 x113003_1] 104 (0, 0))) ∧ Aside0 (wc.heap[gb114]? = some (.cells #[.string ((rd_T151 l0 x9_1).f0), .string ((rd_T151 l0 x9_1).f1)] 151 (0, 0))) ∧ Aside0 (Below w.heap.size w wc))
              case first =>
                have H := HC30.out
                clear HC30
                by_cases c34 : ((rd_T151 l0 x9_1).f0).toList = ([121] : List UInt8)
                · rw [if_pos c34] at H
                  have c34b0 : (((rd_T151 l0 x9_1).f0).toList == ([121] : List UInt8)) = true := beq_iff_eq.mpr c34
                  have c34b1 : (((rd_T151 l0 x9_1).f0).toList != ([121] : List UInt8)) = false := bne_eq_false_iff_eq.mpr c34
                  clear c34
                  (first | rw [c34b0] | (simp only [i64_w, i32_w]; rw [c34b0]) | skip)
                  have H' := Aside0.mk H
                  clear H
                  go_wp2
                  go_meet
                  case rel => exact ⟨_, ((((rd_T151 l0 x9_1).f0).toList == ([121] : List UInt8))), (by first | rfl | (simp; done) | (simp [*]; done)), H', ⟨by have := HK1.out; first | omega | exact Nat.le_refl _⟩, ⟨by (with_reducible repeat (first | refine blk_drewN ?_ _ | refine blk_drew ?_ | refine blk_alloc ?_ _)); refine blk_far ?_ NB112_114.out _; (with_reducible repeat (first | refine blk_drewN ?_ _ | refine blk_drew ?_ | refine blk_alloc ?_ _)); refine blk_far ?_ NB112_114.out _; (with_reducible repeat (first | refine blk_drewN ?_ _ | refine blk_drew ?_ | refine blk_alloc ?_ _)); exact BK112.out⟩, ⟨by (with_reducible repeat (first | refine blk_drewN ?_ _ | refine blk_drew ?_ | refine blk_alloc ?_ _)); refine blk_put (cs := #[.string ((rd_T151 l0 x9_1).f0), .string (⟨#[]⟩ : ByteArray)]) ?_ 1 _ rfl; (with_reducible repeat (first | refine blk_drewN ?_ _ | refine blk_drew ?_ | refine blk_alloc ?_ _)); refine blk_put (cs := #[.string (⟨#[]⟩ : ByteArray), .string (⟨#[]⟩ : ByteArray)]) ?_ 0 _ rfl; (with_reducible repeat (first | refine blk_drewN ?_ _ | refine blk_drew ?_ | refine blk_alloc ?_ _)); exact BK114.out⟩, ⟨by repeat (first | (with_reducible first | exact HB.out | apply below_alloc | apply pw_below_drewN | apply below_drew1 | refine below_set ?_ GE112.out | refine below_set ?_ GE114.out) | exact HB.out)⟩⟩
                · rw [if_neg c34] at H
                  have c34b0 : (((rd_T151 l0 x9_1).f0).toList == ([121] : List UInt8)) = false := beq_eq_false_iff_ne.mpr c34
                  have c34b1 : (((rd_T151 l0 x9_1).f0).toList != ([121] : List UInt8)) = true := bne_iff_ne.mpr c34
                  (first | rw [c34b0] | (simp only [i64_w, i32_w]; rw [c34b0]) | skip)
                  have H' := Aside0.mk H
                  clear H
                  go_wp2
                  go_meet
                  case rel => exact ⟨_, ((((rd_T151 l0 x9_1).f0).toList == ([121, 52] : List UInt8))), (by first | rfl | (simp; done) | (simp [*]; done)), H', ⟨by have := HK1.out; first | omega | exact Nat.le_refl _⟩, ⟨by (with_reducible repeat (first | refine blk_drewN ?_ _ | refine blk_drew ?_ | refine blk_alloc ?_ _)); refine blk_far ?_ NB112_114.out _; (with_reducible repeat (first | refine blk_drewN ?_ _ | refine blk_drew ?_ | refine blk_alloc ?_ _)); refine blk_far ?_ NB112_114.out _; (with_reducible repeat (first | refine blk_drewN ?_ _ | refine blk_drew ?_ | refine blk_alloc ?_ _)); exact BK112.out⟩, ⟨by (with_reducible repeat (first | refine blk_drewN ?_ _ | refine blk_drew ?_ | refine blk_alloc ?_ _)); refine blk_put (cs := #[.string ((rd_T151 l0 x9_1).f0), .string (⟨#[]⟩ : ByteArray)]) ?_ 1 _ rfl; (with_reducible repeat (first | refine blk_drewN ?_ _ | refine blk_drew ?_ | refine blk_alloc ?_ _)); refine blk_put (cs := #[.string (⟨#[]⟩ : ByteArray), .string (⟨#[]⟩ : ByteArray)]) ?_ 0 _ rfl; (with_reducible repeat (first | refine blk_drewN ?_ _ | refine blk_drew ?_ | refine blk_alloc ?_ _)); exact BK114.out⟩, ⟨by repeat (first | (with_reducible first | exact HB.out | apply below_alloc | apply pw_below_drewN | apply below_drew1 | refine below_set ?_ GE112.out | refine below_set ?_ GE114.out) | exact HB.out)⟩⟩
              case rest =>
                clear HC30
                try clear c1
                try clear p1
                try clear q1
                try clear hx1
                try clear c2
                try clear p2
                try clear c3
                try clear c3b0
                try clear c4
                try clear c4b0
                try clear c5
                try clear c5b0
                try clear c6
                try clear c6b0
                try clear c6b1
                try clear p6
                try clear c7
                try clear c7b0
                try clear c7b1
                try clear p8
                try clear q8
                try clear hx8
                try clear qi8
                try clear c11
                try clear p11
                try clear q11
                try clear hx11
                try clear c13
                try clear c13b0
                try clear c14
                try clear c14b0
                try clear c14b1
                try clear c15
                try clear c15b0
                try clear c16
                try clear c16b0
                try clear c17
                try clear c17b0
                try clear c18
                try clear c18b0
                try clear c19
                try clear c19b0
                try clear c20
                try clear c20b0
                try clear c21
                try clear c21b0
                try clear c22
                try clear c22b0
                try clear c23
                try clear c23b0
                try clear c24
                try clear c24b0
                try clear c25
                try clear c25b0
                try clear c26
                try clear c26b0
                try clear c27
                try clear c27b0
                try clear c28
                try clear c28b0
                try clear c29
                try clear c32
                try clear c34
                try clear c34b0
                try clear c34b1
                try clear hcz12_0
                try clear hcz12_1
                try clear hcz33_0
                try clear hcz33_1
                try clear hfz12_0
                try clear hfz12_1
                try clear hfz33_0
                try clear hfz33_1
                try clear hx113_0
                try clear hx113_1
                try clear p1
                try clear p11
                try clear p113
                try clear p2
                try clear p8
                try clear q1
                try clear q11
                try clear q113
                try clear q8
                obtain ⟨kq, x55_29, rfl, HA, HJ29, BK112, BK114, HB⟩ := hcut
                cases kq with
                | zero => exact absurd HA.out (by simp [pattern_full.j2])
                | succ kj29 =>
                  have H := HA.out
                  clear HA
                  simp only [pattern_full.j2] at H
                  by_cases c35 : x55_29 = true
                  · subst c35
                    have H1 : (if x9_1 > 0 then (if 0 ≤ (wrap64 (x9_1 - 1)) then (if (wrap64 (x9_1 - 1)) < (l0.length : Int) then (if ((rd_T151 l0 (wrap64 (x9_1 - 1))).f0).toList = ([] : List UInt8) then (pattern_full.l0 kj29 l0 l0 (l0.length : Int) (wrap64 (x9_1 + 1)) (wrap64 (x113000_1 + 1)) x113001_1 x113002_1 x113003_1) else (some false)) else (none)) else (none)) else (pattern_full.l0 kj29 l0 l0 (l0.length : Int) (wrap64 (x9_1 + 1)) (wrap64 (x113000_1 + 1)) x113001_1 x113002_1 x113003_1)) = some r := by rw [if_pos rfl] at H; exact H
                    clear H
                    have H := H1
                    clear H1
                    by_cases c36 : x9_1 > 0
                    · rw [if_pos c36] at H
                      have c36b0 : decide (0 < x9_1) = true := decide_eq_true c36
                      clear c36
                      obtain ⟨ji37, hji37⟩ : ∃ j_ : Int, (wrap64 (x9_1 - 1)) = j_ := ⟨_, rfl⟩
                      replace H : (if 0 ≤ (ji37) then (if (ji37) < (l0.length : Int) then (if ((rd_T151 l0 (ji37)).f0).toList = ([] : List UInt8) then (pattern_full.l0 kj29 l0 l0 (l0.length : Int) (wrap64 (x9_1 + 1)) (wrap64 (x113000_1 + 1)) x113001_1 x113002_1 x113003_1) else (some false)) else (none)) else (none)) = some r := by first | (rw [hji37] at H; exact H) | (simp only [hji37] at H ⊢; exact H)
                      have hji37w : (IntKind.i64.wrap (x9_1 - 1)) = ji37 := (i64_w _).trans hji37
                      by_cases c38 : 0 ≤ (ji37)
                      · rw [if_pos c38] at H
                        have c38b0 : decide (0 ≤ (ji37)) = true := decide_eq_true c38
                        clear c38
                        by_cases c39 : (ji37) < (l0.length : Int)
                        · rw [if_pos c39] at H
                          have c39b0 : decide ((ji37) < (l0.length : Int)) = true := decide_eq_true c39
                          clear c39
                          by_cases c40 : ((rd_T151 l0 (ji37)).f0).toList = ([] : List UInt8)
                          · rw [if_pos c40] at H
                            have c40b0 : (((rd_T151 l0 (ji37)).f0).toList == ([] : List UInt8)) = true := beq_iff_eq.mpr c40
                            have c40b1 : (((rd_T151 l0 (ji37)).f0).toList != ([] : List UInt8)) = false := bne_eq_false_iff_eq.mpr c40
                            clear c40
                            have H' := Aside0.mk H
                            clear H
                            have hnb41 := NB112_114.out
                            have hnc41 := NB114_112.out
                            have hcz42_0 : wc.cell? ⟨gb112, 0, none⟩ = some (.int .i64 x113000_1) := (blk_cell BK112.out 0).trans rfl
                            have hcz42_1 : wc.cell? ⟨gb112, 1, none⟩ = some (.int .i64 x113001_1) := (blk_cell BK112.out 1).trans rfl
                            have hcz42_2 : wc.cell? ⟨gb112, 2, none⟩ = some (.int .i64 x113002_1) := (blk_cell BK112.out 2).trans rfl
                            have hcz42_3 : wc.cell? ⟨gb112, 3, none⟩ = some (.int .i64 x113003_1) := (blk_cell BK112.out 3).trans rfl
                            have hfz42_0 := blk_frozen BK112.out 0
                            have hfz42_1 := blk_frozen BK112.out 1
                            have hfz42_2 := blk_frozen BK112.out 2
                            have hfz42_3 := blk_frozen BK112.out 3
                            have p115 : 0 ≤ ((ji37) : Int) := of_decide_eq_true (by first | (with_reducible assumption) | assumption)
                            have q115 : (ji37) < (l0.length : Int) := of_decide_eq_true (by first | (with_reducible assumption) | assumption)
                            obtain ⟨ad115, e115, hx115_0, hx115_1⟩ := at_T151 HR0.out (ji37) p115 q115
                            obtain rfl : ad113 = ad115 := (by injection e115)
                            have hn115_0 : ad113.block ≠ gb112 := Nat.ne_of_lt (Nat.lt_of_lt_of_le (by have := World.block_lt_of_cell? _ _ hx115_0; first | rwa [add_block] at this | exact this) GW112.out)
                            replace hx115_0 := (HB.out.cell (World.block_lt_of_cell? w _ hx115_0)).trans hx115_0
                            replace hx115_1 := (HB.out.cell (World.block_lt_of_cell? w _ hx115_1)).trans hx115_1
                            replace hx115_0 := (cell_far (p := ⟨gb112, 0, none⟩) (by first | (rw [add_block]; exact hn115_0) | (show (Addr.add _ _).block ≠ _; rw [add_block]; exact hn115_0) | exact hn115_0) (.int .i64 (wrap64 (x113000_1 + 1)))).trans hx115_0
                            replace hx115_1 := (cell_far (p := ⟨gb112, 0, none⟩) (by first | (rw [add_block]; exact hn115_0) | (show (Addr.add _ _).block ≠ _; rw [add_block]; exact hn115_0) | exact hn115_0) (.int .i64 (wrap64 (x113000_1 + 1)))).trans hx115_1
                            clear hn115_0
                            replace p115 := eq_true p115
                            replace q115 := eq_true q115
                            go_wp2
                            go_roundg kj29
                            case measure => have := HK1.out; have := HJ29.out; omega
                            case rel => exact ⟨(wrap64 (x9_1 + 1)), (wrap64 (x113000_1 + 1)), (x113001_1), (x113002_1), (x113003_1), (by first | rfl | (simp; done) | (simp [*]; done)), H', ⟨by have := HK1.out; have := HJ29.out; omega⟩, ⟨by (with_reducible repeat (first | refine blk_drewN ?_ _ | refine blk_drew ?_ | refine blk_alloc ?_ _)); refine blk_put (cs := #[.int .i64 x113000_1, .int .i64 x113001_1, .int .i64 x113002_1, .int .i64 x113003_1]) ?_ 0 _ rfl; (with_reducible repeat (first | refine blk_drewN ?_ _ | refine blk_drew ?_ | refine blk_alloc ?_ _)); exact BK112.out⟩, ⟨by repeat (first | (with_reducible first | exact HB.out | apply below_alloc | apply pw_below_drewN | apply below_drew1 | refine below_set ?_ GE112.out | refine below_set ?_ GE114.out) | exact HB.out)⟩⟩
                          · rw [if_neg c40] at H
                            have c40b0 : (((rd_T151 l0 (ji37)).f0).toList == ([] : List UInt8)) = false := beq_eq_false_iff_ne.mpr c40
                            have c40b1 : (((rd_T151 l0 (ji37)).f0).toList != ([] : List UInt8)) = true := bne_iff_ne.mpr c40
                            obtain rfl := Option.some.inj H
                            have hnb43 := NB112_114.out
                            have hnc43 := NB114_112.out
                            have hcz44_0 : wc.cell? ⟨gb112, 0, none⟩ = some (.int .i64 x113000_1) := (blk_cell BK112.out 0).trans rfl
                            have hcz44_1 : wc.cell? ⟨gb112, 1, none⟩ = some (.int .i64 x113001_1) := (blk_cell BK112.out 1).trans rfl
                            have hcz44_2 : wc.cell? ⟨gb112, 2, none⟩ = some (.int .i64 x113002_1) := (blk_cell BK112.out 2).trans rfl
                            have hcz44_3 : wc.cell? ⟨gb112, 3, none⟩ = some (.int .i64 x113003_1) := (blk_cell BK112.out 3).trans rfl
                            have hfz44_0 := blk_frozen BK112.out 0
                            have hfz44_1 := blk_frozen BK112.out 1
                            have hfz44_2 := blk_frozen BK112.out 2
                            have hfz44_3 := blk_frozen BK112.out 3
                            have p115 : 0 ≤ ((ji37) : Int) := of_decide_eq_true (by first | (with_reducible assumption) | assumption)
                            have q115 : (ji37) < (l0.length : Int) := of_decide_eq_true (by first | (with_reducible assumption) | assumption)
                            obtain ⟨ad115, e115, hx115_0, hx115_1⟩ := at_T151 HR0.out (ji37) p115 q115
                            obtain rfl : ad113 = ad115 := (by injection e115)
                            have hn115_0 : ad113.block ≠ gb112 := Nat.ne_of_lt (Nat.lt_of_lt_of_le (by have := World.block_lt_of_cell? _ _ hx115_0; first | rwa [add_block] at this | exact this) GW112.out)
                            replace hx115_0 := (HB.out.cell (World.block_lt_of_cell? w _ hx115_0)).trans hx115_0
                            replace hx115_1 := (HB.out.cell (World.block_lt_of_cell? w _ hx115_1)).trans hx115_1
                            replace hx115_0 := (cell_far (p := ⟨gb112, 0, none⟩) (by first | (rw [add_block]; exact hn115_0) | (show (Addr.add _ _).block ≠ _; rw [add_block]; exact hn115_0) | exact hn115_0) (.int .i64 (wrap64 (x113000_1 + 1)))).trans hx115_0
                            replace hx115_1 := (cell_far (p := ⟨gb112, 0, none⟩) (by first | (rw [add_block]; exact hn115_0) | (show (Addr.add _ _).block ≠ _; rw [add_block]; exact hn115_0) | exact hn115_0) (.int .i64 (wrap64 (x113000_1 + 1)))).trans hx115_1
                            clear hn115_0
                            replace p115 := eq_true p115
                            replace q115 := eq_true q115
                            go_wp2
                            go_ret
                            exact ⟨by first | rfl | (simp [errW_none, errW_some] <;> rfl) | (simp only [← hji37]; first | rfl | (simp [errW_none, errW_some] <;> rfl)) | (simp [*, errW_none, errW_some] <;> rfl), by repeat (first | (with_reducible first | exact HB.out | apply below_alloc | apply pw_below_drewN | apply below_drew1 | refine below_set ?_ GE112.out | refine below_set ?_ GE114.out) | exact HB.out)⟩
                        · rw [if_neg c39] at H
                          exact absurd H (by simp)
                      · rw [if_neg c38] at H
                        exact absurd H (by simp)
                    · rw [if_neg c36] at H
                      have c36b0 : decide (0 < x9_1) = false := decide_eq_false c36
                      clear c36
                      have H' := Aside0.mk H
                      clear H
                      have hnb45 := NB112_114.out
                      have hnc45 := NB114_112.out
                      have hcz46_0 : wc.cell? ⟨gb112, 0, none⟩ = some (.int .i64 x113000_1) := (blk_cell BK112.out 0).trans rfl
                      have hcz46_1 : wc.cell? ⟨gb112, 1, none⟩ = some (.int .i64 x113001_1) := (blk_cell BK112.out 1).trans rfl
                      have hcz46_2 : wc.cell? ⟨gb112, 2, none⟩ = some (.int .i64 x113002_1) := (blk_cell BK112.out 2).trans rfl
                      have hcz46_3 : wc.cell? ⟨gb112, 3, none⟩ = some (.int .i64 x113003_1) := (blk_cell BK112.out 3).trans rfl
                      have hfz46_0 := blk_frozen BK112.out 0
                      have hfz46_1 := blk_frozen BK112.out 1
                      have hfz46_2 := blk_frozen BK112.out 2
                      have hfz46_3 := blk_frozen BK112.out 3
                      go_wp2
                      go_roundg kj29
                      case measure => have := HK1.out; have := HJ29.out; omega
                      case rel => exact ⟨(wrap64 (x9_1 + 1)), (wrap64 (x113000_1 + 1)), (x113001_1), (x113002_1), (x113003_1), (by first | rfl | (simp; done) | (simp [*]; done)), H', ⟨by have := HK1.out; have := HJ29.out; omega⟩, ⟨by (with_reducible repeat (first | refine blk_drewN ?_ _ | refine blk_drew ?_ | refine blk_alloc ?_ _)); refine blk_put (cs := #[.int .i64 x113000_1, .int .i64 x113001_1, .int .i64 x113002_1, .int .i64 x113003_1]) ?_ 0 _ rfl; (with_reducible repeat (first | refine blk_drewN ?_ _ | refine blk_drew ?_ | refine blk_alloc ?_ _)); exact BK112.out⟩, ⟨by repeat (first | (with_reducible first | exact HB.out | apply below_alloc | apply pw_below_drewN | apply below_drew1 | refine below_set ?_ GE112.out | refine below_set ?_ GE114.out) | exact HB.out)⟩⟩
                  · replace c35 := Bool.eq_false_iff.mpr c35
                    subst c35
                    have H1 : (if ((rd_T151 l0 x9_1).f0).toList = ([109] : List UInt8) then (pattern_full.j3 kj29 l0 x9_1 l0 (l0.length : Int) x9_1 ((rd_T151 l0 x9_1).f0) (((rd_T151 l0 x9_1).f0).toList == ([109] : List UInt8)) x113000_1 x113001_1 x113002_1 x113003_1) else (if ((rd_T151 l0 x9_1).f0).toList = ([109, 50] : List UInt8) then (pattern_full.j3 kj29 l0 x9_1 l0 (l0.length : Int) x9_1 ((rd_T151 l0 x9_1).f0) (((rd_T151 l0 x9_1).f0).toList == ([109, 50] : List UInt8)) x113000_1 x113001_1 x113002_1 x113003_1) else (pattern_full.j3 kj29 l0 x9_1 l0 (l0.length : Int) x9_1 ((rd_T151 l0 x9_1).f0) (((rd_T151 l0 x9_1).f0).toList == ([110, 97, 109, 101] : List UInt8)) x113000_1 x113001_1 x113002_1 x113003_1))) = some r := by rw [if_neg (show ¬ (false = true) by decide)] at H; exact H
                    clear H
                    have H := H1
                    clear H1
                    have HC47 := Aside0.mk H
                    clear H
                    go_upto_if 62 with (fail)
                    go_cut [62] (fun v62 wc => ∃ (kq : Nat) (x62_46 : Bool), v62 = .bool x62_46 ∧ Aside0 (pattern_full.j3 kq l0 x9_1 l0 (l0.length : Int) x9_1 ((rd_T151 l0 x9_1).f0) x62_46 x113000_1 x113001_1 x113002_1 x113003_1 = some r) ∧ Aside0 (kq ≤ kj29) ∧ Aside0 (wc.heap[gb112]? = some (.cells #[.int .i64 x113000_1, .int .i64 x113001_1, .int .i64 x113002_1, .int .i64 x113003_1] 104 (0, 0))) ∧ Aside0 (wc.heap[gb114]? = some (.cells #[.string ((rd_T151 l0 x9_1).f0), .string ((rd_T151 l0 x9_1).f1)] 151 (0, 0))) ∧ Aside0 (Below w.heap.size w wc))
                    case first =>
                      have H := HC47.out
                      clear HC47
                      by_cases c48 : ((rd_T151 l0 x9_1).f0).toList = ([109] : List UInt8)
                      · rw [if_pos c48] at H
                        have c48b0 : (((rd_T151 l0 x9_1).f0).toList == ([109] : List UInt8)) = true := beq_iff_eq.mpr c48
                        have c48b1 : (((rd_T151 l0 x9_1).f0).toList != ([109] : List UInt8)) = false := bne_eq_false_iff_eq.mpr c48
                        clear c48
                        (first | rw [c48b0] | (simp only [i64_w, i32_w]; rw [c48b0]) | skip)
                        have H' := Aside0.mk H
                        clear H
                        go_wp2
                        go_meet
                        case rel => exact ⟨_, ((((rd_T151 l0 x9_1).f0).toList == ([109] : List UInt8))), (by first | rfl | (simp; done) | (simp [*]; done)), H', ⟨by have := HK1.out; have := HJ29.out; first | omega | exact Nat.le_refl _⟩, ⟨by (with_reducible repeat (first | refine blk_drewN ?_ _ | refine blk_drew ?_ | refine blk_alloc ?_ _)); exact BK112.out⟩, ⟨by (with_reducible repeat (first | refine blk_drewN ?_ _ | refine blk_drew ?_ | refine blk_alloc ?_ _)); exact BK114.out⟩, ⟨by repeat (first | (with_reducible first | exact HB.out | apply below_alloc | apply pw_below_drewN | apply below_drew1 | refine below_set ?_ GE112.out | refine below_set ?_ GE114.out) | exact HB.out)⟩⟩
                      · rw [if_neg c48] at H
                        have c48b0 : (((rd_T151 l0 x9_1).f0).toList == ([109] : List UInt8)) = false := beq_eq_false_iff_ne.mpr c48
                        have c48b1 : (((rd_T151 l0 x9_1).f0).toList != ([109] : List UInt8)) = true := bne_iff_ne.mpr c48
                        (first | rw [c48b0] | (simp only [i64_w, i32_w]; rw [c48b0]) | skip)
                        by_cases c49 : ((rd_T151 l0 x9_1).f0).toList = ([109, 50] : List UInt8)
                        · rw [if_pos c49] at H
                          have c49b0 : (((rd_T151 l0 x9_1).f0).toList == ([109, 50] : List UInt8)) = true := beq_iff_eq.mpr c49
                          have c49b1 : (((rd_T151 l0 x9_1).f0).toList != ([109, 50] : List UInt8)) = false := bne_eq_false_iff_eq.mpr c49
                          clear c49
                          have H' := Aside0.mk H
                          clear H
                          go_wp2
                          go_meet
                          case rel => exact ⟨_, ((((rd_T151 l0 x9_1).f0).toList == ([109, 50] : List UInt8))), (by first | rfl | (simp; done) | (simp [*]; done)), H', ⟨by have := HK1.out; have := HJ29.out; first | omega | exact Nat.le_refl _⟩, ⟨by (with_reducible repeat (first | refine blk_drewN ?_ _ | refine blk_drew ?_ | refine blk_alloc ?_ _)); exact BK112.out⟩, ⟨by (with_reducible repeat (first | refine blk_drewN ?_ _ | refine blk_drew ?_ | refine blk_alloc ?_ _)); exact BK114.out⟩, ⟨by repeat (first | (with_reducible first | exact HB.out | apply below_alloc | apply pw_below_drewN | apply below_drew1 | refine below_set ?_ GE112.out | refine below_set ?_ GE114.out) | exact HB.out)⟩⟩
                        · rw [if_neg c49] at H
                          have c49b0 : (((rd_T151 l0 x9_1).f0).toList == ([109, 50] : List UInt8)) = false := beq_eq_false_iff_ne.mpr c49
                          have c49b1 : (((rd_T151 l0 x9_1).f0).toList != ([109, 50] : List UInt8)) = true := bne_iff_ne.mpr c49
                          have H' := Aside0.mk H
                          clear H
                          go_wp2
                          go_meet
                          case rel => exact ⟨_, ((((rd_T151 l0 x9_1).f0).toList == ([110, 97, 109, 101] : List UInt8))), (by first | rfl | (simp; done) | (simp [*]; done)), H', ⟨by have := HK1.out; have := HJ29.out; first | omega | exact Nat.le_refl _⟩, ⟨by (with_reducible repeat (first | refine blk_drewN ?_ _ | refine blk_drew ?_ | refine blk_alloc ?_ _)); exact BK112.out⟩, ⟨by (with_reducible repeat (first | refine blk_drewN ?_ _ | refine blk_drew ?_ | refine blk_alloc ?_ _)); exact BK114.out⟩, ⟨by repeat (first | (with_reducible first | exact HB.out | apply below_alloc | apply pw_below_drewN | apply below_drew1 | refine below_set ?_ GE112.out | refine below_set ?_ GE114.out) | exact HB.out)⟩⟩
                    case rest =>
                      clear HC47
                      try clear c1
                      try clear p1
                      try clear q1
                      try clear hx1
                      try clear c2
                      try clear p2
                      try clear c3
                      try clear c3b0
                      try clear c4
                      try clear c4b0
                      try clear c5
                      try clear c5b0
                      try clear c6
                      try clear c6b0
                      try clear c6b1
                      try clear p6
                      try clear c7
                      try clear c7b0
                      try clear c7b1
                      try clear p8
                      try clear q8
                      try clear hx8
                      try clear qi8
                      try clear c11
                      try clear p11
                      try clear q11
                      try clear hx11
                      try clear c13
                      try clear c13b0
                      try clear c14
                      try clear c14b0
                      try clear c14b1
                      try clear c15
                      try clear c15b0
                      try clear c16
                      try clear c16b0
                      try clear c17
                      try clear c17b0
                      try clear c18
                      try clear c18b0
                      try clear c19
                      try clear c19b0
                      try clear c20
                      try clear c20b0
                      try clear c21
                      try clear c21b0
                      try clear c22
                      try clear c22b0
                      try clear c23
                      try clear c23b0
                      try clear c24
                      try clear c24b0
                      try clear c25
                      try clear c25b0
                      try clear c26
                      try clear c26b0
                      try clear c27
                      try clear c27b0
                      try clear c28
                      try clear c28b0
                      try clear c29
                      try clear c32
                      try clear c34
                      try clear c34b0
                      try clear c34b1
                      try clear c35
                      try clear c36
                      try clear c36b0
                      try clear c38
                      try clear c38b0
                      try clear c39
                      try clear c39b0
                      try clear c40
                      try clear c40b0
                      try clear c40b1
                      try clear c41
                      try clear c43
                      try clear c45
                      try clear c48
                      try clear c48b0
                      try clear c48b1
                      try clear c49
                      try clear c49b0
                      try clear c49b1
                      try clear hcz12_0
                      try clear hcz12_1
                      try clear hcz33_0
                      try clear hcz33_1
                      try clear hcz42_0
                      try clear hcz42_1
                      try clear hcz42_2
                      try clear hcz42_3
                      try clear hcz44_0
                      try clear hcz44_1
                      try clear hcz44_2
                      try clear hcz44_3
                      try clear hcz46_0
                      try clear hcz46_1
                      try clear hcz46_2
                      try clear hcz46_3
                      try clear hfz12_0
                      try clear hfz12_1
                      try clear hfz33_0
                      try clear hfz33_1
                      try clear hfz42_0
                      try clear hfz42_1
                      try clear hfz42_2
                      try clear hfz42_3
                      try clear hfz44_0
                      try clear hfz44_1
                      try clear hfz44_2
                      try clear hfz44_3
                      try clear hfz46_0
                      try clear hfz46_1
                      try clear hfz46_2
                      try clear hfz46_3
                      try clear hx113_0
                      try clear hx113_1
                      try clear hx115_0
                      try clear hx115_1
                      try clear p1
                      try clear p11
                      try clear p113
                      try clear p115
                      try clear p2
                      try clear p6
                      try clear p8
                      try clear q1
                      try clear q11
                      try clear q113
                      try clear q115
                      try clear q8
                      obtain ⟨kq, x62_46, rfl, HA, HJ46, BK112, BK114, HB⟩ := hcut
                      cases kq with
                      | zero => exact absurd HA.out (by simp [pattern_full.j3])
                      | succ kj46 =>
                        have H := HA.out
                        clear HA
                        simp only [pattern_full.j3] at H
                        by_cases c50 : x62_46 = true
                        · subst c50
                          have H1 : (if x9_1 > 0 then (if 0 ≤ (wrap64 (x9_1 - 1)) then (if (wrap64 (x9_1 - 1)) < (l0.length : Int) then (if ((rd_T151 l0 (wrap64 (x9_1 - 1))).f0).toList = ([] : List UInt8) then (pattern_full.l0 kj46 l0 l0 (l0.length : Int) (wrap64 (x9_1 + 1)) x113000_1 (wrap64 (x113001_1 + 1)) x113002_1 x113003_1) else (some false)) else (none)) else (none)) else (pattern_full.l0 kj46 l0 l0 (l0.length : Int) (wrap64 (x9_1 + 1)) x113000_1 (wrap64 (x113001_1 + 1)) x113002_1 x113003_1)) = some r := by rw [if_pos rfl] at H; exact H
                          clear H
                          have H := H1
                          clear H1
                          by_cases c51 : x9_1 > 0
                          · rw [if_pos c51] at H
                            have c51b0 : decide (0 < x9_1) = true := decide_eq_true c51
                            clear c51
                            obtain ⟨ji52, hji52⟩ : ∃ j_ : Int, (wrap64 (x9_1 - 1)) = j_ := ⟨_, rfl⟩
                            replace H : (if 0 ≤ (ji52) then (if (ji52) < (l0.length : Int) then (if ((rd_T151 l0 (ji52)).f0).toList = ([] : List UInt8) then (pattern_full.l0 kj46 l0 l0 (l0.length : Int) (wrap64 (x9_1 + 1)) x113000_1 (wrap64 (x113001_1 + 1)) x113002_1 x113003_1) else (some false)) else (none)) else (none)) = some r := by first | (rw [hji52] at H; exact H) | (simp only [hji52] at H ⊢; exact H)
                            have hji52w : (IntKind.i64.wrap (x9_1 - 1)) = ji52 := (i64_w _).trans hji52
                            by_cases c53 : 0 ≤ (ji52)
                            · rw [if_pos c53] at H
                              have c53b0 : decide (0 ≤ (ji52)) = true := decide_eq_true c53
                              clear c53
                              by_cases c54 : (ji52) < (l0.length : Int)
                              · rw [if_pos c54] at H
                                have c54b0 : decide ((ji52) < (l0.length : Int)) = true := decide_eq_true c54
                                clear c54
                                by_cases c55 : ((rd_T151 l0 (ji52)).f0).toList = ([] : List UInt8)
                                · rw [if_pos c55] at H
                                  have c55b0 : (((rd_T151 l0 (ji52)).f0).toList == ([] : List UInt8)) = true := beq_iff_eq.mpr c55
                                  have c55b1 : (((rd_T151 l0 (ji52)).f0).toList != ([] : List UInt8)) = false := bne_eq_false_iff_eq.mpr c55
                                  clear c55
                                  have H' := Aside0.mk H
                                  clear H
                                  have hnb56 := NB112_114.out
                                  have hnc56 := NB114_112.out
                                  have hcz57_0 : wc.cell? ⟨gb112, 0, none⟩ = some (.int .i64 x113000_1) := (blk_cell BK112.out 0).trans rfl
                                  have hcz57_1 : wc.cell? ⟨gb112, 1, none⟩ = some (.int .i64 x113001_1) := (blk_cell BK112.out 1).trans rfl
                                  have hcz57_2 : wc.cell? ⟨gb112, 2, none⟩ = some (.int .i64 x113002_1) := (blk_cell BK112.out 2).trans rfl
                                  have hcz57_3 : wc.cell? ⟨gb112, 3, none⟩ = some (.int .i64 x113003_1) := (blk_cell BK112.out 3).trans rfl
                                  have hfz57_0 := blk_frozen BK112.out 0
                                  have hfz57_1 := blk_frozen BK112.out 1
                                  have hfz57_2 := blk_frozen BK112.out 2
                                  have hfz57_3 := blk_frozen BK112.out 3
                                  have p116 : 0 ≤ ((ji52) : Int) := of_decide_eq_true (by first | (with_reducible assumption) | assumption)
                                  have q116 : (ji52) < (l0.length : Int) := of_decide_eq_true (by first | (with_reducible assumption) | assumption)
                                  obtain ⟨ad116, e116, hx116_0, hx116_1⟩ := at_T151 HR0.out (ji52) p116 q116
                                  obtain rfl : ad113 = ad116 := (by injection e116)
                                  have hn116_0 : ad113.block ≠ gb112 := Nat.ne_of_lt (Nat.lt_of_lt_of_le (by have := World.block_lt_of_cell? _ _ hx116_0; first | rwa [add_block] at this | exact this) GW112.out)
                                  replace hx116_0 := (HB.out.cell (World.block_lt_of_cell? w _ hx116_0)).trans hx116_0
                                  replace hx116_1 := (HB.out.cell (World.block_lt_of_cell? w _ hx116_1)).trans hx116_1
                                  replace hx116_0 := (cell_far (p := ⟨gb112, 1, none⟩) (by first | (rw [add_block]; exact hn116_0) | (show (Addr.add _ _).block ≠ _; rw [add_block]; exact hn116_0) | exact hn116_0) (.int .i64 (wrap64 (x113001_1 + 1)))).trans hx116_0
                                  replace hx116_1 := (cell_far (p := ⟨gb112, 1, none⟩) (by first | (rw [add_block]; exact hn116_0) | (show (Addr.add _ _).block ≠ _; rw [add_block]; exact hn116_0) | exact hn116_0) (.int .i64 (wrap64 (x113001_1 + 1)))).trans hx116_1
                                  clear hn116_0
                                  replace p116 := eq_true p116
                                  replace q116 := eq_true q116
                                  go_wp2
                                  go_roundg kj46
                                  case measure => have := HK1.out; have := HJ29.out; have := HJ46.out; omega
                                  case rel => exact ⟨(wrap64 (x9_1 + 1)), (x113000_1), (wrap64 (x113001_1 + 1)), (x113002_1), (x113003_1), (by first | rfl | (simp; done) | (simp [*]; done)), H', ⟨by have := HK1.out; have := HJ29.out; have := HJ46.out; omega⟩, ⟨by (with_reducible repeat (first | refine blk_drewN ?_ _ | refine blk_drew ?_ | refine blk_alloc ?_ _)); refine blk_put (cs := #[.int .i64 x113000_1, .int .i64 x113001_1, .int .i64 x113002_1, .int .i64 x113003_1]) ?_ 1 _ rfl; (with_reducible repeat (first | refine blk_drewN ?_ _ | refine blk_drew ?_ | refine blk_alloc ?_ _)); exact BK112.out⟩, ⟨by repeat (first | (with_reducible first | exact HB.out | apply below_alloc | apply pw_below_drewN | apply below_drew1 | refine below_set ?_ GE112.out | refine below_set ?_ GE114.out) | exact HB.out)⟩⟩
                                · rw [if_neg c55] at H
                                  have c55b0 : (((rd_T151 l0 (ji52)).f0).toList == ([] : List UInt8)) = false := beq_eq_false_iff_ne.mpr c55
                                  have c55b1 : (((rd_T151 l0 (ji52)).f0).toList != ([] : List UInt8)) = true := bne_iff_ne.mpr c55
                                  obtain rfl := Option.some.inj H
                                  have hnb58 := NB112_114.out
                                  have hnc58 := NB114_112.out
                                  have hcz59_0 : wc.cell? ⟨gb112, 0, none⟩ = some (.int .i64 x113000_1) := (blk_cell BK112.out 0).trans rfl
                                  have hcz59_1 : wc.cell? ⟨gb112, 1, none⟩ = some (.int .i64 x113001_1) := (blk_cell BK112.out 1).trans rfl
                                  have hcz59_2 : wc.cell? ⟨gb112, 2, none⟩ = some (.int .i64 x113002_1) := (blk_cell BK112.out 2).trans rfl
                                  have hcz59_3 : wc.cell? ⟨gb112, 3, none⟩ = some (.int .i64 x113003_1) := (blk_cell BK112.out 3).trans rfl
                                  have hfz59_0 := blk_frozen BK112.out 0
                                  have hfz59_1 := blk_frozen BK112.out 1
                                  have hfz59_2 := blk_frozen BK112.out 2
                                  have hfz59_3 := blk_frozen BK112.out 3
                                  have p116 : 0 ≤ ((ji52) : Int) := of_decide_eq_true (by first | (with_reducible assumption) | assumption)
                                  have q116 : (ji52) < (l0.length : Int) := of_decide_eq_true (by first | (with_reducible assumption) | assumption)
                                  obtain ⟨ad116, e116, hx116_0, hx116_1⟩ := at_T151 HR0.out (ji52) p116 q116
                                  obtain rfl : ad113 = ad116 := (by injection e116)
                                  have hn116_0 : ad113.block ≠ gb112 := Nat.ne_of_lt (Nat.lt_of_lt_of_le (by have := World.block_lt_of_cell? _ _ hx116_0; first | rwa [add_block] at this | exact this) GW112.out)
                                  replace hx116_0 := (HB.out.cell (World.block_lt_of_cell? w _ hx116_0)).trans hx116_0
                                  replace hx116_1 := (HB.out.cell (World.block_lt_of_cell? w _ hx116_1)).trans hx116_1
                                  replace hx116_0 := (cell_far (p := ⟨gb112, 1, none⟩) (by first | (rw [add_block]; exact hn116_0) | (show (Addr.add _ _).block ≠ _; rw [add_block]; exact hn116_0) | exact hn116_0) (.int .i64 (wrap64 (x113001_1 + 1)))).trans hx116_0
                                  replace hx116_1 := (cell_far (p := ⟨gb112, 1, none⟩) (by first | (rw [add_block]; exact hn116_0) | (show (Addr.add _ _).block ≠ _; rw [add_block]; exact hn116_0) | exact hn116_0) (.int .i64 (wrap64 (x113001_1 + 1)))).trans hx116_1
                                  clear hn116_0
                                  replace p116 := eq_true p116
                                  replace q116 := eq_true q116
                                  go_wp2
                                  go_ret
                                  exact ⟨by first | rfl | (simp [errW_none, errW_some] <;> rfl) | (simp only [← hji52]; first | rfl | (simp [errW_none, errW_some] <;> rfl)) | (simp [*, errW_none, errW_some] <;> rfl), by repeat (first | (with_reducible first | exact HB.out | apply below_alloc | apply pw_below_drewN | apply below_drew1 | refine below_set ?_ GE112.out | refine below_set ?_ GE114.out) | exact HB.out)⟩
                              · rw [if_neg c54] at H
                                exact absurd H (by simp)
                            · rw [if_neg c53] at H
                              exact absurd H (by simp)
                          · rw [if_neg c51] at H
                            have c51b0 : decide (0 < x9_1) = false := decide_eq_false c51
                            clear c51
                            have H' := Aside0.mk H
                            clear H
                            have hnb60 := NB112_114.out
                            have hnc60 := NB114_112.out
                            have hcz61_0 : wc.cell? ⟨gb112, 0, none⟩ = some (.int .i64 x113000_1) := (blk_cell BK112.out 0).trans rfl
                            have hcz61_1 : wc.cell? ⟨gb112, 1, none⟩ = some (.int .i64 x113001_1) := (blk_cell BK112.out 1).trans rfl
                            have hcz61_2 : wc.cell? ⟨gb112, 2, none⟩ = some (.int .i64 x113002_1) := (blk_cell BK112.out 2).trans rfl
                            have hcz61_3 : wc.cell? ⟨gb112, 3, none⟩ = some (.int .i64 x113003_1) := (blk_cell BK112.out 3).trans rfl
                            have hfz61_0 := blk_frozen BK112.out 0
                            have hfz61_1 := blk_frozen BK112.out 1
                            have hfz61_2 := blk_frozen BK112.out 2
                            have hfz61_3 := blk_frozen BK112.out 3
                            go_wp2
                            go_roundg kj46
                            case measure => have := HK1.out; have := HJ29.out; have := HJ46.out; omega
                            case rel => exact ⟨(wrap64 (x9_1 + 1)), (x113000_1), (wrap64 (x113001_1 + 1)), (x113002_1), (x113003_1), (by first | rfl | (simp; done) | (simp [*]; done)), H', ⟨by have := HK1.out; have := HJ29.out; have := HJ46.out; omega⟩, ⟨by (with_reducible repeat (first | refine blk_drewN ?_ _ | refine blk_drew ?_ | refine blk_alloc ?_ _)); refine blk_put (cs := #[.int .i64 x113000_1, .int .i64 x113001_1, .int .i64 x113002_1, .int .i64 x113003_1]) ?_ 1 _ rfl; (with_reducible repeat (first | refine blk_drewN ?_ _ | refine blk_drew ?_ | refine blk_alloc ?_ _)); exact BK112.out⟩, ⟨by repeat (first | (with_reducible first | exact HB.out | apply below_alloc | apply pw_below_drewN | apply below_drew1 | refine below_set ?_ GE112.out | refine below_set ?_ GE114.out) | exact HB.out)⟩⟩
                        · replace c50 := Bool.eq_false_iff.mpr c50
                          subst c50
                          have H1 : (if ((rd_T151 l0 x9_1).f0).toList = ([100] : List UInt8) then (pattern_full.j4 kj46 l0 x9_1 l0 (l0.length : Int) x9_1 ((rd_T151 l0 x9_1).f0) (((rd_T151 l0 x9_1).f0).toList == ([100] : List UInt8)) x113000_1 x113001_1 x113002_1 x113003_1) else (pattern_full.j4 kj46 l0 x9_1 l0 (l0.length : Int) x9_1 ((rd_T151 l0 x9_1).f0) (((rd_T151 l0 x9_1).f0).toList == ([100, 50] : List UInt8)) x113000_1 x113001_1 x113002_1 x113003_1)) = some r := by rw [if_neg (show ¬ (false = true) by decide)] at H; exact H
                          clear H
                          have H := H1
                          clear H1
                          have HC62 := Aside0.mk H
                          clear H
                          go_upto_if 70 with (fail)
                          go_cut [70] (fun v70 wc => ∃ (kq : Nat) (x70_61 : Bool), v70 = .bool x70_61 ∧ Aside0 (pattern_full.j4 kq l0 x9_1 l0 (l0.length : Int) x9_1 ((rd_T151 l0 x9_1).f0) x70_61 x113000_1 x113001_1 x113002_1 x113003_1 = some r) ∧ Aside0 (kq ≤ kj46) ∧ Aside0 (wc.heap[gb112]? = some (.cells #[.int .i64 x113000_1, .int .i64 x113001_1, .int .i64 x113002_1, .int .i64 x113003_1] 104 (0, 0))) ∧ Aside0 (wc.heap[gb114]? = some (.cells #[.string ((rd_T151 l0 x9_1).f0), .string ((rd_T151 l0 x9_1).f1)] 151 (0, 0))) ∧ Aside0 (Below w.heap.size w wc))
                          case first =>
                            have H := HC62.out
                            clear HC62
                            by_cases c63 : ((rd_T151 l0 x9_1).f0).toList = ([100] : List UInt8)
                            · rw [if_pos c63] at H
                              have c63b0 : (((rd_T151 l0 x9_1).f0).toList == ([100] : List UInt8)) = true := beq_iff_eq.mpr c63
                              have c63b1 : (((rd_T151 l0 x9_1).f0).toList != ([100] : List UInt8)) = false := bne_eq_false_iff_eq.mpr c63
                              clear c63
                              (first | rw [c63b0] | (simp only [i64_w, i32_w]; rw [c63b0]) | skip)
                              have H' := Aside0.mk H
                              clear H
                              go_wp2
                              go_meet
                              case rel => exact ⟨_, ((((rd_T151 l0 x9_1).f0).toList == ([100] : List UInt8))), (by first | rfl | (simp; done) | (simp [*]; done)), H', ⟨by have := HK1.out; have := HJ29.out; have := HJ46.out; first | omega | exact Nat.le_refl _⟩, ⟨by (with_reducible repeat (first | refine blk_drewN ?_ _ | refine blk_drew ?_ | refine blk_alloc ?_ _)); exact BK112.out⟩, ⟨by (with_reducible repeat (first | refine blk_drewN ?_ _ | refine blk_drew ?_ | refine blk_alloc ?_ _)); exact BK114.out⟩, ⟨by repeat (first | (with_reducible first | exact HB.out | apply below_alloc | apply pw_below_drewN | apply below_drew1 | refine below_set ?_ GE112.out | refine below_set ?_ GE114.out) | exact HB.out)⟩⟩
                            · rw [if_neg c63] at H
                              have c63b0 : (((rd_T151 l0 x9_1).f0).toList == ([100] : List UInt8)) = false := beq_eq_false_iff_ne.mpr c63
                              have c63b1 : (((rd_T151 l0 x9_1).f0).toList != ([100] : List UInt8)) = true := bne_iff_ne.mpr c63
                              (first | rw [c63b0] | (simp only [i64_w, i32_w]; rw [c63b0]) | skip)
                              have H' := Aside0.mk H
                              clear H
                              go_wp2
                              go_meet
                              case rel => exact ⟨_, ((((rd_T151 l0 x9_1).f0).toList == ([100, 50] : List UInt8))), (by first | rfl | (simp; done) | (simp [*]; done)), H', ⟨by have := HK1.out; have := HJ29.out; have := HJ46.out; first | omega | exact Nat.le_refl _⟩, ⟨by (with_reducible repeat (first | refine blk_drewN ?_ _ | refine blk_drew ?_ | refine blk_alloc ?_ _)); exact BK112.out⟩, ⟨by (with_reducible repeat (first | refine blk_drewN ?_ _ | refine blk_drew ?_ | refine blk_alloc ?_ _)); exact BK114.out⟩, ⟨by repeat (first | (with_reducible first | exact HB.out | apply below_alloc | apply pw_below_drewN | apply below_drew1 | refine below_set ?_ GE112.out | refine below_set ?_ GE114.out) | exact HB.out)⟩⟩
                          case rest =>
                            clear HC62
                            try clear c1
                            try clear p1
                            try clear q1
                            try clear hx1
                            try clear c2
                            try clear p2
                            try clear c3
                            try clear c3b0
                            try clear c4
                            try clear c4b0
                            try clear c5
                            try clear c5b0
                            try clear c6
                            try clear c6b0
                            try clear c6b1
                            try clear p6
                            try clear c7
                            try clear c7b0
                            try clear c7b1
                            try clear p8
                            try clear q8
                            try clear hx8
                            try clear qi8
                            try clear c11
                            try clear p11
                            try clear q11
                            try clear hx11
                            try clear c13
                            try clear c13b0
                            try clear c14
                            try clear c14b0
                            try clear c14b1
                            try clear c15
                            try clear c15b0
                            try clear c16
                            try clear c16b0
                            try clear c17
                            try clear c17b0
                            try clear c18
                            try clear c18b0
                            try clear c19
                            try clear c19b0
                            try clear c20
                            try clear c20b0
                            try clear c21
                            try clear c21b0
                            try clear c22
                            try clear c22b0
                            try clear c23
                            try clear c23b0
                            try clear c24
                            try clear c24b0
                            try clear c25
                            try clear c25b0
                            try clear c26
                            try clear c26b0
                            try clear c27
                            try clear c27b0
                            try clear c28
                            try clear c28b0
                            try clear c29
                            try clear c32
                            try clear c34
                            try clear c34b0
                            try clear c34b1
                            try clear c35
                            try clear c36
                            try clear c36b0
                            try clear c38
                            try clear c38b0
                            try clear c39
                            try clear c39b0
                            try clear c40
                            try clear c40b0
                            try clear c40b1
                            try clear c41
                            try clear c43
                            try clear c45
                            try clear c48
                            try clear c48b0
                            try clear c48b1
                            try clear c49
                            try clear c49b0
                            try clear c49b1
                            try clear c50
                            try clear c51
                            try clear c51b0
                            try clear c53
                            try clear c53b0
                            try clear c54
                            try clear c54b0
                            try clear c55
                            try clear c55b0
                            try clear c55b1
                            try clear c56
                            try clear c58
                            try clear c60
                            try clear c63
                            try clear c63b0
                            try clear c63b1
                            try clear hcz12_0
                            try clear hcz12_1
                            try clear hcz33_0
                            try clear hcz33_1
                            try clear hcz42_0
                            try clear hcz42_1
                            try clear hcz42_2
                            try clear hcz42_3
                            try clear hcz44_0
                            try clear hcz44_1
                            try clear hcz44_2
                            try clear hcz44_3
                            try clear hcz46_0
                            try clear hcz46_1
                            try clear hcz46_2
                            try clear hcz46_3
                            try clear hcz57_0
                            try clear hcz57_1
                            try clear hcz57_2
                            try clear hcz57_3
                            try clear hcz59_0
                            try clear hcz59_1
                            try clear hcz59_2
                            try clear hcz59_3
                            try clear hcz61_0
                            try clear hcz61_1
                            try clear hcz61_2
                            try clear hcz61_3
                            try clear hfz12_0
                            try clear hfz12_1
                            try clear hfz33_0
                            try clear hfz33_1
                            try clear hfz42_0
                            try clear hfz42_1
                            try clear hfz42_2
                            try clear hfz42_3
                            try clear hfz44_0
                            try clear hfz44_1
                            try clear hfz44_2
                            try clear hfz44_3
                            try clear hfz46_0
                            try clear hfz46_1
                            try clear hfz46_2
                            try clear hfz46_3
                            try clear hfz57_0
                            try clear hfz57_1
                            try clear hfz57_2
                            try clear hfz57_3
                            try clear hfz59_0
                            try clear hfz59_1
                            try clear hfz59_2
                            try clear hfz59_3
                            try clear hfz61_0
                            try clear hfz61_1
                            try clear hfz61_2
                            try clear hfz61_3
                            try clear hx113_0
                            try clear hx113_1
                            try clear hx115_0
                            try clear hx115_1
                            try clear hx116_0
                            try clear hx116_1
                            try clear p1
                            try clear p11
                            try clear p113
                            try clear p115
                            try clear p116
                            try clear p2
                            try clear p6
                            try clear p8
                            try clear q1
                            try clear q11
                            try clear q113
                            try clear q115
                            try clear q116
                            try clear q8
                            obtain ⟨kq, x70_61, rfl, HA, HJ61, BK112, BK114, HB⟩ := hcut
                            cases kq with
                            | zero => exact absurd HA.out (by simp [pattern_full.j4])
                            | succ kj61 =>
                              have H := HA.out
                              clear HA
                              simp only [pattern_full.j4] at H
                              by_cases c64 : x70_61 = true
                              · subst c64
                                have H1 : (if x9_1 > 0 then (if 0 ≤ (wrap64 (x9_1 - 1)) then (if (wrap64 (x9_1 - 1)) < (l0.length : Int) then (if ((rd_T151 l0 (wrap64 (x9_1 - 1))).f0).toList = ([] : List UInt8) then (pattern_full.l0 kj61 l0 l0 (l0.length : Int) (wrap64 (x9_1 + 1)) x113000_1 x113001_1 (wrap64 (x113002_1 + 1)) x113003_1) else (some false)) else (none)) else (none)) else (pattern_full.l0 kj61 l0 l0 (l0.length : Int) (wrap64 (x9_1 + 1)) x113000_1 x113001_1 (wrap64 (x113002_1 + 1)) x113003_1)) = some r := by rw [if_pos rfl] at H; exact H
                                clear H
                                have H := H1
                                clear H1
                                by_cases c65 : x9_1 > 0
                                · rw [if_pos c65] at H
                                  have c65b0 : decide (0 < x9_1) = true := decide_eq_true c65
                                  clear c65
                                  obtain ⟨ji66, hji66⟩ : ∃ j_ : Int, (wrap64 (x9_1 - 1)) = j_ := ⟨_, rfl⟩
                                  replace H : (if 0 ≤ (ji66) then (if (ji66) < (l0.length : Int) then (if ((rd_T151 l0 (ji66)).f0).toList = ([] : List UInt8) then (pattern_full.l0 kj61 l0 l0 (l0.length : Int) (wrap64 (x9_1 + 1)) x113000_1 x113001_1 (wrap64 (x113002_1 + 1)) x113003_1) else (some false)) else (none)) else (none)) = some r := by first | (rw [hji66] at H; exact H) | (simp only [hji66] at H ⊢; exact H)
                                  have hji66w : (IntKind.i64.wrap (x9_1 - 1)) = ji66 := (i64_w _).trans hji66
                                  by_cases c67 : 0 ≤ (ji66)
                                  · rw [if_pos c67] at H
                                    have c67b0 : decide (0 ≤ (ji66)) = true := decide_eq_true c67
                                    clear c67
                                    by_cases c68 : (ji66) < (l0.length : Int)
                                    · rw [if_pos c68] at H
                                      have c68b0 : decide ((ji66) < (l0.length : Int)) = true := decide_eq_true c68
                                      clear c68
                                      by_cases c69 : ((rd_T151 l0 (ji66)).f0).toList = ([] : List UInt8)
                                      · rw [if_pos c69] at H
                                        have c69b0 : (((rd_T151 l0 (ji66)).f0).toList == ([] : List UInt8)) = true := beq_iff_eq.mpr c69
                                        have c69b1 : (((rd_T151 l0 (ji66)).f0).toList != ([] : List UInt8)) = false := bne_eq_false_iff_eq.mpr c69
                                        clear c69
                                        have H' := Aside0.mk H
                                        clear H
                                        have hnb70 := NB112_114.out
                                        have hnc70 := NB114_112.out
                                        have hcz71_0 : wc.cell? ⟨gb112, 0, none⟩ = some (.int .i64 x113000_1) := (blk_cell BK112.out 0).trans rfl
                                        have hcz71_1 : wc.cell? ⟨gb112, 1, none⟩ = some (.int .i64 x113001_1) := (blk_cell BK112.out 1).trans rfl
                                        have hcz71_2 : wc.cell? ⟨gb112, 2, none⟩ = some (.int .i64 x113002_1) := (blk_cell BK112.out 2).trans rfl
                                        have hcz71_3 : wc.cell? ⟨gb112, 3, none⟩ = some (.int .i64 x113003_1) := (blk_cell BK112.out 3).trans rfl
                                        have hfz71_0 := blk_frozen BK112.out 0
                                        have hfz71_1 := blk_frozen BK112.out 1
                                        have hfz71_2 := blk_frozen BK112.out 2
                                        have hfz71_3 := blk_frozen BK112.out 3
                                        have p117 : 0 ≤ ((ji66) : Int) := of_decide_eq_true (by first | (with_reducible assumption) | assumption)
                                        have q117 : (ji66) < (l0.length : Int) := of_decide_eq_true (by first | (with_reducible assumption) | assumption)
                                        obtain ⟨ad117, e117, hx117_0, hx117_1⟩ := at_T151 HR0.out (ji66) p117 q117
                                        obtain rfl : ad113 = ad117 := (by injection e117)
                                        have hn117_0 : ad113.block ≠ gb112 := Nat.ne_of_lt (Nat.lt_of_lt_of_le (by have := World.block_lt_of_cell? _ _ hx117_0; first | rwa [add_block] at this | exact this) GW112.out)
                                        replace hx117_0 := (HB.out.cell (World.block_lt_of_cell? w _ hx117_0)).trans hx117_0
                                        replace hx117_1 := (HB.out.cell (World.block_lt_of_cell? w _ hx117_1)).trans hx117_1
                                        replace hx117_0 := (cell_far (p := ⟨gb112, 2, none⟩) (by first | (rw [add_block]; exact hn117_0) | (show (Addr.add _ _).block ≠ _; rw [add_block]; exact hn117_0) | exact hn117_0) (.int .i64 (wrap64 (x113002_1 + 1)))).trans hx117_0
                                        replace hx117_1 := (cell_far (p := ⟨gb112, 2, none⟩) (by first | (rw [add_block]; exact hn117_0) | (show (Addr.add _ _).block ≠ _; rw [add_block]; exact hn117_0) | exact hn117_0) (.int .i64 (wrap64 (x113002_1 + 1)))).trans hx117_1
                                        clear hn117_0
                                        replace p117 := eq_true p117
                                        replace q117 := eq_true q117
                                        go_wp2
                                        go_roundg kj61
                                        case measure => have := HK1.out; have := HJ29.out; have := HJ46.out; have := HJ61.out; omega
                                        case rel => exact ⟨(wrap64 (x9_1 + 1)), (x113000_1), (x113001_1), (wrap64 (x113002_1 + 1)), (x113003_1), (by first | rfl | (simp; done) | (simp [*]; done)), H', ⟨by have := HK1.out; have := HJ29.out; have := HJ46.out; have := HJ61.out; omega⟩, ⟨by (with_reducible repeat (first | refine blk_drewN ?_ _ | refine blk_drew ?_ | refine blk_alloc ?_ _)); refine blk_put (cs := #[.int .i64 x113000_1, .int .i64 x113001_1, .int .i64 x113002_1, .int .i64 x113003_1]) ?_ 2 _ rfl; (with_reducible repeat (first | refine blk_drewN ?_ _ | refine blk_drew ?_ | refine blk_alloc ?_ _)); exact BK112.out⟩, ⟨by repeat (first | (with_reducible first | exact HB.out | apply below_alloc | apply pw_below_drewN | apply below_drew1 | refine below_set ?_ GE112.out | refine below_set ?_ GE114.out) | exact HB.out)⟩⟩
                                      · rw [if_neg c69] at H
                                        have c69b0 : (((rd_T151 l0 (ji66)).f0).toList == ([] : List UInt8)) = false := beq_eq_false_iff_ne.mpr c69
                                        have c69b1 : (((rd_T151 l0 (ji66)).f0).toList != ([] : List UInt8)) = true := bne_iff_ne.mpr c69
                                        obtain rfl := Option.some.inj H
                                        have hnb72 := NB112_114.out
                                        have hnc72 := NB114_112.out
                                        have hcz73_0 : wc.cell? ⟨gb112, 0, none⟩ = some (.int .i64 x113000_1) := (blk_cell BK112.out 0).trans rfl
                                        have hcz73_1 : wc.cell? ⟨gb112, 1, none⟩ = some (.int .i64 x113001_1) := (blk_cell BK112.out 1).trans rfl
                                        have hcz73_2 : wc.cell? ⟨gb112, 2, none⟩ = some (.int .i64 x113002_1) := (blk_cell BK112.out 2).trans rfl
                                        have hcz73_3 : wc.cell? ⟨gb112, 3, none⟩ = some (.int .i64 x113003_1) := (blk_cell BK112.out 3).trans rfl
                                        have hfz73_0 := blk_frozen BK112.out 0
                                        have hfz73_1 := blk_frozen BK112.out 1
                                        have hfz73_2 := blk_frozen BK112.out 2
                                        have hfz73_3 := blk_frozen BK112.out 3
                                        have p117 : 0 ≤ ((ji66) : Int) := of_decide_eq_true (by first | (with_reducible assumption) | assumption)
                                        have q117 : (ji66) < (l0.length : Int) := of_decide_eq_true (by first | (with_reducible assumption) | assumption)
                                        obtain ⟨ad117, e117, hx117_0, hx117_1⟩ := at_T151 HR0.out (ji66) p117 q117
                                        obtain rfl : ad113 = ad117 := (by injection e117)
                                        have hn117_0 : ad113.block ≠ gb112 := Nat.ne_of_lt (Nat.lt_of_lt_of_le (by have := World.block_lt_of_cell? _ _ hx117_0; first | rwa [add_block] at this | exact this) GW112.out)
                                        replace hx117_0 := (HB.out.cell (World.block_lt_of_cell? w _ hx117_0)).trans hx117_0
                                        replace hx117_1 := (HB.out.cell (World.block_lt_of_cell? w _ hx117_1)).trans hx117_1
                                        replace hx117_0 := (cell_far (p := ⟨gb112, 2, none⟩) (by first | (rw [add_block]; exact hn117_0) | (show (Addr.add _ _).block ≠ _; rw [add_block]; exact hn117_0) | exact hn117_0) (.int .i64 (wrap64 (x113002_1 + 1)))).trans hx117_0
                                        replace hx117_1 := (cell_far (p := ⟨gb112, 2, none⟩) (by first | (rw [add_block]; exact hn117_0) | (show (Addr.add _ _).block ≠ _; rw [add_block]; exact hn117_0) | exact hn117_0) (.int .i64 (wrap64 (x113002_1 + 1)))).trans hx117_1
                                        clear hn117_0
                                        replace p117 := eq_true p117
                                        replace q117 := eq_true q117
                                        go_wp2
                                        go_ret
                                        exact ⟨by first | rfl | (simp [errW_none, errW_some] <;> rfl) | (simp only [← hji66]; first | rfl | (simp [errW_none, errW_some] <;> rfl)) | (simp [*, errW_none, errW_some] <;> rfl), by repeat (first | (with_reducible first | exact HB.out | apply below_alloc | apply pw_below_drewN | apply below_drew1 | refine below_set ?_ GE112.out | refine below_set ?_ GE114.out) | exact HB.out)⟩
                                    · rw [if_neg c68] at H
                                      exact absurd H (by simp)
                                  · rw [if_neg c67] at H
                                    exact absurd H (by simp)
                                · rw [if_neg c65] at H
                                  have c65b0 : decide (0 < x9_1) = false := decide_eq_false c65
                                  clear c65
                                  have H' := Aside0.mk H
                                  clear H
                                  have hnb74 := NB112_114.out
                                  have hnc74 := NB114_112.out
                                  have hcz75_0 : wc.cell? ⟨gb112, 0, none⟩ = some (.int .i64 x113000_1) := (blk_cell BK112.out 0).trans rfl
                                  have hcz75_1 : wc.cell? ⟨gb112, 1, none⟩ = some (.int .i64 x113001_1) := (blk_cell BK112.out 1).trans rfl
                                  have hcz75_2 : wc.cell? ⟨gb112, 2, none⟩ = some (.int .i64 x113002_1) := (blk_cell BK112.out 2).trans rfl
                                  have hcz75_3 : wc.cell? ⟨gb112, 3, none⟩ = some (.int .i64 x113003_1) := (blk_cell BK112.out 3).trans rfl
                                  have hfz75_0 := blk_frozen BK112.out 0
                                  have hfz75_1 := blk_frozen BK112.out 1
                                  have hfz75_2 := blk_frozen BK112.out 2
                                  have hfz75_3 := blk_frozen BK112.out 3
                                  go_wp2
                                  go_roundg kj61
                                  case measure => have := HK1.out; have := HJ29.out; have := HJ46.out; have := HJ61.out; omega
                                  case rel => exact ⟨(wrap64 (x9_1 + 1)), (x113000_1), (x113001_1), (wrap64 (x113002_1 + 1)), (x113003_1), (by first | rfl | (simp; done) | (simp [*]; done)), H', ⟨by have := HK1.out; have := HJ29.out; have := HJ46.out; have := HJ61.out; omega⟩, ⟨by (with_reducible repeat (first | refine blk_drewN ?_ _ | refine blk_drew ?_ | refine blk_alloc ?_ _)); refine blk_put (cs := #[.int .i64 x113000_1, .int .i64 x113001_1, .int .i64 x113002_1, .int .i64 x113003_1]) ?_ 2 _ rfl; (with_reducible repeat (first | refine blk_drewN ?_ _ | refine blk_drew ?_ | refine blk_alloc ?_ _)); exact BK112.out⟩, ⟨by repeat (first | (with_reducible first | exact HB.out | apply below_alloc | apply pw_below_drewN | apply below_drew1 | refine below_set ?_ GE112.out | refine below_set ?_ GE114.out) | exact HB.out)⟩⟩
                              · replace c64 := Bool.eq_false_iff.mpr c64
                                subst c64
                                have H1 : (if ((rd_T151 l0 x9_1).f0).toList = ([119] : List UInt8) then (if x9_1 > 0 then (if 0 ≤ (wrap64 (x9_1 - 1)) then (if (wrap64 (x9_1 - 1)) < (l0.length : Int) then (if ((rd_T151 l0 (wrap64 (x9_1 - 1))).f0).toList = ([] : List UInt8) then (pattern_full.l0 kj61 l0 l0 (l0.length : Int) (wrap64 (x9_1 + 1)) x113000_1 x113001_1 x113002_1 (wrap64 (x113003_1 + 1))) else (some false)) else (none)) else (none)) else (pattern_full.l0 kj61 l0 l0 (l0.length : Int) (wrap64 (x9_1 + 1)) x113000_1 x113001_1 x113002_1 (wrap64 (x113003_1 + 1)))) else (if x9_1 > 0 then (if 0 ≤ (wrap64 (x9_1 - 1)) then (if (wrap64 (x9_1 - 1)) < (l0.length : Int) then (if ((rd_T151 l0 (wrap64 (x9_1 - 1))).f0).toList = ([] : List UInt8) then (pattern_full.l0 kj61 l0 l0 (l0.length : Int) (wrap64 (x9_1 + 1)) x113000_1 x113001_1 x113002_1 x113003_1) else (some false)) else (none)) else (none)) else (pattern_full.l0 kj61 l0 l0 (l0.length : Int) (wrap64 (x9_1 + 1)) x113000_1 x113001_1 x113002_1 x113003_1))) = some r := by rw [if_neg (show ¬ (false = true) by decide)] at H; exact H
                                clear H
                                have H := H1
                                clear H1
                                by_cases c76 : ((rd_T151 l0 x9_1).f0).toList = ([119] : List UInt8)
                                · rw [if_pos c76] at H
                                  have c76b0 : (((rd_T151 l0 x9_1).f0).toList == ([119] : List UInt8)) = true := beq_iff_eq.mpr c76
                                  have c76b1 : (((rd_T151 l0 x9_1).f0).toList != ([119] : List UInt8)) = false := bne_eq_false_iff_eq.mpr c76
                                  clear c76
                                  by_cases c77 : x9_1 > 0
                                  · rw [if_pos c77] at H
                                    have c77b0 : decide (0 < x9_1) = true := decide_eq_true c77
                                    clear c77
                                    obtain ⟨ji78, hji78⟩ : ∃ j_ : Int, (wrap64 (x9_1 - 1)) = j_ := ⟨_, rfl⟩
                                    replace H : (if 0 ≤ (ji78) then (if (ji78) < (l0.length : Int) then (if ((rd_T151 l0 (ji78)).f0).toList = ([] : List UInt8) then (pattern_full.l0 kj61 l0 l0 (l0.length : Int) (wrap64 (x9_1 + 1)) x113000_1 x113001_1 x113002_1 (wrap64 (x113003_1 + 1))) else (some false)) else (none)) else (none)) = some r := by first | (rw [hji78] at H; exact H) | (simp only [hji78] at H ⊢; exact H)
                                    have hji78w : (IntKind.i64.wrap (x9_1 - 1)) = ji78 := (i64_w _).trans hji78
                                    by_cases c79 : 0 ≤ (ji78)
                                    · rw [if_pos c79] at H
                                      have c79b0 : decide (0 ≤ (ji78)) = true := decide_eq_true c79
                                      clear c79
                                      by_cases c80 : (ji78) < (l0.length : Int)
                                      · rw [if_pos c80] at H
                                        have c80b0 : decide ((ji78) < (l0.length : Int)) = true := decide_eq_true c80
                                        clear c80
                                        by_cases c81 : ((rd_T151 l0 (ji78)).f0).toList = ([] : List UInt8)
                                        · rw [if_pos c81] at H
                                          have c81b0 : (((rd_T151 l0 (ji78)).f0).toList == ([] : List UInt8)) = true := beq_iff_eq.mpr c81
                                          have c81b1 : (((rd_T151 l0 (ji78)).f0).toList != ([] : List UInt8)) = false := bne_eq_false_iff_eq.mpr c81
                                          clear c81
                                          have H' := Aside0.mk H
                                          clear H
                                          have hnb82 := NB112_114.out
                                          have hnc82 := NB114_112.out
                                          have hcz83_0 : wc.cell? ⟨gb112, 0, none⟩ = some (.int .i64 x113000_1) := (blk_cell BK112.out 0).trans rfl
                                          have hcz83_1 : wc.cell? ⟨gb112, 1, none⟩ = some (.int .i64 x113001_1) := (blk_cell BK112.out 1).trans rfl
                                          have hcz83_2 : wc.cell? ⟨gb112, 2, none⟩ = some (.int .i64 x113002_1) := (blk_cell BK112.out 2).trans rfl
                                          have hcz83_3 : wc.cell? ⟨gb112, 3, none⟩ = some (.int .i64 x113003_1) := (blk_cell BK112.out 3).trans rfl
                                          have hfz83_0 := blk_frozen BK112.out 0
                                          have hfz83_1 := blk_frozen BK112.out 1
                                          have hfz83_2 := blk_frozen BK112.out 2
                                          have hfz83_3 := blk_frozen BK112.out 3
                                          have p118 : 0 ≤ ((ji78) : Int) := of_decide_eq_true (by first | (with_reducible assumption) | assumption)
                                          have q118 : (ji78) < (l0.length : Int) := of_decide_eq_true (by first | (with_reducible assumption) | assumption)
                                          obtain ⟨ad118, e118, hx118_0, hx118_1⟩ := at_T151 HR0.out (ji78) p118 q118
                                          obtain rfl : ad113 = ad118 := (by injection e118)
                                          have hn118_0 : ad113.block ≠ gb112 := Nat.ne_of_lt (Nat.lt_of_lt_of_le (by have := World.block_lt_of_cell? _ _ hx118_0; first | rwa [add_block] at this | exact this) GW112.out)
                                          replace hx118_0 := (HB.out.cell (World.block_lt_of_cell? w _ hx118_0)).trans hx118_0
                                          replace hx118_1 := (HB.out.cell (World.block_lt_of_cell? w _ hx118_1)).trans hx118_1
                                          replace hx118_0 := (cell_far (p := ⟨gb112, 3, none⟩) (by first | (rw [add_block]; exact hn118_0) | (show (Addr.add _ _).block ≠ _; rw [add_block]; exact hn118_0) | exact hn118_0) (.int .i64 (wrap64 (x113003_1 + 1)))).trans hx118_0
                                          replace hx118_1 := (cell_far (p := ⟨gb112, 3, none⟩) (by first | (rw [add_block]; exact hn118_0) | (show (Addr.add _ _).block ≠ _; rw [add_block]; exact hn118_0) | exact hn118_0) (.int .i64 (wrap64 (x113003_1 + 1)))).trans hx118_1
                                          clear hn118_0
                                          replace p118 := eq_true p118
                                          replace q118 := eq_true q118
                                          go_wp2
                                          go_roundg kj61
                                          case measure => have := HK1.out; have := HJ29.out; have := HJ46.out; have := HJ61.out; omega
                                          case rel => exact ⟨(wrap64 (x9_1 + 1)), (x113000_1), (x113001_1), (x113002_1), (wrap64 (x113003_1 + 1)), (by first | rfl | (simp; done) | (simp [*]; done)), H', ⟨by have := HK1.out; have := HJ29.out; have := HJ46.out; have := HJ61.out; omega⟩, ⟨by (with_reducible repeat (first | refine blk_drewN ?_ _ | refine blk_drew ?_ | refine blk_alloc ?_ _)); refine blk_put (cs := #[.int .i64 x113000_1, .int .i64 x113001_1, .int .i64 x113002_1, .int .i64 x113003_1]) ?_ 3 _ rfl; (with_reducible repeat (first | refine blk_drewN ?_ _ | refine blk_drew ?_ | refine blk_alloc ?_ _)); exact BK112.out⟩, ⟨by repeat (first | (with_reducible first | exact HB.out | apply below_alloc | apply pw_below_drewN | apply below_drew1 | refine below_set ?_ GE112.out | refine below_set ?_ GE114.out) | exact HB.out)⟩⟩
                                        · rw [if_neg c81] at H
                                          have c81b0 : (((rd_T151 l0 (ji78)).f0).toList == ([] : List UInt8)) = false := beq_eq_false_iff_ne.mpr c81
                                          have c81b1 : (((rd_T151 l0 (ji78)).f0).toList != ([] : List UInt8)) = true := bne_iff_ne.mpr c81
                                          obtain rfl := Option.some.inj H
                                          have hnb84 := NB112_114.out
                                          have hnc84 := NB114_112.out
                                          have hcz85_0 : wc.cell? ⟨gb112, 0, none⟩ = some (.int .i64 x113000_1) := (blk_cell BK112.out 0).trans rfl
                                          have hcz85_1 : wc.cell? ⟨gb112, 1, none⟩ = some (.int .i64 x113001_1) := (blk_cell BK112.out 1).trans rfl
                                          have hcz85_2 : wc.cell? ⟨gb112, 2, none⟩ = some (.int .i64 x113002_1) := (blk_cell BK112.out 2).trans rfl
                                          have hcz85_3 : wc.cell? ⟨gb112, 3, none⟩ = some (.int .i64 x113003_1) := (blk_cell BK112.out 3).trans rfl
                                          have hfz85_0 := blk_frozen BK112.out 0
                                          have hfz85_1 := blk_frozen BK112.out 1
                                          have hfz85_2 := blk_frozen BK112.out 2
                                          have hfz85_3 := blk_frozen BK112.out 3
                                          have p118 : 0 ≤ ((ji78) : Int) := of_decide_eq_true (by first | (with_reducible assumption) | assumption)
                                          have q118 : (ji78) < (l0.length : Int) := of_decide_eq_true (by first | (with_reducible assumption) | assumption)
                                          obtain ⟨ad118, e118, hx118_0, hx118_1⟩ := at_T151 HR0.out (ji78) p118 q118
                                          obtain rfl : ad113 = ad118 := (by injection e118)
                                          have hn118_0 : ad113.block ≠ gb112 := Nat.ne_of_lt (Nat.lt_of_lt_of_le (by have := World.block_lt_of_cell? _ _ hx118_0; first | rwa [add_block] at this | exact this) GW112.out)
                                          replace hx118_0 := (HB.out.cell (World.block_lt_of_cell? w _ hx118_0)).trans hx118_0
                                          replace hx118_1 := (HB.out.cell (World.block_lt_of_cell? w _ hx118_1)).trans hx118_1
                                          replace hx118_0 := (cell_far (p := ⟨gb112, 3, none⟩) (by first | (rw [add_block]; exact hn118_0) | (show (Addr.add _ _).block ≠ _; rw [add_block]; exact hn118_0) | exact hn118_0) (.int .i64 (wrap64 (x113003_1 + 1)))).trans hx118_0
                                          replace hx118_1 := (cell_far (p := ⟨gb112, 3, none⟩) (by first | (rw [add_block]; exact hn118_0) | (show (Addr.add _ _).block ≠ _; rw [add_block]; exact hn118_0) | exact hn118_0) (.int .i64 (wrap64 (x113003_1 + 1)))).trans hx118_1
                                          clear hn118_0
                                          replace p118 := eq_true p118
                                          replace q118 := eq_true q118
                                          go_wp2
                                          go_ret
                                          exact ⟨by first | rfl | (simp [errW_none, errW_some] <;> rfl) | (simp only [← hji78]; first | rfl | (simp [errW_none, errW_some] <;> rfl)) | (simp [*, errW_none, errW_some] <;> rfl), by repeat (first | (with_reducible first | exact HB.out | apply below_alloc | apply pw_below_drewN | apply below_drew1 | refine below_set ?_ GE112.out | refine below_set ?_ GE114.out) | exact HB.out)⟩
                                      · rw [if_neg c80] at H
                                        exact absurd H (by simp)
                                    · rw [if_neg c79] at H
                                      exact absurd H (by simp)
                                  · rw [if_neg c77] at H
                                    have c77b0 : decide (0 < x9_1) = false := decide_eq_false c77
                                    clear c77
                                    have H' := Aside0.mk H
                                    clear H
                                    have hnb86 := NB112_114.out
                                    have hnc86 := NB114_112.out
                                    have hcz87_0 : wc.cell? ⟨gb112, 0, none⟩ = some (.int .i64 x113000_1) := (blk_cell BK112.out 0).trans rfl
                                    have hcz87_1 : wc.cell? ⟨gb112, 1, none⟩ = some (.int .i64 x113001_1) := (blk_cell BK112.out 1).trans rfl
                                    have hcz87_2 : wc.cell? ⟨gb112, 2, none⟩ = some (.int .i64 x113002_1) := (blk_cell BK112.out 2).trans rfl
                                    have hcz87_3 : wc.cell? ⟨gb112, 3, none⟩ = some (.int .i64 x113003_1) := (blk_cell BK112.out 3).trans rfl
                                    have hfz87_0 := blk_frozen BK112.out 0
                                    have hfz87_1 := blk_frozen BK112.out 1
                                    have hfz87_2 := blk_frozen BK112.out 2
                                    have hfz87_3 := blk_frozen BK112.out 3
                                    go_wp2
                                    go_roundg kj61
                                    case measure => have := HK1.out; have := HJ29.out; have := HJ46.out; have := HJ61.out; omega
                                    case rel => exact ⟨(wrap64 (x9_1 + 1)), (x113000_1), (x113001_1), (x113002_1), (wrap64 (x113003_1 + 1)), (by first | rfl | (simp; done) | (simp [*]; done)), H', ⟨by have := HK1.out; have := HJ29.out; have := HJ46.out; have := HJ61.out; omega⟩, ⟨by (with_reducible repeat (first | refine blk_drewN ?_ _ | refine blk_drew ?_ | refine blk_alloc ?_ _)); refine blk_put (cs := #[.int .i64 x113000_1, .int .i64 x113001_1, .int .i64 x113002_1, .int .i64 x113003_1]) ?_ 3 _ rfl; (with_reducible repeat (first | refine blk_drewN ?_ _ | refine blk_drew ?_ | refine blk_alloc ?_ _)); exact BK112.out⟩, ⟨by repeat (first | (with_reducible first | exact HB.out | apply below_alloc | apply pw_below_drewN | apply below_drew1 | refine below_set ?_ GE112.out | refine below_set ?_ GE114.out) | exact HB.out)⟩⟩
                                · rw [if_neg c76] at H
                                  have c76b0 : (((rd_T151 l0 x9_1).f0).toList == ([119] : List UInt8)) = false := beq_eq_false_iff_ne.mpr c76
                                  have c76b1 : (((rd_T151 l0 x9_1).f0).toList != ([119] : List UInt8)) = true := bne_iff_ne.mpr c76
                                  by_cases c88 : x9_1 > 0
                                  · rw [if_pos c88] at H
                                    have c88b0 : decide (0 < x9_1) = true := decide_eq_true c88
                                    clear c88
                                    obtain ⟨ji89, hji89⟩ : ∃ j_ : Int, (wrap64 (x9_1 - 1)) = j_ := ⟨_, rfl⟩
                                    replace H : (if 0 ≤ (ji89) then (if (ji89) < (l0.length : Int) then (if ((rd_T151 l0 (ji89)).f0).toList = ([] : List UInt8) then (pattern_full.l0 kj61 l0 l0 (l0.length : Int) (wrap64 (x9_1 + 1)) x113000_1 x113001_1 x113002_1 x113003_1) else (some false)) else (none)) else (none)) = some r := by first | (rw [hji89] at H; exact H) | (simp only [hji89] at H ⊢; exact H)
                                    have hji89w : (IntKind.i64.wrap (x9_1 - 1)) = ji89 := (i64_w _).trans hji89
                                    by_cases c90 : 0 ≤ (ji89)
                                    · rw [if_pos c90] at H
                                      have c90b0 : decide (0 ≤ (ji89)) = true := decide_eq_true c90
                                      clear c90
                                      by_cases c91 : (ji89) < (l0.length : Int)
                                      · rw [if_pos c91] at H
                                        have c91b0 : decide ((ji89) < (l0.length : Int)) = true := decide_eq_true c91
                                        clear c91
                                        by_cases c92 : ((rd_T151 l0 (ji89)).f0).toList = ([] : List UInt8)
                                        · rw [if_pos c92] at H
                                          have c92b0 : (((rd_T151 l0 (ji89)).f0).toList == ([] : List UInt8)) = true := beq_iff_eq.mpr c92
                                          have c92b1 : (((rd_T151 l0 (ji89)).f0).toList != ([] : List UInt8)) = false := bne_eq_false_iff_eq.mpr c92
                                          clear c92
                                          have H' := Aside0.mk H
                                          clear H
                                          have p119 : 0 ≤ ((ji89) : Int) := of_decide_eq_true (by first | (with_reducible assumption) | assumption)
                                          have q119 : (ji89) < (l0.length : Int) := of_decide_eq_true (by first | (with_reducible assumption) | assumption)
                                          obtain ⟨ad119, e119, hx119_0, hx119_1⟩ := at_T151 HR0.out (ji89) p119 q119
                                          obtain rfl : ad113 = ad119 := (by injection e119)
                                          replace hx119_0 := (HB.out.cell (World.block_lt_of_cell? w _ hx119_0)).trans hx119_0
                                          replace hx119_1 := (HB.out.cell (World.block_lt_of_cell? w _ hx119_1)).trans hx119_1
                                          replace p119 := eq_true p119
                                          replace q119 := eq_true q119
                                          go_wp2
                                          go_roundg kj61
                                          case measure => have := HK1.out; have := HJ29.out; have := HJ46.out; have := HJ61.out; omega
                                          case rel => exact ⟨(wrap64 (x9_1 + 1)), (x113000_1), (x113001_1), (x113002_1), (x113003_1), (by first | rfl | (simp; done) | (simp [*]; done)), H', ⟨by have := HK1.out; have := HJ29.out; have := HJ46.out; have := HJ61.out; omega⟩, ⟨by (with_reducible repeat (first | refine blk_drewN ?_ _ | refine blk_drew ?_ | refine blk_alloc ?_ _)); exact BK112.out⟩, ⟨by repeat (first | (with_reducible first | exact HB.out | apply below_alloc | apply pw_below_drewN | apply below_drew1 | refine below_set ?_ GE112.out | refine below_set ?_ GE114.out) | exact HB.out)⟩⟩
                                        · rw [if_neg c92] at H
                                          have c92b0 : (((rd_T151 l0 (ji89)).f0).toList == ([] : List UInt8)) = false := beq_eq_false_iff_ne.mpr c92
                                          have c92b1 : (((rd_T151 l0 (ji89)).f0).toList != ([] : List UInt8)) = true := bne_iff_ne.mpr c92
                                          obtain rfl := Option.some.inj H
                                          have p119 : 0 ≤ ((ji89) : Int) := of_decide_eq_true (by first | (with_reducible assumption) | assumption)
                                          have q119 : (ji89) < (l0.length : Int) := of_decide_eq_true (by first | (with_reducible assumption) | assumption)
                                          obtain ⟨ad119, e119, hx119_0, hx119_1⟩ := at_T151 HR0.out (ji89) p119 q119
                                          obtain rfl : ad113 = ad119 := (by injection e119)
                                          replace hx119_0 := (HB.out.cell (World.block_lt_of_cell? w _ hx119_0)).trans hx119_0
                                          replace hx119_1 := (HB.out.cell (World.block_lt_of_cell? w _ hx119_1)).trans hx119_1
                                          replace p119 := eq_true p119
                                          replace q119 := eq_true q119
                                          go_wp2
                                          go_ret
                                          exact ⟨by first | rfl | (simp [errW_none, errW_some] <;> rfl) | (simp only [← hji89]; first | rfl | (simp [errW_none, errW_some] <;> rfl)) | (simp [*, errW_none, errW_some] <;> rfl), by repeat (first | (with_reducible first | exact HB.out | apply below_alloc | apply pw_below_drewN | apply below_drew1 | refine below_set ?_ GE112.out | refine below_set ?_ GE114.out) | exact HB.out)⟩
                                      · rw [if_neg c91] at H
                                        exact absurd H (by simp)
                                    · rw [if_neg c90] at H
                                      exact absurd H (by simp)
                                  · rw [if_neg c88] at H
                                    have c88b0 : decide (0 < x9_1) = false := decide_eq_false c88
                                    clear c88
                                    have H' := Aside0.mk H
                                    clear H
                                    go_wp2
                                    go_roundg kj61
                                    case measure => have := HK1.out; have := HJ29.out; have := HJ46.out; have := HJ61.out; omega
                                    case rel => exact ⟨(wrap64 (x9_1 + 1)), (x113000_1), (x113001_1), (x113002_1), (x113003_1), (by first | rfl | (simp; done) | (simp [*]; done)), H', ⟨by have := HK1.out; have := HJ29.out; have := HJ46.out; have := HJ61.out; omega⟩, ⟨by (with_reducible repeat (first | refine blk_drewN ?_ _ | refine blk_drew ?_ | refine blk_alloc ?_ _)); exact BK112.out⟩, ⟨by repeat (first | (with_reducible first | exact HB.out | apply below_alloc | apply pw_below_drewN | apply below_drew1 | refine below_set ?_ GE112.out | refine below_set ?_ GE114.out) | exact HB.out)⟩⟩
          · rw [if_neg c5] at H
            exact absurd H (by simp)
        · rw [if_neg c4] at H
          exact absurd H (by simp)
      · rw [if_neg c3] at H
        have c3b0 : decide (x9_1 < (l0.length : Int)) = false := decide_eq_false c3
        clear c3
        by_cases c93 : x113000_1 = 1
        · rw [if_pos c93] at H
          have c93b0 : (x113000_1 == 1) = true := beq_iff_eq.mpr c93
          have c93b1 : (x113000_1 != 1) = false := bne_eq_false_iff_eq.mpr c93
          clear c93
          by_cases c94 : x113001_1 = 1
          · rw [if_pos c94] at H
            have c94b0 : (x113001_1 == 1) = true := beq_iff_eq.mpr c94
            have c94b1 : (x113001_1 != 1) = false := bne_eq_false_iff_eq.mpr c94
            clear c94
            by_cases c95 : x113002_1 = 1
            · rw [if_pos c95] at H
              have c95b0 : (x113002_1 == 1) = true := beq_iff_eq.mpr c95
              have c95b1 : (x113002_1 != 1) = false := bne_eq_false_iff_eq.mpr c95
              clear c95
              obtain rfl := Option.some.inj H
              have hcz96_0 : wr.cell? ⟨gb112, 0, none⟩ = some (.int .i64 x113000_1) := (blk_cell BK112.out 0).trans rfl
              have hcz96_1 : wr.cell? ⟨gb112, 1, none⟩ = some (.int .i64 x113001_1) := (blk_cell BK112.out 1).trans rfl
              have hcz96_2 : wr.cell? ⟨gb112, 2, none⟩ = some (.int .i64 x113002_1) := (blk_cell BK112.out 2).trans rfl
              have hcz96_3 : wr.cell? ⟨gb112, 3, none⟩ = some (.int .i64 x113003_1) := (blk_cell BK112.out 3).trans rfl
              have hfz96_0 := blk_frozen BK112.out 0
              have hfz96_1 := blk_frozen BK112.out 1
              have hfz96_2 := blk_frozen BK112.out 2
              have hfz96_3 := blk_frozen BK112.out 3
              go_wp2
              go_ret
              exact ⟨by first | rfl | (simp [errW_none, errW_some] <;> rfl) | (simp [*, errW_none, errW_some] <;> rfl), by repeat (first | (with_reducible first | exact HB.out | apply below_alloc | apply pw_below_drewN | apply below_drew1 | refine below_set ?_ GE112.out) | exact HB.out)⟩
            · rw [if_neg c95] at H
              have c95b0 : (x113002_1 == 1) = false := beq_eq_false_iff_ne.mpr c95
              have c95b1 : (x113002_1 != 1) = true := bne_iff_ne.mpr c95
              obtain rfl := Option.some.inj H
              have hcz97_0 : wr.cell? ⟨gb112, 0, none⟩ = some (.int .i64 x113000_1) := (blk_cell BK112.out 0).trans rfl
              have hcz97_1 : wr.cell? ⟨gb112, 1, none⟩ = some (.int .i64 x113001_1) := (blk_cell BK112.out 1).trans rfl
              have hcz97_2 : wr.cell? ⟨gb112, 2, none⟩ = some (.int .i64 x113002_1) := (blk_cell BK112.out 2).trans rfl
              have hcz97_3 : wr.cell? ⟨gb112, 3, none⟩ = some (.int .i64 x113003_1) := (blk_cell BK112.out 3).trans rfl
              have hfz97_0 := blk_frozen BK112.out 0
              have hfz97_1 := blk_frozen BK112.out 1
              have hfz97_2 := blk_frozen BK112.out 2
              have hfz97_3 := blk_frozen BK112.out 3
              go_wp2
              go_ret
              exact ⟨by first | rfl | (simp [errW_none, errW_some] <;> rfl) | (simp [*, errW_none, errW_some] <;> rfl), by repeat (first | (with_reducible first | exact HB.out | apply below_alloc | apply pw_below_drewN | apply below_drew1 | refine below_set ?_ GE112.out) | exact HB.out)⟩
          · rw [if_neg c94] at H
            have c94b0 : (x113001_1 == 1) = false := beq_eq_false_iff_ne.mpr c94
            have c94b1 : (x113001_1 != 1) = true := bne_iff_ne.mpr c94
            obtain rfl := Option.some.inj H
            have hcz98_0 : wr.cell? ⟨gb112, 0, none⟩ = some (.int .i64 x113000_1) := (blk_cell BK112.out 0).trans rfl
            have hcz98_1 : wr.cell? ⟨gb112, 1, none⟩ = some (.int .i64 x113001_1) := (blk_cell BK112.out 1).trans rfl
            have hcz98_2 : wr.cell? ⟨gb112, 2, none⟩ = some (.int .i64 x113002_1) := (blk_cell BK112.out 2).trans rfl
            have hcz98_3 : wr.cell? ⟨gb112, 3, none⟩ = some (.int .i64 x113003_1) := (blk_cell BK112.out 3).trans rfl
            have hfz98_0 := blk_frozen BK112.out 0
            have hfz98_1 := blk_frozen BK112.out 1
            have hfz98_2 := blk_frozen BK112.out 2
            have hfz98_3 := blk_frozen BK112.out 3
            go_wp2
            go_ret
            exact ⟨by first | rfl | (simp [errW_none, errW_some] <;> rfl) | (simp [*, errW_none, errW_some] <;> rfl), by repeat (first | (with_reducible first | exact HB.out | apply below_alloc | apply pw_below_drewN | apply below_drew1 | refine below_set ?_ GE112.out) | exact HB.out)⟩
        · rw [if_neg c93] at H
          have c93b0 : (x113000_1 == 1) = false := beq_eq_false_iff_ne.mpr c93
          have c93b1 : (x113000_1 != 1) = true := bne_iff_ne.mpr c93
          obtain rfl := Option.some.inj H
          have hcz99_0 : wr.cell? ⟨gb112, 0, none⟩ = some (.int .i64 x113000_1) := (blk_cell BK112.out 0).trans rfl
          have hcz99_1 : wr.cell? ⟨gb112, 1, none⟩ = some (.int .i64 x113001_1) := (blk_cell BK112.out 1).trans rfl
          have hcz99_2 : wr.cell? ⟨gb112, 2, none⟩ = some (.int .i64 x113002_1) := (blk_cell BK112.out 2).trans rfl
          have hcz99_3 : wr.cell? ⟨gb112, 3, none⟩ = some (.int .i64 x113003_1) := (blk_cell BK112.out 3).trans rfl
          have hfz99_0 := blk_frozen BK112.out 0
          have hfz99_1 := blk_frozen BK112.out 1
          have hfz99_2 := blk_frozen BK112.out 2
          have hfz99_3 := blk_frozen BK112.out 3
          go_wp2
          go_ret
          exact ⟨by first | rfl | (simp [errW_none, errW_some] <;> rfl) | (simp [*, errW_none, errW_some] <;> rfl), by repeat (first | (with_reducible first | exact HB.out | apply below_alloc | apply pw_below_drewN | apply below_drew1 | refine below_set ?_ GE112.out) | exact HB.out)⟩

end Go.Proofs.YtcmanidhilkhnaaDoor.PPatternChecks
