-- The walks of the law's functions, told by a program.
import Derived.Test.YtolhlaadhfilnaaDoorPZoneInstantsx0
import Derived.Test.YtolhlaadhfilnaaDoorPZoneInstantsx2
import Derived.Test.YtolhlaadhfilnaaDoorPZoneInstantsx4
import Derived.Test.YtolhlaadhfilnaaDoorPZoneInstantsx5
namespace Go.Proofs.YtolhlaadhfilnaaDoor.PZoneInstants
open Go.RowKit Go.Proofs.YtolhlaadhfilnaaDoorW.PrintWords Go.Proofs.YtolhlaadhfilnaaDoorW.PrintLast Go.Proofs.YtolhlaadhfilnaaDoorW.PrintMore
attribute [local go_sem] max2_int min2_int max_two min_two max_three min_three max_four min_four   -- for this text's walks alone
set_option linter.unusedVariables false
set_option linter.unusedSimpArgs false

/-! ### ephemerislaw1_ZoneInstants: function 3 -/
mutual
def ephemerislaw1_ZoneInstants.j0 : Nat → Int → Int → List Int → Int → Int → Int → Int → ByteArray → Int → List (S43) → Option (Bool)
  | 0, _, _, _, _, _, _, _, _, _, _ => none
  | k + 1, x1, x2, x9, x10, x11, x12, x13, x212000, x212001, x212002 => if x13 = 0 then ((ephemerisref1_LocalInstants.f k x212000 x212001 x212002 x1 x2).bind fun t228 => (if x10 = 0 then ((ephemerisref1_SameInts.f k x9 t228).bind fun t231 => (ephemerislaw1_ZoneInstants.j1 k x11 x12 t228 (!t231))) else (ephemerislaw1_ZoneInstants.j1 k x11 x12 t228 true))) else (if (x9.length : Int) = 0 then (if x10 = x13 then (if x11 = 0 then (some (x12 == x13)) else (some false)) else (some false)) else (some false))
def ephemerislaw1_ZoneInstants.j1 : Nat → Int → Int → List Int → Bool → Option (Bool)
  | 0, _, _, _, _ => none
  | k + 1, x11, x12, x14, x79 => if x79 = true then (some false) else (if (x14.length : Int) = 0 then (if x11 = 0 then (some (x12 == 15)) else (some false)) else (if (x14.length : Int) = 1 then (if 0 < (x14.length : Int) then (if x11 = (rd x14 0) then (some (x12 == 0)) else (some false)) else (none)) else (if x11 = 0 then (some (x12 == 16)) else (some false))))
end
def ephemerislaw1_ZoneInstants.f (k : Nat) (a0_0 : ByteArray) (a0_1 : Int) (l0_2 : List (S43)) (a1 : Int) (a2 : Int) : Option (Bool) := (ephemerislaw1_base.f).bind fun bt212 => ((zone_One.f k bt212.1 bt212.2.1 bt212.2.2 0 5400000).bind fun bt217 => (if bt217.2 = 15 then ((zone_Instants.f k a0_0 a0_1 l0_2 a1 a2).bind fun bt219 => ((zone_One.f k a0_0 a0_1 l0_2 a1 a2).bind fun bt223 => ((ephemerisref1_ZoneError.f k a0_0 a0_1 l0_2).bind fun t225 => (if t225 = 0 then ((ephemerisref1_Day.f a1).bind fun t226 => (if t226 = true then ((ephemerisref1_In.f a2 0 86399999).bind fun t227 => (if t227 = true then (ephemerislaw1_ZoneInstants.j0 k a1 a2 bt219.1 bt219.2 bt223.1 bt223.2 t225 a0_0 a0_1 l0_2) else (ephemerislaw1_ZoneInstants.j0 k a1 a2 bt219.1 bt219.2 bt223.1 bt223.2 1 a0_0 a0_1 l0_2))) else (ephemerislaw1_ZoneInstants.j0 k a1 a2 bt219.1 bt219.2 bt223.1 bt223.2 3 a0_0 a0_1 l0_2))) else (ephemerislaw1_ZoneInstants.j0 k a1 a2 bt219.1 bt219.2 bt223.1 bt223.2 t225 a0_0 a0_1 l0_2))))) else (some false)))
theorem ephemerislaw1_ZoneInstants.mono_l : ∀ k, (∀ y0 y1 y2 y3 y4 y5 y6 y7 y8 y9, LeO (ephemerislaw1_ZoneInstants.j0 k y0 y1 y2 y3 y4 y5 y6 y7 y8 y9) (ephemerislaw1_ZoneInstants.j0 (k + 1) y0 y1 y2 y3 y4 y5 y6 y7 y8 y9)) ∧ (∀ y0 y1 y2 y3, LeO (ephemerislaw1_ZoneInstants.j1 k y0 y1 y2 y3) (ephemerislaw1_ZoneInstants.j1 (k + 1) y0 y1 y2 y3))
  | 0 => ⟨fun _ _ _ _ _ _ _ _ _ _ r h => by simp [ephemerislaw1_ZoneInstants.j0] at h, fun _ _ _ _ r h => by simp [ephemerislaw1_ZoneInstants.j1] at h⟩
  | k + 1 => by
    obtain ⟨ih0, ih1⟩ := ephemerislaw1_ZoneInstants.mono_l k
    refine ⟨?_, ?_⟩
    · intro y0 y1 y2 y3 y4 y5 y6 y7 y8 y9
      unfold ephemerislaw1_ZoneInstants.j0
      repeat' first
      | (with_reducible exact ih0 _ _ _ _ _ _ _ _ _ _)
      | (with_reducible exact ih1 _ _ _ _)
      | (with_reducible exact ephemerisref1_LocalInstants.mono _ _ _ _ _ _)
      | (with_reducible exact ephemerisref1_SameInts.mono _ _ _)
      | (with_reducible exact ephemerisref1_ZoneError.mono _ _ _ _)
      | (with_reducible exact zone_Instants.mono _ _ _ _ _ _)
      | (with_reducible exact zone_One.mono _ _ _ _ _ _)
      | (with_reducible exact LeO.refl _)
      | (with_reducible exact LeO.none _)
      | (with_reducible refine LeO.ite ?_ ?_)
      | (with_reducible refine LeO.bind ?_ (fun _ => ?_))
      | exact ih0 _ _ _ _ _ _ _ _ _ _
      | exact ih1 _ _ _ _
      | exact ephemerisref1_LocalInstants.mono _ _ _ _ _ _
      | exact ephemerisref1_SameInts.mono _ _ _
      | exact ephemerisref1_ZoneError.mono _ _ _ _
      | exact zone_Instants.mono _ _ _ _ _ _
      | exact zone_One.mono _ _ _ _ _ _
      | exact LeO.none _
      | refine LeO.ite ?_ ?_
      | refine LeO.bind ?_ (fun _ => ?_)
    · intro y0 y1 y2 y3
      unfold ephemerislaw1_ZoneInstants.j1
      repeat' first
      | (with_reducible exact ih0 _ _ _ _ _ _ _ _ _ _)
      | (with_reducible exact ih1 _ _ _ _)
      | (with_reducible exact ephemerisref1_LocalInstants.mono _ _ _ _ _ _)
      | (with_reducible exact ephemerisref1_SameInts.mono _ _ _)
      | (with_reducible exact ephemerisref1_ZoneError.mono _ _ _ _)
      | (with_reducible exact zone_Instants.mono _ _ _ _ _ _)
      | (with_reducible exact zone_One.mono _ _ _ _ _ _)
      | (with_reducible exact LeO.refl _)
      | (with_reducible exact LeO.none _)
      | (with_reducible refine LeO.ite ?_ ?_)
      | (with_reducible refine LeO.bind ?_ (fun _ => ?_))
      | exact ih0 _ _ _ _ _ _ _ _ _ _
      | exact ih1 _ _ _ _
      | exact ephemerisref1_LocalInstants.mono _ _ _ _ _ _
      | exact ephemerisref1_SameInts.mono _ _ _
      | exact ephemerisref1_ZoneError.mono _ _ _ _
      | exact zone_Instants.mono _ _ _ _ _ _
      | exact zone_One.mono _ _ _ _ _ _
      | exact LeO.none _
      | refine LeO.ite ?_ ?_
      | refine LeO.bind ?_ (fun _ => ?_)
theorem ephemerislaw1_ZoneInstants.mono : ∀ a0 a1 a2 a3 a4 k, LeO (ephemerislaw1_ZoneInstants.f k a0 a1 a2 a3 a4) (ephemerislaw1_ZoneInstants.f (k + 1) a0 a1 a2 a3 a4) := by
  intro a0 a1 a2 a3 a4 k
  obtain ⟨ih0, ih1⟩ := ephemerislaw1_ZoneInstants.mono_l k
  unfold ephemerislaw1_ZoneInstants.f
  repeat' first
      | (with_reducible exact ih0 _ _ _ _ _ _ _ _ _ _)
      | (with_reducible exact ih1 _ _ _ _)
      | (with_reducible exact ephemerisref1_LocalInstants.mono _ _ _ _ _ _)
      | (with_reducible exact ephemerisref1_SameInts.mono _ _ _)
      | (with_reducible exact ephemerisref1_ZoneError.mono _ _ _ _)
      | (with_reducible exact zone_Instants.mono _ _ _ _ _ _)
      | (with_reducible exact zone_One.mono _ _ _ _ _ _)
      | (with_reducible exact LeO.refl _)
      | (with_reducible exact LeO.none _)
      | (with_reducible refine LeO.ite ?_ ?_)
      | (with_reducible refine LeO.bind ?_ (fun _ => ?_))
      | exact ih0 _ _ _ _ _ _ _ _ _ _
      | exact ih1 _ _ _ _
      | exact ephemerisref1_LocalInstants.mono _ _ _ _ _ _
      | exact ephemerisref1_SameInts.mono _ _ _
      | exact ephemerisref1_ZoneError.mono _ _ _ _
      | exact zone_Instants.mono _ _ _ _ _ _
      | exact zone_One.mono _ _ _ _ _ _
      | exact LeO.none _
      | refine LeO.ite ?_ ?_
      | refine LeO.bind ?_ (fun _ => ?_)
set_option maxHeartbeats 8000000 in
set_option maxRecDepth 100000 in
theorem ephemerislaw1_ZoneInstants.calls (k : Nat) (a0_0 : ByteArray) (a0_1 : Int) (A0_2 : Option Addr) (c0_2 : Nat) (l0_2 : List (S43)) (a1 : Int) (a2 : Int) (r : Bool) (w : World) (hr0_2 : Kd.C k43 w A0_2 l0_2.length l0_2) (hc0_2 : l0_2.length ≤ c0_2) (h : ephemerislaw1_ZoneInstants.f k a0_0 a0_1 l0_2 a1 a2 = some r) :
    Calls Tryd.prog 3 #[.agg #[.string a0_0, .int .i64 a0_1, .slice A0_2 l0_2.length c0_2], .int .i64 a1, .int .i64 a2] w fun e w' => e = .returned (.bool r) ∧ Below w.heap.size w w' := by
  have hu24 := Tryd.underlying24
  have HR0_2 := Aside0.mk hr0_2
  have HC0_2 := Aside0.mk hc0_2
  clear hr0_2 hc0_2
  have HB := Aside0.mk (Below.refl w.heap.size w)
  have H : ((ephemerislaw1_base.f).bind fun bt212 => ((zone_One.f k bt212.1 bt212.2.1 bt212.2.2 0 5400000).bind fun bt217 => (if bt217.2 = 15 then ((zone_Instants.f k a0_0 a0_1 l0_2 a1 a2).bind fun bt219 => ((zone_One.f k a0_0 a0_1 l0_2 a1 a2).bind fun bt223 => ((ephemerisref1_ZoneError.f k a0_0 a0_1 l0_2).bind fun t225 => (if t225 = 0 then ((ephemerisref1_Day.f a1).bind fun t226 => (if t226 = true then ((ephemerisref1_In.f a2 0 86399999).bind fun t227 => (if t227 = true then (ephemerislaw1_ZoneInstants.j0 k a1 a2 bt219.1 bt219.2 bt223.1 bt223.2 t225 a0_0 a0_1 l0_2) else (ephemerislaw1_ZoneInstants.j0 k a1 a2 bt219.1 bt219.2 bt223.1 bt223.2 1 a0_0 a0_1 l0_2))) else (ephemerislaw1_ZoneInstants.j0 k a1 a2 bt219.1 bt219.2 bt223.1 bt223.2 3 a0_0 a0_1 l0_2))) else (ephemerislaw1_ZoneInstants.j0 k a1 a2 bt219.1 bt219.2 bt223.1 bt223.2 t225 a0_0 a0_1 l0_2))))) else (some false)))) = some r := h
  clear h
  replace H := Option.bind_eq_some_iff.mp H
  obtain ⟨⟨t212, t213, t214⟩, A40, H⟩ := H
  replace H : ((zone_One.f k t212 t213 t214 0 5400000).bind fun bt217 => (if bt217.2 = 15 then ((zone_Instants.f k a0_0 a0_1 l0_2 a1 a2).bind fun bt219 => ((zone_One.f k a0_0 a0_1 l0_2 a1 a2).bind fun bt223 => ((ephemerisref1_ZoneError.f k a0_0 a0_1 l0_2).bind fun t225 => (if t225 = 0 then ((ephemerisref1_Day.f a1).bind fun t226 => (if t226 = true then ((ephemerisref1_In.f a2 0 86399999).bind fun t227 => (if t227 = true then (ephemerislaw1_ZoneInstants.j0 k a1 a2 bt219.1 bt219.2 bt223.1 bt223.2 t225 a0_0 a0_1 l0_2) else (ephemerislaw1_ZoneInstants.j0 k a1 a2 bt219.1 bt219.2 bt223.1 bt223.2 1 a0_0 a0_1 l0_2))) else (ephemerislaw1_ZoneInstants.j0 k a1 a2 bt219.1 bt219.2 bt223.1 bt223.2 3 a0_0 a0_1 l0_2))) else (ephemerislaw1_ZoneInstants.j0 k a1 a2 bt219.1 bt219.2 bt223.1 bt223.2 t225 a0_0 a0_1 l0_2))))) else (some false))) = some r := H
  have A4 := Aside0.mk A40
  clear A40
  replace H := Option.bind_eq_some_iff.mp H
  obtain ⟨⟨t217, t218⟩, A50, H⟩ := H
  replace H : (if t218 = 15 then ((zone_Instants.f k a0_0 a0_1 l0_2 a1 a2).bind fun bt219 => ((zone_One.f k a0_0 a0_1 l0_2 a1 a2).bind fun bt223 => ((ephemerisref1_ZoneError.f k a0_0 a0_1 l0_2).bind fun t225 => (if t225 = 0 then ((ephemerisref1_Day.f a1).bind fun t226 => (if t226 = true then ((ephemerisref1_In.f a2 0 86399999).bind fun t227 => (if t227 = true then (ephemerislaw1_ZoneInstants.j0 k a1 a2 bt219.1 bt219.2 bt223.1 bt223.2 t225 a0_0 a0_1 l0_2) else (ephemerislaw1_ZoneInstants.j0 k a1 a2 bt219.1 bt219.2 bt223.1 bt223.2 1 a0_0 a0_1 l0_2))) else (ephemerislaw1_ZoneInstants.j0 k a1 a2 bt219.1 bt219.2 bt223.1 bt223.2 3 a0_0 a0_1 l0_2))) else (ephemerislaw1_ZoneInstants.j0 k a1 a2 bt219.1 bt219.2 bt223.1 bt223.2 t225 a0_0 a0_1 l0_2))))) else (some false)) = some r := H
  have A5 := Aside0.mk A50
  clear A50
  by_cases c6 : t218 = 15
  · rw [if_pos c6] at H
    have c6b0 : (t218 == 15) = true := beq_iff_eq.mpr c6
    have c6b1 : (t218 != 15) = false := bne_eq_false_iff_eq.mpr c6
    clear c6
    replace H := Option.bind_eq_some_iff.mp H
    obtain ⟨⟨t219, t222⟩, A70, H⟩ := H
    replace H : ((zone_One.f k a0_0 a0_1 l0_2 a1 a2).bind fun bt223 => ((ephemerisref1_ZoneError.f k a0_0 a0_1 l0_2).bind fun t225 => (if t225 = 0 then ((ephemerisref1_Day.f a1).bind fun t226 => (if t226 = true then ((ephemerisref1_In.f a2 0 86399999).bind fun t227 => (if t227 = true then (ephemerislaw1_ZoneInstants.j0 k a1 a2 t219 t222 bt223.1 bt223.2 t225 a0_0 a0_1 l0_2) else (ephemerislaw1_ZoneInstants.j0 k a1 a2 t219 t222 bt223.1 bt223.2 1 a0_0 a0_1 l0_2))) else (ephemerislaw1_ZoneInstants.j0 k a1 a2 t219 t222 bt223.1 bt223.2 3 a0_0 a0_1 l0_2))) else (ephemerislaw1_ZoneInstants.j0 k a1 a2 t219 t222 bt223.1 bt223.2 t225 a0_0 a0_1 l0_2)))) = some r := H
    have A7 := Aside0.mk A70
    clear A70
    replace H := Option.bind_eq_some_iff.mp H
    obtain ⟨⟨t223, t224⟩, A80, H⟩ := H
    replace H : ((ephemerisref1_ZoneError.f k a0_0 a0_1 l0_2).bind fun t225 => (if t225 = 0 then ((ephemerisref1_Day.f a1).bind fun t226 => (if t226 = true then ((ephemerisref1_In.f a2 0 86399999).bind fun t227 => (if t227 = true then (ephemerislaw1_ZoneInstants.j0 k a1 a2 t219 t222 t223 t224 t225 a0_0 a0_1 l0_2) else (ephemerislaw1_ZoneInstants.j0 k a1 a2 t219 t222 t223 t224 1 a0_0 a0_1 l0_2))) else (ephemerislaw1_ZoneInstants.j0 k a1 a2 t219 t222 t223 t224 3 a0_0 a0_1 l0_2))) else (ephemerislaw1_ZoneInstants.j0 k a1 a2 t219 t222 t223 t224 t225 a0_0 a0_1 l0_2))) = some r := H
    have A8 := Aside0.mk A80
    clear A80
    replace H := Option.bind_eq_some_iff.mp H
    obtain ⟨t225, A90, H⟩ := H
    replace H : (if t225 = 0 then ((ephemerisref1_Day.f a1).bind fun t226 => (if t226 = true then ((ephemerisref1_In.f a2 0 86399999).bind fun t227 => (if t227 = true then (ephemerislaw1_ZoneInstants.j0 k a1 a2 t219 t222 t223 t224 t225 a0_0 a0_1 l0_2) else (ephemerislaw1_ZoneInstants.j0 k a1 a2 t219 t222 t223 t224 1 a0_0 a0_1 l0_2))) else (ephemerislaw1_ZoneInstants.j0 k a1 a2 t219 t222 t223 t224 3 a0_0 a0_1 l0_2))) else (ephemerislaw1_ZoneInstants.j0 k a1 a2 t219 t222 t223 t224 t225 a0_0 a0_1 l0_2)) = some r := H
    have A9 := Aside0.mk A90
    clear A90
    have HC10 := Aside0.mk H
    clear H
    go_enter Tryd.func3, Tryd.ntmps3
    go_upto_block 0 with (first | ((with_reducible refine gate_dst (N := 3) rfl ?_); refine box_event ?hg (N := 3) ?hd (cs := #[.string a0_0, .int .i64 a0_1, .slice A0_2 l0_2.length c0_2]) (t := 24) ?hr ?_; (case hd => rfl); (case hg => rfl); (case hr => first | (go_simp; done) | (go_simp; rfl)); intro gb211 hg w11 hbox hb; have n0_ := Aside0.mk (below_step (by repeat (first | (with_reducible first | exact HB.out | apply below_alloc | apply pw_below_drewN | apply below_drew1) | exact HB.out)) hb); have n1_ := Aside0.mk (hbox); have n2_ := Aside0.mk ((by rw [hg]; exact (below_size (by repeat (first | (with_reducible first | exact HB.out | apply below_alloc | apply pw_below_drewN | apply below_drew1) | exact HB.out))) : w.heap.size ≤ gb211)); have n3_ := Aside0.mk ((by rw [hg]; exact (below_size (by repeat (first | (with_reducible first | exact HB.out | apply below_alloc | apply pw_below_drewN | apply below_drew1) | exact HB.out))) : w.heap.size ≤ gb211)); clear HB; have HB := n0_; have BK211 := n1_; have GW211 := n2_; have GE211 := n3_; clear n0_ n1_ n2_ n3_; clear hb hbox hg) | ((with_reducible refine gate_callee (f := 11) rfl ?_); refine goesL_ (some 16) rfl rfl Tryd.func11 (by kernel_rfl) rfl #[] rfl (by (try simp only [List.map_toArray, List.map_cons, List.map_nil]); first | done | rfl | (simp only [List.length_drop, List.length_take]; rfl)) ?_; (with_reducible refine (ephemerislaw1_base.calls  t212 t213 t214 _ A4.out).mono ?_); rintro e w12 ⟨v215, rfl, ho0, hb⟩; refine ⟨_, rfl, ?_⟩; have n0_ := Aside0.mk (Kd.R_lower ho0 (below_size (by repeat (first | (with_reducible first | exact HB.out | apply below_alloc | apply pw_below_drewN | apply below_drew1 | refine below_set ?_ GE211.out) | exact HB.out)))); have n1_ := Aside0.mk (blk_below (g := gb211) (o := .cells #[.string a0_0, .int .i64 a0_1, .slice A0_2 l0_2.length c0_2] 24 (0, 0)) (by (with_reducible repeat (first | refine blk_drewN ?_ _ | refine blk_drew ?_ | refine blk_alloc ?_ _)); exact BK211.out) hb); have n2_ := Aside0.mk (below_step (by repeat (first | (with_reducible first | exact HB.out | apply below_alloc | apply pw_below_drewN | apply below_drew1 | refine below_set ?_ GE211.out) | exact HB.out)) hb); clear BK211; clear HB; have HO216 := n0_; have BK211 := n1_; have HB := n2_; clear n0_ n1_ n2_; (try clear hb); (try clear hb2); (try clear hk); (try clear hi); (try clear ho0); obtain ⟨Ao13, co13, eo13⟩ := Kd.R_slice HO216.out; subst eo13) | ((with_reducible refine gate_callee (f := 10) rfl ?_); refine goesL_ (some 17) rfl rfl Tryd.func10 (by kernel_rfl) rfl #[.agg #[.string t212, .int .i64 t213, .slice Ao13 t214.length co13], .int .i64 0, .int .i64 5400000] rfl (by (try simp only [List.map_toArray, List.map_cons, List.map_nil]); first | done | rfl | (simp only [List.length_drop, List.length_take]; rfl)) ?_; (with_reducible refine (zone_One.calls k t212 t213 _ _ t214 0 5400000 t217 t218 _ ?side1 ?side2 A5.out).mono ?_); (case side1 => repeat (first | exact (Kd.R_reads' HO216.out).2.2 | (with_reducible refine Kd.C_alloc ?_ _) | (with_reducible refine Kd.C_drewN ?_ _) | (with_reducible refine Kd.C_drew ?_))); (case side2 => exact (Kd.R_reads' HO216.out).2.1); rintro e w14 ⟨rfl, hb⟩; refine ⟨_, rfl, ?_⟩; have n0_ := Aside0.mk (Kd.R_below (by (with_reducible repeat (first | apply Kd.R_alloc | apply Kd.R_drewN | apply Kd.R_drew)); exact HO216.out) hb); have n1_ := Aside0.mk (blk_below (g := gb211) (o := .cells #[.string a0_0, .int .i64 a0_1, .slice A0_2 l0_2.length c0_2] 24 (0, 0)) (by (with_reducible repeat (first | refine blk_drewN ?_ _ | refine blk_drew ?_ | refine blk_alloc ?_ _)); exact BK211.out) hb); have n2_ := Aside0.mk (below_step (by repeat (first | (with_reducible first | exact HB.out | apply below_alloc | apply pw_below_drewN | apply below_drew1 | refine below_set ?_ GE211.out) | exact HB.out)) hb); clear HO216; clear BK211; clear HB; have HO216 := n0_; have BK211 := n1_; have HB := n2_; clear n0_ n1_ n2_; (try clear hb); (try clear hb2); (try clear hk); (try clear hi); have hcz15_0 : w14.cell? ⟨gb211, 0, none⟩ = some (.string a0_0) := (blk_cell BK211.out 0).trans rfl; have hcz15_1 : w14.cell? ⟨gb211, 1, none⟩ = some (.int .i64 a0_1) := (blk_cell BK211.out 1).trans rfl; have hcz15_2 : w14.cell? ⟨gb211, 2, none⟩ = some (.slice A0_2 l0_2.length c0_2) := (blk_cell BK211.out 2).trans rfl; have hfz15_0 := blk_frozen BK211.out 0; have hfz15_1 := blk_frozen BK211.out 1; have hfz15_2 := blk_frozen BK211.out 2) | ((with_reducible refine gate_callee (f := 12) rfl ?_); refine goesL_ (some 26) rfl rfl Tryd.func12 (by kernel_rfl) rfl #[.agg #[.string a0_0, .int .i64 a0_1, .slice A0_2 l0_2.length c0_2], .int .i64 a1, .int .i64 a2] rfl (by (try simp only [List.map_toArray, List.map_cons, List.map_nil]); first | done | rfl | (simp only [List.length_drop, List.length_take]; rfl)) ?_; (with_reducible refine (zone_Instants.calls k a0_0 a0_1 _ _ l0_2 a1 a2 t219 t222 _ ?side1 ?side2 A7.out).mono ?_); (case side1 => repeat (first | exact (Kd.C_below HR0_2.out HB.out) | (with_reducible refine Kd.C_alloc ?_ _) | (with_reducible refine Kd.C_drewN ?_ _) | (with_reducible refine Kd.C_drew ?_))); (case side2 => exact HC0_2.out); rintro e w16 ⟨v220, rfl, ho0, hb⟩; refine ⟨_, rfl, ?_⟩; have n0_ := Aside0.mk (Kd.R_below (by (with_reducible repeat (first | apply Kd.R_alloc | apply Kd.R_drewN | apply Kd.R_drew)); exact HO216.out) hb); have n1_ := Aside0.mk (Kd.R_lower ho0 (below_size (by repeat (first | (with_reducible first | exact HB.out | apply below_alloc | apply pw_below_drewN | apply below_drew1 | refine below_set ?_ GE211.out) | exact HB.out)))); have n2_ := Aside0.mk (blk_below (g := gb211) (o := .cells #[.string a0_0, .int .i64 a0_1, .slice A0_2 l0_2.length c0_2] 24 (0, 0)) (by (with_reducible repeat (first | refine blk_drewN ?_ _ | refine blk_drew ?_ | refine blk_alloc ?_ _)); exact BK211.out) hb); have n3_ := Aside0.mk (below_step (by repeat (first | (with_reducible first | exact HB.out | apply below_alloc | apply pw_below_drewN | apply below_drew1 | refine below_set ?_ GE211.out) | exact HB.out)) hb); clear HO216; clear BK211; clear HB; have HO216 := n0_; have HO221 := n1_; have BK211 := n2_; have HB := n3_; clear n0_ n1_ n2_ n3_; (try clear hb); (try clear hb2); (try clear hk); (try clear hi); (try clear ho0); have hcz17_0 : w16.cell? ⟨gb211, 0, none⟩ = some (.string a0_0) := (blk_cell BK211.out 0).trans rfl; have hcz17_1 : w16.cell? ⟨gb211, 1, none⟩ = some (.int .i64 a0_1) := (blk_cell BK211.out 1).trans rfl; have hcz17_2 : w16.cell? ⟨gb211, 2, none⟩ = some (.slice A0_2 l0_2.length c0_2) := (blk_cell BK211.out 2).trans rfl; have hfz17_0 := blk_frozen BK211.out 0; have hfz17_1 := blk_frozen BK211.out 1; have hfz17_2 := blk_frozen BK211.out 2) | ((with_reducible refine gate_callee (f := 10) rfl ?_); refine goesL_ (some 33) rfl rfl Tryd.func10 (by kernel_rfl) rfl #[.agg #[.string a0_0, .int .i64 a0_1, .slice A0_2 l0_2.length c0_2], .int .i64 a1, .int .i64 a2] rfl (by (try simp only [List.map_toArray, List.map_cons, List.map_nil]); first | done | rfl | (simp only [List.length_drop, List.length_take]; rfl)) ?_; (with_reducible refine (zone_One.calls k a0_0 a0_1 _ _ l0_2 a1 a2 t223 t224 _ ?side1 ?side2 A8.out).mono ?_); (case side1 => repeat (first | exact (Kd.C_below HR0_2.out HB.out) | (with_reducible refine Kd.C_alloc ?_ _) | (with_reducible refine Kd.C_drewN ?_ _) | (with_reducible refine Kd.C_drew ?_))); (case side2 => exact HC0_2.out); rintro e w18 ⟨rfl, hb⟩; refine ⟨_, rfl, ?_⟩; have n0_ := Aside0.mk (Kd.R_below (by (with_reducible repeat (first | apply Kd.R_alloc | apply Kd.R_drewN | apply Kd.R_drew)); exact HO216.out) hb); have n1_ := Aside0.mk (Kd.R_below (by (with_reducible repeat (first | apply Kd.R_alloc | apply Kd.R_drewN | apply Kd.R_drew)); exact HO221.out) hb); have n2_ := Aside0.mk (blk_below (g := gb211) (o := .cells #[.string a0_0, .int .i64 a0_1, .slice A0_2 l0_2.length c0_2] 24 (0, 0)) (by (with_reducible repeat (first | refine blk_drewN ?_ _ | refine blk_drew ?_ | refine blk_alloc ?_ _)); exact BK211.out) hb); have n3_ := Aside0.mk (below_step (by repeat (first | (with_reducible first | exact HB.out | apply below_alloc | apply pw_below_drewN | apply below_drew1 | refine below_set ?_ GE211.out) | exact HB.out)) hb); clear HO216; clear HO221; clear BK211; clear HB; have HO216 := n0_; have HO221 := n1_; have BK211 := n2_; have HB := n3_; clear n0_ n1_ n2_ n3_; (try clear hb); (try clear hb2); (try clear hk); (try clear hi); have hcz19_0 : w18.cell? ⟨gb211, 0, none⟩ = some (.string a0_0) := (blk_cell BK211.out 0).trans rfl; have hcz19_1 : w18.cell? ⟨gb211, 1, none⟩ = some (.int .i64 a0_1) := (blk_cell BK211.out 1).trans rfl; have hcz19_2 : w18.cell? ⟨gb211, 2, none⟩ = some (.slice A0_2 l0_2.length c0_2) := (blk_cell BK211.out 2).trans rfl; have hfz19_0 := blk_frozen BK211.out 0; have hfz19_1 := blk_frozen BK211.out 1; have hfz19_2 := blk_frozen BK211.out 2) | ((with_reducible refine gate_callee (f := 13) rfl ?_); refine goesL_ (some 37) rfl rfl Tryd.func13 (by kernel_rfl) rfl #[.agg #[.string a0_0, .int .i64 a0_1, .slice A0_2 l0_2.length c0_2]] rfl (by (try simp only [List.map_toArray, List.map_cons, List.map_nil]); first | done | rfl | (simp only [List.length_drop, List.length_take]; rfl)) ?_; (with_reducible refine (ephemerisref1_ZoneError.calls k a0_0 a0_1 _ _ l0_2 t225 _ ?side1 ?side2 A9.out).mono ?_); (case side1 => repeat (first | exact (Kd.C_below HR0_2.out HB.out) | (with_reducible refine Kd.C_alloc ?_ _) | (with_reducible refine Kd.C_drewN ?_ _) | (with_reducible refine Kd.C_drew ?_))); (case side2 => exact HC0_2.out); rintro e w20 ⟨rfl, hb⟩; refine ⟨_, rfl, ?_⟩; have n0_ := Aside0.mk (Kd.R_below (by (with_reducible repeat (first | apply Kd.R_alloc | apply Kd.R_drewN | apply Kd.R_drew)); exact HO216.out) hb); have n1_ := Aside0.mk (Kd.R_below (by (with_reducible repeat (first | apply Kd.R_alloc | apply Kd.R_drewN | apply Kd.R_drew)); exact HO221.out) hb); have n2_ := Aside0.mk (blk_below (g := gb211) (o := .cells #[.string a0_0, .int .i64 a0_1, .slice A0_2 l0_2.length c0_2] 24 (0, 0)) (by (with_reducible repeat (first | refine blk_drewN ?_ _ | refine blk_drew ?_ | refine blk_alloc ?_ _)); exact BK211.out) hb); have n3_ := Aside0.mk (below_step (by repeat (first | (with_reducible first | exact HB.out | apply below_alloc | apply pw_below_drewN | apply below_drew1 | refine below_set ?_ GE211.out) | exact HB.out)) hb); clear HO216; clear HO221; clear BK211; clear HB; have HO216 := n0_; have HO221 := n1_; have BK211 := n2_; have HB := n3_; clear n0_ n1_ n2_ n3_; (try clear hb); (try clear hb2); (try clear hk); (try clear hi)))
    (try simp only [Act.put, List.setIfInBounds_toArray, List.set_cons_zero, List.set_cons_succ])
    go_cut [13] (fun v13 wc => ∃ (kq : Nat) (x13_9 : Int), v13 = .int .i64 x13_9 ∧ Aside0 (ephemerislaw1_ZoneInstants.j0 kq a1 a2 t219 t222 t223 t224 x13_9 a0_0 a0_1 l0_2 = some r) ∧ Aside0 (kq ≤ k) ∧ Aside0 (Kd.R (Kd.int .i64) 3 wc w.heap.size (fun _ => True) v220 t219) ∧ Aside0 (wc.heap[gb211]? = some (.cells #[.string a0_0, .int .i64 a0_1, (.slice A0_2 l0_2.length c0_2)] 24 (0, 0))) ∧ Aside0 (Below w.heap.size w wc))
    case first =>
      have H := HC10.out
      clear HC10
      by_cases c21 : t225 = 0
      · rw [if_pos c21] at H
        have c21b0 : (t225 == 0) = true := beq_iff_eq.mpr c21
        have c21b1 : (t225 != 0) = false := bne_eq_false_iff_eq.mpr c21
        clear c21
        (first | rw [c21b0] | (simp only [i64_w, i32_w]; rw [c21b0]) | skip)
        replace H := Option.bind_eq_some_iff.mp H
        obtain ⟨t226, A220, H⟩ := H
        replace H : (if t226 = true then ((ephemerisref1_In.f a2 0 86399999).bind fun t227 => (if t227 = true then (ephemerislaw1_ZoneInstants.j0 k a1 a2 t219 t222 t223 t224 t225 a0_0 a0_1 l0_2) else (ephemerislaw1_ZoneInstants.j0 k a1 a2 t219 t222 t223 t224 1 a0_0 a0_1 l0_2))) else (ephemerislaw1_ZoneInstants.j0 k a1 a2 t219 t222 t223 t224 3 a0_0 a0_1 l0_2)) = some r := H
        have A22 := Aside0.mk A220
        clear A220
        by_cases c23 : t226 = true
        · subst c23
          have H1 : ((ephemerisref1_In.f a2 0 86399999).bind fun t227 => (if t227 = true then (ephemerislaw1_ZoneInstants.j0 k a1 a2 t219 t222 t223 t224 t225 a0_0 a0_1 l0_2) else (ephemerislaw1_ZoneInstants.j0 k a1 a2 t219 t222 t223 t224 1 a0_0 a0_1 l0_2))) = some r := by rw [if_pos rfl] at H; exact H
          clear H
          have H := H1
          clear H1
          replace H := Option.bind_eq_some_iff.mp H
          obtain ⟨t227, A240, H⟩ := H
          replace H : (if t227 = true then (ephemerislaw1_ZoneInstants.j0 k a1 a2 t219 t222 t223 t224 t225 a0_0 a0_1 l0_2) else (ephemerislaw1_ZoneInstants.j0 k a1 a2 t219 t222 t223 t224 1 a0_0 a0_1 l0_2)) = some r := H
          have A24 := Aside0.mk A240
          clear A240
          by_cases c25 : t227 = true
          · subst c25
            have H1 : (ephemerislaw1_ZoneInstants.j0 k a1 a2 t219 t222 t223 t224 t225 a0_0 a0_1 l0_2) = some r := by rw [if_pos rfl] at H; exact H
            clear H
            have H := H1
            clear H1
            have H' := Aside0.mk H
            clear H
            go_wp2_with (first | ((with_reducible refine gate_callee (f := 14) rfl ?_); refine goesL_ (some 43) rfl rfl Tryd.func14 (by kernel_rfl) rfl #[.int .i64 a1] rfl (by (try simp only [List.map_toArray, List.map_cons, List.map_nil]); first | done | rfl | (simp only [List.length_drop, List.length_take]; rfl)) ?_; (with_reducible refine (ephemerisref1_Day.calls a1 true _ A22.out).mono ?_); rintro e w' ⟨rfl, ⟨nd, rfl⟩⟩; refine ⟨_, rfl, ?_⟩) | ((with_reducible refine gate_callee (f := 15) rfl ?_); refine goesL_ (some 47) rfl rfl Tryd.func15 (by kernel_rfl) rfl #[.int .i64 a2, .int .i64 0, .int .i64 86399999] rfl (by (try simp only [List.map_toArray, List.map_cons, List.map_nil]); first | done | rfl | (simp only [List.length_drop, List.length_take]; rfl)) ?_; (with_reducible refine (ephemerisref1_In.calls a2 0 86399999 true _ A24.out).mono ?_); rintro e w' ⟨rfl, ⟨nd, rfl⟩⟩; refine ⟨_, rfl, ?_⟩))
            go_meet
            case rel => exact ⟨_, (t225), (by first | rfl | (simp; done) | (simp [*]; done)), H', ⟨by first | omega | exact Nat.le_refl _⟩, ⟨by (with_reducible repeat (first | apply Kd.R_alloc | apply Kd.R_drewN | apply Kd.R_drew)); exact HO221.out⟩, ⟨by (with_reducible repeat (first | refine blk_drewN ?_ _ | refine blk_drew ?_ | refine blk_alloc ?_ _)); exact BK211.out⟩, ⟨by repeat (first | (with_reducible first | exact HB.out | apply below_alloc | apply pw_below_drewN | apply below_drew1 | refine below_set ?_ GE211.out) | exact HB.out)⟩⟩
          · replace c25 := Bool.eq_false_iff.mpr c25
            subst c25
            have H1 : (ephemerislaw1_ZoneInstants.j0 k a1 a2 t219 t222 t223 t224 1 a0_0 a0_1 l0_2) = some r := by rw [if_neg (show ¬ (false = true) by decide)] at H; exact H
            clear H
            have H := H1
            clear H1
            have H' := Aside0.mk H
            clear H
            go_wp2_with (first | ((with_reducible refine gate_callee (f := 14) rfl ?_); refine goesL_ (some 43) rfl rfl Tryd.func14 (by kernel_rfl) rfl #[.int .i64 a1] rfl (by (try simp only [List.map_toArray, List.map_cons, List.map_nil]); first | done | rfl | (simp only [List.length_drop, List.length_take]; rfl)) ?_; (with_reducible refine (ephemerisref1_Day.calls a1 true _ A22.out).mono ?_); rintro e w' ⟨rfl, ⟨nd, rfl⟩⟩; refine ⟨_, rfl, ?_⟩) | ((with_reducible refine gate_callee (f := 15) rfl ?_); refine goesL_ (some 47) rfl rfl Tryd.func15 (by kernel_rfl) rfl #[.int .i64 a2, .int .i64 0, .int .i64 86399999] rfl (by (try simp only [List.map_toArray, List.map_cons, List.map_nil]); first | done | rfl | (simp only [List.length_drop, List.length_take]; rfl)) ?_; (with_reducible refine (ephemerisref1_In.calls a2 0 86399999 false _ A24.out).mono ?_); rintro e w' ⟨rfl, ⟨nd, rfl⟩⟩; refine ⟨_, rfl, ?_⟩))
            go_meet
            case rel => exact ⟨_, (1), (by first | rfl | (simp; done) | (simp [*]; done)), H', ⟨by first | omega | exact Nat.le_refl _⟩, ⟨by (with_reducible repeat (first | apply Kd.R_alloc | apply Kd.R_drewN | apply Kd.R_drew)); exact HO221.out⟩, ⟨by (with_reducible repeat (first | refine blk_drewN ?_ _ | refine blk_drew ?_ | refine blk_alloc ?_ _)); exact BK211.out⟩, ⟨by repeat (first | (with_reducible first | exact HB.out | apply below_alloc | apply pw_below_drewN | apply below_drew1 | refine below_set ?_ GE211.out) | exact HB.out)⟩⟩
        · replace c23 := Bool.eq_false_iff.mpr c23
          subst c23
          have H1 : (ephemerislaw1_ZoneInstants.j0 k a1 a2 t219 t222 t223 t224 3 a0_0 a0_1 l0_2) = some r := by rw [if_neg (show ¬ (false = true) by decide)] at H; exact H
          clear H
          have H := H1
          clear H1
          have H' := Aside0.mk H
          clear H
          go_wp2_with (first | ((with_reducible refine gate_callee (f := 14) rfl ?_); refine goesL_ (some 43) rfl rfl Tryd.func14 (by kernel_rfl) rfl #[.int .i64 a1] rfl (by (try simp only [List.map_toArray, List.map_cons, List.map_nil]); first | done | rfl | (simp only [List.length_drop, List.length_take]; rfl)) ?_; (with_reducible refine (ephemerisref1_Day.calls a1 false _ A22.out).mono ?_); rintro e w' ⟨rfl, ⟨nd, rfl⟩⟩; refine ⟨_, rfl, ?_⟩))
          go_meet
          case rel => exact ⟨_, (3), (by first | rfl | (simp; done) | (simp [*]; done)), H', ⟨by first | omega | exact Nat.le_refl _⟩, ⟨by (with_reducible repeat (first | apply Kd.R_alloc | apply Kd.R_drewN | apply Kd.R_drew)); exact HO221.out⟩, ⟨by (with_reducible repeat (first | refine blk_drewN ?_ _ | refine blk_drew ?_ | refine blk_alloc ?_ _)); exact BK211.out⟩, ⟨by repeat (first | (with_reducible first | exact HB.out | apply below_alloc | apply pw_below_drewN | apply below_drew1 | refine below_set ?_ GE211.out) | exact HB.out)⟩⟩
      · rw [if_neg c21] at H
        have c21b0 : (t225 == 0) = false := beq_eq_false_iff_ne.mpr c21
        have c21b1 : (t225 != 0) = true := bne_iff_ne.mpr c21
        (first | rw [c21b0] | (simp only [i64_w, i32_w]; rw [c21b0]) | skip)
        have H' := Aside0.mk H
        clear H
        go_wp2
        go_meet
        case rel => exact ⟨_, (t225), (by first | rfl | (simp; done) | (simp [*]; done)), H', ⟨by first | omega | exact Nat.le_refl _⟩, ⟨by (with_reducible repeat (first | apply Kd.R_alloc | apply Kd.R_drewN | apply Kd.R_drew)); exact HO221.out⟩, ⟨by (with_reducible repeat (first | refine blk_drewN ?_ _ | refine blk_drew ?_ | refine blk_alloc ?_ _)); exact BK211.out⟩, ⟨by repeat (first | (with_reducible first | exact HB.out | apply below_alloc | apply pw_below_drewN | apply below_drew1 | refine below_set ?_ GE211.out) | exact HB.out)⟩⟩
    case rest =>
      clear HC10
      try clear c1
      try clear c2
      try clear p2
      try clear c3
      try clear c6
      try clear c6b0
      try clear c6b1
      try clear c10
      try clear c11
      try clear c12
      try clear c13
      try clear c14
      try clear c15
      try clear c21
      try clear c21b0
      try clear c21b1
      try clear c23
      try clear c25
      try clear hcz15_0
      try clear hcz15_1
      try clear hcz15_2
      try clear hcz17_0
      try clear hcz17_1
      try clear hcz17_2
      try clear hcz19_0
      try clear hcz19_1
      try clear hcz19_2
      try clear hfz15_0
      try clear hfz15_1
      try clear hfz15_2
      try clear hfz17_0
      try clear hfz17_1
      try clear hfz17_2
      try clear hfz19_0
      try clear hfz19_1
      try clear hfz19_2
      obtain ⟨kq, x13_9, rfl, HA, HJ9, HO_9, BK211, HB⟩ := hcut
      cases kq with
      | zero => exact absurd HA.out (by simp [ephemerislaw1_ZoneInstants.j0])
      | succ kj9 =>
        have H := HA.out
        clear HA
        simp only [ephemerislaw1_ZoneInstants.j0] at H
        by_cases c26 : x13_9 = 0
        · rw [if_pos c26] at H
          have c26b0 : (x13_9 == 0) = true := beq_iff_eq.mpr c26
          have c26b1 : (x13_9 != 0) = false := bne_eq_false_iff_eq.mpr c26
          clear c26
          replace H := Option.bind_eq_some_iff.mp H
          obtain ⟨t228, A270, H⟩ := H
          replace H : (if t222 = 0 then ((ephemerisref1_SameInts.f kj9 t219 t228).bind fun t231 => (ephemerislaw1_ZoneInstants.j1 kj9 t223 t224 t228 (!t231))) else (ephemerislaw1_ZoneInstants.j1 kj9 t223 t224 t228 true)) = some r := H
          have A27 := Aside0.mk A270
          clear A270
          have HC28 := Aside0.mk H
          clear H
          have hcz29_0 : wc.cell? ⟨gb211, 0, none⟩ = some (.string a0_0) := (blk_cell BK211.out 0).trans rfl
          have hcz29_1 : wc.cell? ⟨gb211, 1, none⟩ = some (.int .i64 a0_1) := (blk_cell BK211.out 1).trans rfl
          have hcz29_2 : wc.cell? ⟨gb211, 2, none⟩ = some (.slice A0_2 l0_2.length c0_2) := (blk_cell BK211.out 2).trans rfl
          have hfz29_0 := blk_frozen BK211.out 0
          have hfz29_1 := blk_frozen BK211.out 1
          have hfz29_2 := blk_frozen BK211.out 2
          go_upto_region 15 with (first | ((with_reducible refine gate_callee (f := 16) rfl ?_); refine goesL_ (some 71) rfl rfl Tryd.func16 (by kernel_rfl) rfl #[.agg #[.string a0_0, .int .i64 a0_1, .slice A0_2 l0_2.length c0_2], .int .i64 a1, .int .i64 a2] rfl (by (try simp only [List.map_toArray, List.map_cons, List.map_nil]); first | done | rfl | (simp only [List.length_drop, List.length_take]; rfl)) ?_; (with_reducible refine (ephemerisref1_LocalInstants.calls kj9 a0_0 a0_1 _ _ l0_2 a1 a2 t228 _ ?side1 ?side2 A27.out).mono ?_); (case side1 => repeat (first | exact (Kd.C_below HR0_2.out HB.out) | (with_reducible refine Kd.C_alloc ?_ _) | (with_reducible refine Kd.C_drewN ?_ _) | (with_reducible refine Kd.C_drew ?_))); (case side2 => exact HC0_2.out); rintro e w30 ⟨v229, rfl, ho0, hb⟩; refine ⟨_, rfl, ?_⟩; have n0_ := Aside0.mk (Kd.R_elder' (by (with_reducible repeat (first | apply Kd.R_alloc | apply Kd.R_drewN | apply Kd.R_drew)); exact HO_9.out) (Kd.R_base ho0) hb); have n1_ := Aside0.mk (Kd.R_lower (Kd.R_new' ho0 (Kd.R_lt (by (with_reducible repeat (first | apply Kd.R_alloc | apply Kd.R_drewN | apply Kd.R_drew)); exact HO_9.out))) (below_size (by repeat (first | (with_reducible first | exact HB.out | apply below_alloc | apply pw_below_drewN | apply below_drew1 | refine below_set ?_ GE211.out) | exact HB.out)))); have n2_ := Aside0.mk (blk_below (g := gb211) (o := .cells #[.string a0_0, .int .i64 a0_1, .slice A0_2 l0_2.length c0_2] 24 (0, 0)) (by (with_reducible repeat (first | refine blk_drewN ?_ _ | refine blk_drew ?_ | refine blk_alloc ?_ _)); exact BK211.out) hb); have n3_ := Aside0.mk (below_step (by repeat (first | (with_reducible first | exact HB.out | apply below_alloc | apply pw_below_drewN | apply below_drew1 | refine below_set ?_ GE211.out) | exact HB.out)) hb); clear HO_9; clear BK211; clear HB; have HO_9 := n0_; have HO230 := n1_; have BK211 := n2_; have HB := n3_; clear n0_ n1_ n2_ n3_; (try clear hb); (try clear hb2); (try clear hk); (try clear hi); (try clear ho0)))
          (try simp only [Act.put, List.setIfInBounds_toArray, List.set_cons_zero, List.set_cons_succ])
          go_cut [79] (fun v79 wc => ∃ (kq : Nat) (x79_27 : Bool), v79 = .bool x79_27 ∧ Aside0 (ephemerislaw1_ZoneInstants.j1 kq t223 t224 t228 x79_27 = some r) ∧ Aside0 (kq ≤ kj9) ∧ Aside0 (Kd.R (Kd.int .i64) 3 wc w.heap.size (fun _ => True) v229 t228) ∧ Aside0 (wc.heap[gb211]? = some (.cells #[.string a0_0, .int .i64 a0_1, (.slice A0_2 l0_2.length c0_2)] 24 (0, 0))) ∧ Aside0 (Below w.heap.size w wc))
          case first =>
            have H := HC28.out
            clear HC28
            by_cases c31 : t222 = 0
            · rw [if_pos c31] at H
              have c31b0 : (t222 == 0) = true := beq_iff_eq.mpr c31
              have c31b1 : (t222 != 0) = false := bne_eq_false_iff_eq.mpr c31
              clear c31
              (first | rw [c31b0] | (simp only [i64_w, i32_w]; rw [c31b0]) | skip)
              replace H := Option.bind_eq_some_iff.mp H
              obtain ⟨t231, A320, H⟩ := H
              replace H : (ephemerislaw1_ZoneInstants.j1 kj9 t223 t224 t228 (!t231)) = some r := H
              have A32 := Aside0.mk A320
              clear A320
              have H' := Aside0.mk H
              clear H
              obtain ⟨Ao33, co33, eo33⟩ := Kd.R_slice HO_9.out
              subst eo33
              obtain ⟨Ao34, co34, eo34⟩ := Kd.R_slice HO230.out
              subst eo34
              go_wp2_with (first | (go_at_call 17; (with_reducible refine (ephemerisref1_SameInts.calls kj9 _ _ t219 _ _ t228 t231 _ ?side1 ?side2 ?side3 ?side4 A32.out).mono ?_); (case side1 => repeat (first | exact (Kd.R_reads' HO_9.out).2.2 | (with_reducible refine Kd.C_alloc ?_ _) | (with_reducible refine Kd.C_drewN ?_ _) | (with_reducible refine Kd.C_drew ?_))); (case side2 => exact (Kd.R_reads' HO_9.out).2.1); (case side3 => repeat (first | exact (Kd.R_reads' HO230.out).2.2 | (with_reducible refine Kd.C_alloc ?_ _) | (with_reducible refine Kd.C_drewN ?_ _) | (with_reducible refine Kd.C_drew ?_))); (case side4 => exact (Kd.R_reads' HO230.out).2.1); rintro e w' ⟨rfl, ⟨nd, rfl⟩⟩))
              go_meet
              case rel => exact ⟨_, (!t231), (by first | rfl | (simp; done) | (simp [*]; done)), H', ⟨by have := HJ9.out; first | omega | exact Nat.le_refl _⟩, ⟨by (with_reducible repeat (first | apply Kd.R_alloc | apply Kd.R_drewN | apply Kd.R_drew)); exact Kd.R_mono HO230.out (fun _ hk => trivial)⟩, ⟨by (with_reducible repeat (first | refine blk_drewN ?_ _ | refine blk_drew ?_ | refine blk_alloc ?_ _)); exact BK211.out⟩, ⟨by repeat (first | (with_reducible first | exact HB.out | apply below_alloc | apply pw_below_drewN | apply below_drew1 | refine below_set ?_ GE211.out) | exact HB.out)⟩⟩
            · rw [if_neg c31] at H
              have c31b0 : (t222 == 0) = false := beq_eq_false_iff_ne.mpr c31
              have c31b1 : (t222 != 0) = true := bne_iff_ne.mpr c31
              (first | rw [c31b0] | (simp only [i64_w, i32_w]; rw [c31b0]) | skip)
              have H' := Aside0.mk H
              clear H
              go_wp2
              go_meet
              case rel => exact ⟨_, (true), (by first | rfl | (simp; done) | (simp [*]; done)), H', ⟨by have := HJ9.out; first | omega | exact Nat.le_refl _⟩, ⟨by (with_reducible repeat (first | apply Kd.R_alloc | apply Kd.R_drewN | apply Kd.R_drew)); exact Kd.R_mono HO230.out (fun _ hk => trivial)⟩, ⟨by (with_reducible repeat (first | refine blk_drewN ?_ _ | refine blk_drew ?_ | refine blk_alloc ?_ _)); exact BK211.out⟩, ⟨by repeat (first | (with_reducible first | exact HB.out | apply below_alloc | apply pw_below_drewN | apply below_drew1 | refine below_set ?_ GE211.out) | exact HB.out)⟩⟩
          case rest =>
            clear HC28
            try clear c1
            try clear c2
            try clear p2
            try clear c3
            try clear c6
            try clear c6b0
            try clear c6b1
            try clear c10
            try clear c11
            try clear c12
            try clear c13
            try clear c14
            try clear c15
            try clear c16
            try clear c21
            try clear c21b0
            try clear c21b1
            try clear c23
            try clear c25
            try clear c26
            try clear c26b0
            try clear c26b1
            try clear c31
            try clear c31b0
            try clear c31b1
            try clear hcz15_0
            try clear hcz15_1
            try clear hcz15_2
            try clear hcz17_0
            try clear hcz17_1
            try clear hcz17_2
            try clear hcz19_0
            try clear hcz19_1
            try clear hcz19_2
            try clear hcz29_0
            try clear hcz29_1
            try clear hcz29_2
            try clear hfz15_0
            try clear hfz15_1
            try clear hfz15_2
            try clear hfz17_0
            try clear hfz17_1
            try clear hfz17_2
            try clear hfz19_0
            try clear hfz19_1
            try clear hfz19_2
            try clear hfz29_0
            try clear hfz29_1
            try clear hfz29_2
            try clear p2
            obtain ⟨kq, x79_27, rfl, HA, HJ27, HO_14, BK211, HB⟩ := hcut
            cases kq with
            | zero => exact absurd HA.out (by simp [ephemerislaw1_ZoneInstants.j1])
            | succ kj27 =>
              have H := HA.out
              clear HA
              simp only [ephemerislaw1_ZoneInstants.j1] at H
              by_cases c35 : x79_27 = true
              · subst c35
                have H1 : (some false) = some r := by rw [if_pos rfl] at H; exact H
                clear H
                have H := H1
                clear H1
                obtain rfl := Option.some.inj H
                go_wp2
                go_ret
                exact ⟨by first | rfl | (simp [errW_none, errW_some] <;> rfl) | (simp [*, errW_none, errW_some] <;> rfl), by repeat (first | (with_reducible first | exact HB.out | apply below_alloc | apply pw_below_drewN | apply below_drew1 | refine below_set ?_ GE211.out) | exact HB.out)⟩
              · replace c35 := Bool.eq_false_iff.mpr c35
                subst c35
                have H1 : (if (t228.length : Int) = 0 then (if t223 = 0 then (some (t224 == 15)) else (some false)) else (if (t228.length : Int) = 1 then (if 0 < (t228.length : Int) then (if t223 = (rd t228 0) then (some (t224 == 0)) else (some false)) else (none)) else (if t223 = 0 then (some (t224 == 16)) else (some false)))) = some r := by rw [if_neg (show ¬ (false = true) by decide)] at H; exact H
                clear H
                have H := H1
                clear H1
                by_cases c36 : (t228.length : Int) = 0
                · rw [if_pos c36] at H
                  have c36b0 : ((t228.length : Int) == 0) = true := beq_iff_eq.mpr c36
                  have c36b1 : ((t228.length : Int) != 0) = false := bne_eq_false_iff_eq.mpr c36
                  clear c36
                  by_cases c37 : t223 = 0
                  · rw [if_pos c37] at H
                    have c37b0 : (t223 == 0) = true := beq_iff_eq.mpr c37
                    have c37b1 : (t223 != 0) = false := bne_eq_false_iff_eq.mpr c37
                    clear c37
                    obtain rfl := Option.some.inj H
                    obtain ⟨Ao38, co38, eo38⟩ := Kd.R_slice HO_14.out
                    subst eo38
                    go_wp2
                    go_ret
                    exact ⟨by first | rfl | (simp [errW_none, errW_some] <;> rfl) | (simp [*, errW_none, errW_some] <;> rfl), by repeat (first | (with_reducible first | exact HB.out | apply below_alloc | apply pw_below_drewN | apply below_drew1 | refine below_set ?_ GE211.out) | exact HB.out)⟩
                  · rw [if_neg c37] at H
                    have c37b0 : (t223 == 0) = false := beq_eq_false_iff_ne.mpr c37
                    have c37b1 : (t223 != 0) = true := bne_iff_ne.mpr c37
                    obtain rfl := Option.some.inj H
                    obtain ⟨Ao39, co39, eo39⟩ := Kd.R_slice HO_14.out
                    subst eo39
                    go_wp2
                    go_ret
                    exact ⟨by first | rfl | (simp [errW_none, errW_some] <;> rfl) | (simp [*, errW_none, errW_some] <;> rfl), by repeat (first | (with_reducible first | exact HB.out | apply below_alloc | apply pw_below_drewN | apply below_drew1 | refine below_set ?_ GE211.out) | exact HB.out)⟩
                · rw [if_neg c36] at H
                  have c36b0 : ((t228.length : Int) == 0) = false := beq_eq_false_iff_ne.mpr c36
                  have c36b1 : ((t228.length : Int) != 0) = true := bne_iff_ne.mpr c36
                  have c36b2 : ¬ (t228 = []) := fun h_ => c36 (by rw [h_]; rfl)
                  by_cases c40 : (t228.length : Int) = 1
                  · rw [if_pos c40] at H
                    have c40b0 : ((t228.length : Int) == 1) = true := beq_iff_eq.mpr c40
                    have c40b1 : ((t228.length : Int) != 1) = false := bne_eq_false_iff_eq.mpr c40
                    clear c40
                    by_cases c41 : 0 < (t228.length : Int)
                    · rw [if_pos c41] at H
                      have c41b0 : decide (0 < (t228.length : Int)) = true := decide_eq_true c41
                      have c41b1 : decide (0 < t228.length) = true := decide_eq_true (by omega)
                      clear c41
                      by_cases c42 : t223 = (rd t228 0)
                      · rw [if_pos c42] at H
                        have c42b0 : (t223 == (rd t228 0)) = true := beq_iff_eq.mpr c42
                        have c42b1 : (t223 != (rd t228 0)) = false := bne_eq_false_iff_eq.mpr c42
                        clear c42
                        obtain rfl := Option.some.inj H
                        obtain ⟨Ao43, co43, eo43⟩ := Kd.R_slice HO_14.out
                        subst eo43
                        have p232 : 0 ≤ (0 : Int) := (by omega)
                        have q232 : 0 < (t228.length : Int) := of_decide_eq_true (by first | (with_reducible assumption) | assumption)
                        obtain ⟨ad232, e232, hx232_0⟩ := Kd.at_int (Kd.R_reads' HO_14.out).2.2 0 p232 q232
                        cases e232
                        have qi232 : (0 < t228.length) = True := eq_true (by omega)
                        (try rw [show ((0 : Int)).toNat = 0 from rfl] at hx232_0)
                        (try rw [Addr.add_zero'] at hx232_0)
                        replace p232 := eq_true p232
                        replace q232 := eq_true q232
                        go_wp2
                        go_ret
                        exact ⟨by first | rfl | (simp [errW_none, errW_some] <;> rfl) | (simp [*, errW_none, errW_some] <;> rfl), by repeat (first | (with_reducible first | exact HB.out | apply below_alloc | apply pw_below_drewN | apply below_drew1 | refine below_set ?_ GE211.out) | exact HB.out)⟩
                      · rw [if_neg c42] at H
                        have c42b0 : (t223 == (rd t228 0)) = false := beq_eq_false_iff_ne.mpr c42
                        have c42b1 : (t223 != (rd t228 0)) = true := bne_iff_ne.mpr c42
                        obtain rfl := Option.some.inj H
                        obtain ⟨Ao44, co44, eo44⟩ := Kd.R_slice HO_14.out
                        subst eo44
                        have p232 : 0 ≤ (0 : Int) := (by omega)
                        have q232 : 0 < (t228.length : Int) := of_decide_eq_true (by first | (with_reducible assumption) | assumption)
                        obtain ⟨ad232, e232, hx232_0⟩ := Kd.at_int (Kd.R_reads' HO_14.out).2.2 0 p232 q232
                        cases e232
                        have qi232 : (0 < t228.length) = True := eq_true (by omega)
                        (try rw [show ((0 : Int)).toNat = 0 from rfl] at hx232_0)
                        (try rw [Addr.add_zero'] at hx232_0)
                        replace p232 := eq_true p232
                        replace q232 := eq_true q232
                        go_wp2
                        go_ret
                        exact ⟨by first | rfl | (simp [errW_none, errW_some] <;> rfl) | (simp [*, errW_none, errW_some] <;> rfl), by repeat (first | (with_reducible first | exact HB.out | apply below_alloc | apply pw_below_drewN | apply below_drew1 | refine below_set ?_ GE211.out) | exact HB.out)⟩
                    · rw [if_neg c41] at H
                      exact absurd H (by simp)
                  · rw [if_neg c40] at H
                    have c40b0 : ((t228.length : Int) == 1) = false := beq_eq_false_iff_ne.mpr c40
                    have c40b1 : ((t228.length : Int) != 1) = true := bne_iff_ne.mpr c40
                    by_cases c45 : t223 = 0
                    · rw [if_pos c45] at H
                      have c45b0 : (t223 == 0) = true := beq_iff_eq.mpr c45
                      have c45b1 : (t223 != 0) = false := bne_eq_false_iff_eq.mpr c45
                      clear c45
                      obtain rfl := Option.some.inj H
                      obtain ⟨Ao46, co46, eo46⟩ := Kd.R_slice HO_14.out
                      subst eo46
                      go_wp2
                      go_ret
                      exact ⟨by first | rfl | (simp [errW_none, errW_some] <;> rfl) | (simp [*, errW_none, errW_some] <;> rfl), by repeat (first | (with_reducible first | exact HB.out | apply below_alloc | apply pw_below_drewN | apply below_drew1 | refine below_set ?_ GE211.out) | exact HB.out)⟩
                    · rw [if_neg c45] at H
                      have c45b0 : (t223 == 0) = false := beq_eq_false_iff_ne.mpr c45
                      have c45b1 : (t223 != 0) = true := bne_iff_ne.mpr c45
                      obtain rfl := Option.some.inj H
                      obtain ⟨Ao47, co47, eo47⟩ := Kd.R_slice HO_14.out
                      subst eo47
                      go_wp2
                      go_ret
                      exact ⟨by first | rfl | (simp [errW_none, errW_some] <;> rfl) | (simp [*, errW_none, errW_some] <;> rfl), by repeat (first | (with_reducible first | exact HB.out | apply below_alloc | apply pw_below_drewN | apply below_drew1 | refine below_set ?_ GE211.out) | exact HB.out)⟩
        · rw [if_neg c26] at H
          have c26b0 : (x13_9 == 0) = false := beq_eq_false_iff_ne.mpr c26
          have c26b1 : (x13_9 != 0) = true := bne_iff_ne.mpr c26
          by_cases c48 : (t219.length : Int) = 0
          · rw [if_pos c48] at H
            have c48b0 : ((t219.length : Int) == 0) = true := beq_iff_eq.mpr c48
            have c48b1 : ((t219.length : Int) != 0) = false := bne_eq_false_iff_eq.mpr c48
            clear c48
            by_cases c49 : t222 = x13_9
            · rw [if_pos c49] at H
              have c49b0 : (t222 == x13_9) = true := beq_iff_eq.mpr c49
              have c49b1 : (t222 != x13_9) = false := bne_eq_false_iff_eq.mpr c49
              clear c49
              by_cases c50 : t223 = 0
              · rw [if_pos c50] at H
                have c50b0 : (t223 == 0) = true := beq_iff_eq.mpr c50
                have c50b1 : (t223 != 0) = false := bne_eq_false_iff_eq.mpr c50
                clear c50
                obtain rfl := Option.some.inj H
                obtain ⟨Ao51, co51, eo51⟩ := Kd.R_slice HO_9.out
                subst eo51
                go_wp2
                go_ret
                exact ⟨by first | rfl | (simp [errW_none, errW_some] <;> rfl) | (simp [*, errW_none, errW_some] <;> rfl), by repeat (first | (with_reducible first | exact HB.out | apply below_alloc | apply pw_below_drewN | apply below_drew1 | refine below_set ?_ GE211.out) | exact HB.out)⟩
              · rw [if_neg c50] at H
                have c50b0 : (t223 == 0) = false := beq_eq_false_iff_ne.mpr c50
                have c50b1 : (t223 != 0) = true := bne_iff_ne.mpr c50
                obtain rfl := Option.some.inj H
                obtain ⟨Ao52, co52, eo52⟩ := Kd.R_slice HO_9.out
                subst eo52
                go_wp2
                go_ret
                exact ⟨by first | rfl | (simp [errW_none, errW_some] <;> rfl) | (simp [*, errW_none, errW_some] <;> rfl), by repeat (first | (with_reducible first | exact HB.out | apply below_alloc | apply pw_below_drewN | apply below_drew1 | refine below_set ?_ GE211.out) | exact HB.out)⟩
            · rw [if_neg c49] at H
              have c49b0 : (t222 == x13_9) = false := beq_eq_false_iff_ne.mpr c49
              have c49b1 : (t222 != x13_9) = true := bne_iff_ne.mpr c49
              obtain rfl := Option.some.inj H
              obtain ⟨Ao53, co53, eo53⟩ := Kd.R_slice HO_9.out
              subst eo53
              go_wp2
              go_ret
              exact ⟨by first | rfl | (simp [errW_none, errW_some] <;> rfl) | (simp [*, errW_none, errW_some] <;> rfl), by repeat (first | (with_reducible first | exact HB.out | apply below_alloc | apply pw_below_drewN | apply below_drew1 | refine below_set ?_ GE211.out) | exact HB.out)⟩
          · rw [if_neg c48] at H
            have c48b0 : ((t219.length : Int) == 0) = false := beq_eq_false_iff_ne.mpr c48
            have c48b1 : ((t219.length : Int) != 0) = true := bne_iff_ne.mpr c48
            have c48b2 : ¬ (t219 = []) := fun h_ => c48 (by rw [h_]; rfl)
            obtain rfl := Option.some.inj H
            obtain ⟨Ao54, co54, eo54⟩ := Kd.R_slice HO_9.out
            subst eo54
            go_wp2
            go_ret
            exact ⟨by first | rfl | (simp [errW_none, errW_some] <;> rfl) | (simp [*, errW_none, errW_some] <;> rfl), by repeat (first | (with_reducible first | exact HB.out | apply below_alloc | apply pw_below_drewN | apply below_drew1 | refine below_set ?_ GE211.out) | exact HB.out)⟩
  · rw [if_neg c6] at H
    have c6b0 : (t218 == 15) = false := beq_eq_false_iff_ne.mpr c6
    have c6b1 : (t218 != 15) = true := bne_iff_ne.mpr c6
    obtain rfl := Option.some.inj H
    go_enter Tryd.func3, Tryd.ntmps3
    go_wp2_with (first | ((with_reducible refine gate_dst (N := 3) rfl ?_); refine box_event ?hg (N := 3) ?hd (cs := #[.string a0_0, .int .i64 a0_1, .slice A0_2 l0_2.length c0_2]) (t := 24) ?hr ?_; (case hd => rfl); (case hg => rfl); (case hr => first | (go_simp; done) | (go_simp; rfl)); intro gb211 hg w55 hbox hb; have n0_ := Aside0.mk (below_step (by repeat (first | (with_reducible first | exact HB.out | apply below_alloc | apply pw_below_drewN | apply below_drew1) | exact HB.out)) hb); have n1_ := Aside0.mk (hbox); have n2_ := Aside0.mk ((by rw [hg]; exact (below_size (by repeat (first | (with_reducible first | exact HB.out | apply below_alloc | apply pw_below_drewN | apply below_drew1) | exact HB.out))) : w.heap.size ≤ gb211)); have n3_ := Aside0.mk ((by rw [hg]; exact (below_size (by repeat (first | (with_reducible first | exact HB.out | apply below_alloc | apply pw_below_drewN | apply below_drew1) | exact HB.out))) : w.heap.size ≤ gb211)); clear HB; have HB := n0_; have BK211 := n1_; have GW211 := n2_; have GE211 := n3_; clear n0_ n1_ n2_ n3_; clear hb hbox hg) | ((with_reducible refine gate_callee (f := 11) rfl ?_); refine goesL_ (some 16) rfl rfl Tryd.func11 (by kernel_rfl) rfl #[] rfl (by (try simp only [List.map_toArray, List.map_cons, List.map_nil]); first | done | rfl | (simp only [List.length_drop, List.length_take]; rfl)) ?_; (with_reducible refine (ephemerislaw1_base.calls  t212 t213 t214 _ A4.out).mono ?_); rintro e w56 ⟨v215, rfl, ho0, hb⟩; refine ⟨_, rfl, ?_⟩; have n0_ := Aside0.mk (Kd.R_lower ho0 (below_size (by repeat (first | (with_reducible first | exact HB.out | apply below_alloc | apply pw_below_drewN | apply below_drew1 | refine below_set ?_ GE211.out) | exact HB.out)))); have n1_ := Aside0.mk (blk_below (g := gb211) (o := .cells #[.string a0_0, .int .i64 a0_1, .slice A0_2 l0_2.length c0_2] 24 (0, 0)) (by (with_reducible repeat (first | refine blk_drewN ?_ _ | refine blk_drew ?_ | refine blk_alloc ?_ _)); exact BK211.out) hb); have n2_ := Aside0.mk (below_step (by repeat (first | (with_reducible first | exact HB.out | apply below_alloc | apply pw_below_drewN | apply below_drew1 | refine below_set ?_ GE211.out) | exact HB.out)) hb); clear BK211; clear HB; have HO216 := n0_; have BK211 := n1_; have HB := n2_; clear n0_ n1_ n2_; (try clear hb); (try clear hb2); (try clear hk); (try clear hi); (try clear ho0); obtain ⟨Ao57, co57, eo57⟩ := Kd.R_slice HO216.out; subst eo57) | ((with_reducible refine gate_callee (f := 10) rfl ?_); refine goesL_ (some 17) rfl rfl Tryd.func10 (by kernel_rfl) rfl #[.agg #[.string t212, .int .i64 t213, .slice Ao57 t214.length co57], .int .i64 0, .int .i64 5400000] rfl (by (try simp only [List.map_toArray, List.map_cons, List.map_nil]); first | done | rfl | (simp only [List.length_drop, List.length_take]; rfl)) ?_; (with_reducible refine (zone_One.calls k t212 t213 _ _ t214 0 5400000 t217 t218 _ ?side1 ?side2 A5.out).mono ?_); (case side1 => repeat (first | exact (Kd.R_reads' HO216.out).2.2 | (with_reducible refine Kd.C_alloc ?_ _) | (with_reducible refine Kd.C_drewN ?_ _) | (with_reducible refine Kd.C_drew ?_))); (case side2 => exact (Kd.R_reads' HO216.out).2.1); rintro e w58 ⟨rfl, hb⟩; refine ⟨_, rfl, ?_⟩; have n0_ := Aside0.mk (Kd.R_below (by (with_reducible repeat (first | apply Kd.R_alloc | apply Kd.R_drewN | apply Kd.R_drew)); exact HO216.out) hb); have n1_ := Aside0.mk (blk_below (g := gb211) (o := .cells #[.string a0_0, .int .i64 a0_1, .slice A0_2 l0_2.length c0_2] 24 (0, 0)) (by (with_reducible repeat (first | refine blk_drewN ?_ _ | refine blk_drew ?_ | refine blk_alloc ?_ _)); exact BK211.out) hb); have n2_ := Aside0.mk (below_step (by repeat (first | (with_reducible first | exact HB.out | apply below_alloc | apply pw_below_drewN | apply below_drew1 | refine below_set ?_ GE211.out) | exact HB.out)) hb); clear HO216; clear BK211; clear HB; have HO216 := n0_; have BK211 := n1_; have HB := n2_; clear n0_ n1_ n2_; (try clear hb); (try clear hb2); (try clear hk); (try clear hi)))
    go_ret
    exact ⟨by first | rfl | (simp [errW_none, errW_some] <;> rfl) | (simp [*, errW_none, errW_some] <;> rfl), by repeat (first | (with_reducible first | exact HB.out | apply below_alloc | apply pw_below_drewN | apply below_drew1 | refine below_set ?_ GE211.out) | exact HB.out)⟩

end Go.Proofs.YtolhlaadhfilnaaDoor.PZoneInstants
