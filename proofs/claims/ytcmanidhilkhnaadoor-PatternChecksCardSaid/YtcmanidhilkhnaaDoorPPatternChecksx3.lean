/- The walks of the functions of this part. The proof of pattern_Full (in part), pattern_Check (in part) is written by hand; the other ones are as the kit's print tells them. -/
-- The walks of the law's functions, told by a program.
import Derived.Test.YtcmanidhilkhnaaDoorPPatternChecksx0
import Derived.Test.YtcmanidhilkhnaaDoorPPatternChecksx1
import Derived.Test.YtcmanidhilkhnaaDoorPPatternChecksx2
namespace Go.Proofs.YtcmanidhilkhnaaDoor.PPatternChecks
open Go.RowKit Go.Proofs.YtcmanidhilkhnaaDoorW.PrintWords Go.Proofs.YtcmanidhilkhnaaDoorW.PrintLast Go.Proofs.YtcmanidhilkhnaaDoorW.PrintMore
attribute [local go_sem] max2_int min2_int max_two min_two max_three min_three max_four min_four   -- for this text's walks alone
set_option linter.unusedVariables false
set_option linter.unusedSimpArgs false

/-! ### pattern_Full: function 11 -/
def pattern_Full.f (k : Nat) (a0 : ByteArray) : Option (Bool × Int) := (pattern_split.f k a0).bind fun bt120 => (if bt120.2 = 0 then ((pattern_full.f k bt120.1).bind fun t124 => (some (t124, 0))) else (some (false, bt120.2)))
theorem pattern_Full.mono : ∀ a0 k, LeO (pattern_Full.f k a0) (pattern_Full.f (k + 1) a0) := by
  intro a0 k
  unfold pattern_Full.f
  repeat' first
      | (with_reducible exact pattern_full.mono _ _)
      | (with_reducible exact pattern_split.mono _ _)
      | (with_reducible exact LeO.refl _)
      | (with_reducible exact LeO.none _)
      | (with_reducible refine LeO.ite ?_ ?_)
      | (with_reducible refine LeO.bind ?_ (fun _ => ?_))
      | exact pattern_full.mono _ _
      | exact pattern_split.mono _ _
      | exact LeO.none _
      | refine LeO.ite ?_ ?_
      | refine LeO.bind ?_ (fun _ => ?_)
set_option maxHeartbeats 8000000 in
set_option maxRecDepth 100000 in
theorem pattern_Full.calls (k : Nat) (a0 : ByteArray) (r1 : Bool) (r2 : Int) (w : World) (hN : pattern_split.Tab w) (h : pattern_Full.f k a0 = some (r1, r2)) :
    Calls Tryd.prog 11 #[.string a0] w fun e w' => e = .returned (.tuple #[.bool r1, .int .i64 r2]) ∧ Below w.heap.size w w' := by
  have HB := Aside0.mk (Below.refl w.heap.size w)
  have H : ((pattern_split.f k a0).bind fun bt120 => (if bt120.2 = 0 then ((pattern_full.f k bt120.1).bind fun t124 => (some (t124, 0))) else (some (false, bt120.2)))) = some (r1, r2) := h
  clear h
  replace H := Option.bind_eq_some_iff.mp H
  obtain ⟨⟨t120, t121⟩, A20, H⟩ := H
  replace H : (if t121 = 0 then ((pattern_full.f k t120).bind fun t124 => (some (t124, 0))) else (some (false, t121))) = some (r1, r2) := H
  have A2 := Aside0.mk A20
  clear A20
  by_cases c3 : t121 = 0
  · rw [if_pos c3] at H
    have c3b0 : (t121 == 0) = true := beq_iff_eq.mpr c3
    have c3b1 : (t121 != 0) = false := bne_eq_false_iff_eq.mpr c3
    clear c3
    replace H := Option.bind_eq_some_iff.mp H
    obtain ⟨t124, A40, H⟩ := H
    replace H : (some (t124, 0)) = some (r1, r2) := H
    have A4 := Aside0.mk A40
    clear A40
    simp only [Option.some.injEq, Prod.mk.injEq] at H
    obtain ⟨rfl, rfl⟩ := H
    go_enter Tryd.func11, Tryd.ntmps11
    go_wp2_with (first | ((with_reducible refine gate_callee (f := 45) rfl ?_); refine goesL_ (some 8) rfl rfl Tryd.func45 (by kernel_rfl) rfl #[.string a0] rfl (by (try simp only [List.map_toArray, List.map_cons, List.map_nil]); first | done | rfl | (simp only [List.length_drop, List.length_take]; rfl)) ?_; (with_reducible refine (pattern_split.calls k a0 t120 t121 _ (hN.below (by repeat (first | (with_reducible first | exact HB.out | apply below_alloc | apply pw_below_drewN | apply below_drew1) | exact HB.out)) (Nat.le_refl _)) A2.out).mono ?_); rintro e w5 ⟨v122, rfl, ho0, hb⟩; refine ⟨_, rfl, ?_⟩; have n0_ := Aside0.mk (Kd.R_lower ho0 (below_size (by repeat (first | (with_reducible first | exact HB.out | apply below_alloc | apply pw_below_drewN | apply below_drew1) | exact HB.out)))); have n1_ := Aside0.mk (below_step (by repeat (first | (with_reducible first | exact HB.out | apply below_alloc | apply pw_below_drewN | apply below_drew1) | exact HB.out)) hb); clear HB; have HO123 := n0_; have HB := n1_; clear n0_ n1_; (try clear hb); (try clear hb2); (try clear hk); (try clear hi); (try clear ho0); obtain ⟨Ao6, co6, eo6⟩ := Kd.R_slice HO123.out; subst eo6) | ((with_reducible refine gate_callee (f := 46) rfl ?_); refine goesL_ (some 15) rfl rfl Tryd.func46 (by kernel_rfl) rfl #[.slice Ao6 t120.length co6] rfl (by (try simp only [List.map_toArray, List.map_cons, List.map_nil]); first | done | rfl | (simp only [List.length_drop, List.length_take]; rfl)) ?_; (with_reducible refine (pattern_full.calls k _ _ t120 t124 _ ?side1 ?side2 A4.out).mono ?_); (case side1 => repeat (first | exact (Kd.R_reads' HO123.out).2.2 | (with_reducible refine Kd.C_alloc ?_ _) | (with_reducible refine Kd.C_drewN ?_ _) | (with_reducible refine Kd.C_drew ?_))); (case side2 => exact (Kd.R_reads' HO123.out).2.1); rintro e w7 ⟨rfl, hb⟩; refine ⟨_, rfl, ?_⟩; have n0_ := Aside0.mk (Kd.R_below (by (with_reducible repeat (first | apply Kd.R_alloc | apply Kd.R_drewN | apply Kd.R_drew)); exact HO123.out) hb); have n1_ := Aside0.mk (below_step (by repeat (first | (with_reducible first | exact HB.out | apply below_alloc | apply pw_below_drewN | apply below_drew1) | exact HB.out)) hb); clear HO123; clear HB; have HO123 := n0_; have HB := n1_; clear n0_ n1_; (try clear hb); (try clear hb2); (try clear hk); (try clear hi)))
    go_ret2
    exact ⟨by first | rfl | (simp [errW_none, errW_some] <;> rfl) | (simp [*, errW_none, errW_some] <;> rfl), by repeat (first | (with_reducible first | exact HB.out | apply below_alloc | apply pw_below_drewN | apply below_drew1) | exact HB.out)⟩
  · rw [if_neg c3] at H
    have c3b0 : (t121 == 0) = false := beq_eq_false_iff_ne.mpr c3
    have c3b1 : (t121 != 0) = true := bne_iff_ne.mpr c3
    simp only [Option.some.injEq, Prod.mk.injEq] at H
    obtain ⟨rfl, rfl⟩ := H
    go_enter Tryd.func11, Tryd.ntmps11
    go_wp2_with (first | ((with_reducible refine gate_callee (f := 45) rfl ?_); refine goesL_ (some 8) rfl rfl Tryd.func45 (by kernel_rfl) rfl #[.string a0] rfl (by (try simp only [List.map_toArray, List.map_cons, List.map_nil]); first | done | rfl | (simp only [List.length_drop, List.length_take]; rfl)) ?_; (with_reducible refine (pattern_split.calls k a0 t120 t121 _ (hN.below (by repeat (first | (with_reducible first | exact HB.out | apply below_alloc | apply pw_below_drewN | apply below_drew1) | exact HB.out)) (Nat.le_refl _)) A2.out).mono ?_); rintro e w8 ⟨v122, rfl, ho0, hb⟩; refine ⟨_, rfl, ?_⟩; have n0_ := Aside0.mk (Kd.R_lower ho0 (below_size (by repeat (first | (with_reducible first | exact HB.out | apply below_alloc | apply pw_below_drewN | apply below_drew1) | exact HB.out)))); have n1_ := Aside0.mk (below_step (by repeat (first | (with_reducible first | exact HB.out | apply below_alloc | apply pw_below_drewN | apply below_drew1) | exact HB.out)) hb); clear HB; have HO123 := n0_; have HB := n1_; clear n0_ n1_; (try clear hb); (try clear hb2); (try clear hk); (try clear hi); (try clear ho0)))
    go_ret2
    exact ⟨by first | rfl | (simp [errW_none, errW_some] <;> rfl) | (simp [*, errW_none, errW_some] <;> rfl), by repeat (first | (with_reducible first | exact HB.out | apply below_alloc | apply pw_below_drewN | apply below_drew1) | exact HB.out)⟩

/-! ### stringslite_HasPrefix: function 89 -/
def stringslite_HasPrefix.f (a0 : ByteArray) (a1 : ByteArray) : Option (Bool) := if (a0.size : Int) ≥ (a1.size : Int) then (if 0 ≤ (a1.size : Int) then (if (a1.size : Int) ≤ (a0.size : Int) then (some ((a0.extract 0 ((a1.size : Int) : Int).toNat).toList == a1.toList)) else (none)) else (none)) else (some false)
set_option maxHeartbeats 8000000 in
set_option maxRecDepth 100000 in
theorem stringslite_HasPrefix.calls (a0 : ByteArray) (a1 : ByteArray) (r : Bool) (w : World) (h : stringslite_HasPrefix.f a0 a1 = some r) :
    Calls Tryd.prog 89 #[.string a0, .string a1] w fun e w' => e = .returned (.bool r) ∧ Drawn0 w w' := by
  have H : (if (a0.size : Int) ≥ (a1.size : Int) then (if 0 ≤ (a1.size : Int) then (if (a1.size : Int) ≤ (a0.size : Int) then (some ((a0.extract 0 ((a1.size : Int) : Int).toNat).toList == a1.toList)) else (none)) else (none)) else (some false)) = some r := h
  clear h
  by_cases c3 : (a0.size : Int) ≥ (a1.size : Int)
  · rw [if_pos c3] at H
    have c3b0 : decide ((a1.size : Int) ≤ (a0.size : Int)) = true := decide_eq_true c3
    have c3b1 : decide (a1.size ≤ a0.size) = true := decide_eq_true (Int.ofNat_le.mp c3)
    clear c3
    by_cases c4 : 0 ≤ (a1.size : Int)
    · rw [if_pos c4] at H
      have c4b0 := eq_true c4
      have c4b1 : decide (0 ≤ (a1.size : Int)) = true := decide_eq_true c4
      clear c4
      by_cases c5 : (a1.size : Int) ≤ (a0.size : Int)
      · rw [if_pos c5] at H
        have c5b0 := eq_true c5
        have c5b1 : decide ((a1.size : Int) ≤ (a0.size : Int)) = true := decide_eq_true c5
        clear c5
        obtain rfl := Option.some.inj H
        go_enter Tryd.func89, Tryd.ntmps89
        go_wp2
        go_ret
        exact ⟨by first | rfl | (simp; done) | (simp [*]; done), by repeat (first | exact Drawn0.refl _ | apply Drawn0.step)⟩
      · rw [if_neg c5] at H
        exact absurd H (by simp)
    · rw [if_neg c4] at H
      exact absurd H (by simp)
  · rw [if_neg c3] at H
    have c3b0 : decide ((a1.size : Int) ≤ (a0.size : Int)) = false := decide_eq_false c3
    have c3b1 : decide (a1.size ≤ a0.size) = false := decide_eq_false (fun h => c3 (Int.ofNat_le.mpr h))
    clear c3
    obtain rfl := Option.some.inj H
    go_enter Tryd.func89, Tryd.ntmps89
    go_wp2
    go_ret
    exact ⟨by first | rfl | (simp; done) | (simp [*]; done), by repeat (first | exact Drawn0.refl _ | apply Drawn0.step)⟩

/-! ### strings_HasPrefix: function 47 -/
def strings_HasPrefix.f (a0 : ByteArray) (a1 : ByteArray) : Option (Bool) := (stringslite_HasPrefix.f a0 a1).bind fun t125 => (some t125)
set_option maxHeartbeats 8000000 in
set_option maxRecDepth 100000 in
theorem strings_HasPrefix.calls (a0 : ByteArray) (a1 : ByteArray) (r : Bool) (w : World) (h : strings_HasPrefix.f a0 a1 = some r) :
    Calls Tryd.prog 47 #[.string a0, .string a1] w fun e w' => e = .returned (.bool r) ∧ Drawn0 w w' := by
  have H : ((stringslite_HasPrefix.f a0 a1).bind fun t125 => (some t125)) = some r := h
  clear h
  replace H := Option.bind_eq_some_iff.mp H
  obtain ⟨t125, A30, H⟩ := H
  replace H : (some t125) = some r := H
  have A3 := Aside0.mk A30
  clear A30
  obtain rfl := Option.some.inj H
  go_enter Tryd.func47, Tryd.ntmps47
  go_wp2_with (first | ((with_reducible refine gate_callee (f := 89) rfl ?_); refine goesL_ (some 7) rfl rfl Tryd.func89 (by kernel_rfl) rfl #[.string a0, .string a1] rfl (by (try simp only [List.map_toArray, List.map_cons, List.map_nil]); first | done | rfl | (simp only [List.length_drop, List.length_take]; rfl)) ?_; (with_reducible refine (stringslite_HasPrefix.calls a0 a1 t125 _ A3.out).mono ?_); rintro e w' ⟨rfl, ⟨nd, rfl⟩⟩; refine ⟨_, rfl, ?_⟩))
  go_ret
  exact ⟨by first | rfl | (simp; done) | (simp [*]; done), by repeat (first | exact Drawn0.refl _ | apply Drawn0.step)⟩

/-! ### ephemerisref1_PatternPieces: function 12 -/
mutual
def ephemerisref1_PatternPieces.l0 : Nat → ByteArray → List (S100) → ByteArray → Int → Option ((List (S100)) × Int)
  | 0, _, _, _, _ => none
  | k + 1, x0, x4, x5, x6 => if x6 < (x0.size : Int) then (if 0 ≤ x6 then (if (bt x0 x6) = 125 then (some (([] : List (S100)), 4)) else (if (bt x0 x6) = 123 then ((some (([(⟨#[123, 121, 125]⟩ : ByteArray), (⟨#[123, 109, 125]⟩ : ByteArray), (⟨#[123, 100, 125]⟩ : ByteArray), (⟨#[123, 121, 52, 125]⟩ : ByteArray), (⟨#[123, 109, 50, 125]⟩ : ByteArray), (⟨#[123, 100, 50, 125]⟩ : ByteArray), (⟨#[123, 110, 97, 109, 101, 125]⟩ : ByteArray), (⟨#[123, 119, 125]⟩ : ByteArray)] : List ByteArray) : List ByteArray)).bind fun y129 => (ephemerisref1_PatternPieces.l1 k x0 x4 x5 x6 false y129 (y129.length : Int) 0)) else (if x6 ≤ (wrap64 (x6 + 1)) then (if (wrap64 (x6 + 1)) ≤ (x0.size : Int) then (if x5.size + (x0.extract (x6 : Int).toNat ((wrap64 (x6 + 1)) : Int).toNat).size ≤ 9223372036854775807 then (ephemerisref1_PatternPieces.l0 k x0 x4 (x5 ++ (x0.extract (x6 : Int).toNat ((wrap64 (x6 + 1)) : Int).toNat)) (wrap64 (x6 + 1))) else (none)) else (none)) else (none)))) else (none)) else (if x5.toList = ([] : List UInt8) then (some (x4, 0)) else (if x4.length < 5864062014805 then (some ((x4 ++ [(⟨false, x5⟩ : S100)]), 0)) else (none)))
def ephemerisref1_PatternPieces.l1 : Nat → ByteArray → List (S100) → ByteArray → Int → Bool → List ByteArray → Int → Int → Option ((List (S100)) × Int)
  | 0, _, _, _, _, _, _, _, _ => none
  | k + 1, x0, x4, x5, x6, x7, x34, x35, x36 => if x36 < x35 then (if 0 ≤ x36 then (if x36 < (x34.length : Int) then (if 0 ≤ x6 then (if x6 ≤ (x0.size : Int) then ((strings_HasPrefix.f (x0.extract (x6 : Int).toNat x0.size) (rdOf ByteArray.empty x34 x36)).bind fun t133 => (if t133 = true then (if x5.toList = ([] : List UInt8) then (if 1 ≤ (wrap64 (((rdOf ByteArray.empty x34 x36).size : Int) - 1)) then (if (wrap64 (((rdOf ByteArray.empty x34 x36).size : Int) - 1)) ≤ ((rdOf ByteArray.empty x34 x36).size : Int) then (if x4.length < 5864062014805 then (ephemerisref1_PatternPieces.l0 k x0 (x4 ++ [(⟨true, (rdOf ByteArray.empty x34 x36).extract 1 ((wrap64 (((rdOf ByteArray.empty x34 x36).size : Int) - 1)) : Int).toNat⟩ : S100)]) (⟨#[]⟩ : ByteArray) (wrap64 ((wrap64 (x6 + (wrap64 (((rdOf ByteArray.empty x34 x36).size : Int) - 1)))) + 1))) else (none)) else (none)) else (none)) else (if x4.length < 5864062014805 then ((some (x4 ++ [(⟨false, x5⟩ : S100)] : List (S100))).bind fun y137 => (if 1 ≤ (wrap64 (((rdOf ByteArray.empty x34 x36).size : Int) - 1)) then (if (wrap64 (((rdOf ByteArray.empty x34 x36).size : Int) - 1)) ≤ ((rdOf ByteArray.empty x34 x36).size : Int) then (if y137.length < 5864062014805 then (ephemerisref1_PatternPieces.l0 k x0 (y137 ++ [(⟨true, (rdOf ByteArray.empty x34 x36).extract 1 ((wrap64 (((rdOf ByteArray.empty x34 x36).size : Int) - 1)) : Int).toNat⟩ : S100)]) (⟨#[]⟩ : ByteArray) (wrap64 ((wrap64 (x6 + (wrap64 (((rdOf ByteArray.empty x34 x36).size : Int) - 1)))) + 1))) else (none)) else (none)) else (none))) else (none))) else (ephemerisref1_PatternPieces.l1 k x0 x4 x5 x6 x7 x34 x35 (wrap64 (x36 + 1))))) else (none)) else (none)) else (none)) else (none)) else (if x7 = true then (ephemerisref1_PatternPieces.l0 k x0 x4 x5 (wrap64 (x6 + 1))) else (some (([] : List (S100)), 4)))
end
def ephemerisref1_PatternPieces.f (k : Nat) (a0 : ByteArray) : Option ((List (S100)) × Int) := if (a0.size : Int) > 60 then (some (([] : List (S100)), 2)) else (ephemerisref1_PatternPieces.l0 k a0 ([] : List (S100)) (⟨#[]⟩ : ByteArray) 0)
theorem ephemerisref1_PatternPieces.mono_l : ∀ k, (∀ y0 y1 y2 y3, LeO (ephemerisref1_PatternPieces.l0 k y0 y1 y2 y3) (ephemerisref1_PatternPieces.l0 (k + 1) y0 y1 y2 y3)) ∧ (∀ y0 y1 y2 y3 y4 y5 y6 y7, LeO (ephemerisref1_PatternPieces.l1 k y0 y1 y2 y3 y4 y5 y6 y7) (ephemerisref1_PatternPieces.l1 (k + 1) y0 y1 y2 y3 y4 y5 y6 y7))
  | 0 => ⟨fun _ _ _ _ r h => by simp [ephemerisref1_PatternPieces.l0] at h, fun _ _ _ _ _ _ _ _ r h => by simp [ephemerisref1_PatternPieces.l1] at h⟩
  | k + 1 => by
    obtain ⟨ih0, ih1⟩ := ephemerisref1_PatternPieces.mono_l k
    refine ⟨?_, ?_⟩
    · intro y0 y1 y2 y3
      unfold ephemerisref1_PatternPieces.l0
      repeat' first
      | (with_reducible exact ih0 _ _ _ _)
      | (with_reducible exact ih1 _ _ _ _ _ _ _ _)
      | (with_reducible exact LeO.refl _)
      | (with_reducible exact LeO.none _)
      | (with_reducible refine LeO.ite ?_ ?_)
      | (with_reducible refine LeO.bind ?_ (fun _ => ?_))
      | exact ih0 _ _ _ _
      | exact ih1 _ _ _ _ _ _ _ _
      | exact LeO.none _
      | refine LeO.ite ?_ ?_
      | refine LeO.bind ?_ (fun _ => ?_)
    · intro y0 y1 y2 y3 y4 y5 y6 y7
      unfold ephemerisref1_PatternPieces.l1
      repeat' first
      | (with_reducible exact ih0 _ _ _ _)
      | (with_reducible exact ih1 _ _ _ _ _ _ _ _)
      | (with_reducible exact LeO.refl _)
      | (with_reducible exact LeO.none _)
      | (with_reducible refine LeO.ite ?_ ?_)
      | (with_reducible refine LeO.bind ?_ (fun _ => ?_))
      | exact ih0 _ _ _ _
      | exact ih1 _ _ _ _ _ _ _ _
      | exact LeO.none _
      | refine LeO.ite ?_ ?_
      | refine LeO.bind ?_ (fun _ => ?_)
theorem ephemerisref1_PatternPieces.mono : ∀ a0 k, LeO (ephemerisref1_PatternPieces.f k a0) (ephemerisref1_PatternPieces.f (k + 1) a0) := by
  intro a0 k
  obtain ⟨ih0, ih1⟩ := ephemerisref1_PatternPieces.mono_l k
  unfold ephemerisref1_PatternPieces.f
  repeat' first
      | (with_reducible exact ih0 _ _ _ _)
      | (with_reducible exact ih1 _ _ _ _ _ _ _ _)
      | (with_reducible exact LeO.refl _)
      | (with_reducible exact LeO.none _)
      | (with_reducible refine LeO.ite ?_ ?_)
      | (with_reducible refine LeO.bind ?_ (fun _ => ?_))
      | exact ih0 _ _ _ _
      | exact ih1 _ _ _ _ _ _ _ _
      | exact LeO.none _
      | refine LeO.ite ?_ ?_
      | refine LeO.bind ?_ (fun _ => ?_)
set_option maxHeartbeats 8000000 in
set_option maxRecDepth 100000 in
theorem ephemerisref1_PatternPieces.calls (k : Nat) (a0 : ByteArray) (r1 : List (S100)) (r2 : Int) (w : World) (h : ephemerisref1_PatternPieces.f k a0 = some (r1, r2)) :
    Calls Tryd.prog 12 #[.string a0] w fun e w' => ∃ v0_ : Value, e = .returned (.tuple #[v0_, .int .i64 r2]) ∧ Kd.R k100 100 w' w.heap.size (fun _ => True) v0_ r1 ∧ Below w.heap.size w w' := by
  have hu100 := Tryd.underlying100
  have HB := Aside0.mk (Below.refl w.heap.size w)
  have H : (if (a0.size : Int) > 60 then (some (([] : List (S100)), 2)) else (ephemerisref1_PatternPieces.l0 k a0 ([] : List (S100)) (⟨#[]⟩ : ByteArray) 0)) = some (r1, r2) := h
  clear h
  by_cases c2 : (a0.size : Int) > 60
  · rw [if_pos c2] at H
    have c2b0 : decide (60 < (a0.size : Int)) = true := decide_eq_true c2
    have c2b1 : decide (60 < a0.size) = true := decide_eq_true (by omega)
    clear c2
    simp only [Option.some.injEq, Prod.mk.injEq] at H
    obtain ⟨rfl, rfl⟩ := H
    go_enter Tryd.func12, Tryd.ntmps12
    go_wp2
    go_ret2
    exact ⟨_, by first | rfl | (simp [errW_none, errW_some] <;> rfl) | (simp [*, errW_none, errW_some] <;> rfl), by first | exact Kd.R_nil _ _ _ _ _ | exact Kd.N_nil _ _ _ _ _ | exact Kd.V_nil _ _ _ _ _ | exact Kd.Q_nil _ _ _ _ _ | exact Kd.S_nil _ _ _ _ _, by repeat (first | (with_reducible first | exact HB.out | apply below_alloc | apply pw_below_drewN | apply below_drew1) | exact HB.out)⟩
  · rw [if_neg c2] at H
    have c2b0 : decide (60 < (a0.size : Int)) = false := decide_eq_false c2
    have c2b1 : decide (60 < a0.size) = false := decide_eq_false (by omega)
    clear c2
    have H' := Aside0.mk H
    clear H
    go_enter Tryd.func12, Tryd.ntmps12
    go_wp2
    go_loopg [4, 5, 6] k (fun kq v4 v5 v6 w' => ∃ (x4_1 : List (S100)) (x5_1 : ByteArray) (x6_1 : Int), v5 = .string x5_1 ∧ v6 = .int .i64 x6_1 ∧ Aside0 (ephemerisref1_PatternPieces.l0 kq a0 x4_1 x5_1 x6_1 = some (r1, r2)) ∧ Aside0 (kq ≤ k) ∧ Aside0 (Kd.R k100 100 w' w.heap.size (fun _ => True) v4 x4_1) ∧ Aside0 (Below w.heap.size w w'))
    case atStart => exact ⟨(([] : List (S100))), ((⟨#[]⟩ : ByteArray)), (0), (by first | rfl | (simp; done) | (simp [*]; done)), (by first | rfl | (simp; done) | (simp [*]; done)), H', ⟨Nat.le_refl _⟩, ⟨by first | exact Kd.R_nil _ _ _ _ _ | exact Kd.N_nil _ _ _ _ _ | exact Kd.V_nil _ _ _ _ _ | exact Kd.Q_nil _ _ _ _ _ | exact Kd.S_nil _ _ _ _ _⟩, ⟨by repeat (first | (with_reducible first | exact HB.out | apply below_alloc | apply pw_below_drewN | apply below_drew1) | exact HB.out)⟩⟩
    case round =>
      clear H'
      try clear c1
      try clear c2
      try clear c2b0
      try clear c2b1
      try clear p2
      obtain ⟨x4_1, x5_1, x6_1, rfl, rfl, HA, HK1, HO_4, HB⟩ := hrel
      cases gk with
      | zero => exact absurd HA.out (by simp [ephemerisref1_PatternPieces.l0])
      | succ k1 =>
        have H := HA.out
        clear HA
        simp only [ephemerisref1_PatternPieces.l0] at H
        by_cases c3 : x6_1 < (a0.size : Int)
        · rw [if_pos c3] at H
          have c3b0 : decide (x6_1 < (a0.size : Int)) = true := decide_eq_true c3
          clear c3
          by_cases c4 : 0 ≤ x6_1
          · rw [if_pos c4] at H
            have c4b0 : decide (0 ≤ x6_1) = true := decide_eq_true c4
            clear c4
            by_cases c6 : (bt a0 x6_1) = 125
            · rw [if_pos c6] at H
              have c6b0 : ((bt a0 x6_1) == 125) = true := beq_iff_eq.mpr c6
              have c6b1 : ((bt a0 x6_1) != 125) = false := bne_eq_false_iff_eq.mpr c6
              clear c6
              simp only [Option.some.injEq, Prod.mk.injEq] at H
              obtain ⟨rfl, rfl⟩ := H
              have p5 : 0 ≤ (x6_1 : Int) := of_decide_eq_true (by first | (with_reducible assumption) | assumption)
              have q5 : x6_1 < (a0.size : Int) := of_decide_eq_true (by first | (with_reducible assumption) | assumption)
              have hx5 := bt_at a0 x6_1
              replace p5 := eq_true p5
              replace q5 := eq_true q5
              go_wp2
              go_ret2
              exact ⟨_, by first | rfl | (simp [errW_none, errW_some] <;> rfl) | (simp [*, errW_none, errW_some] <;> rfl), by first | exact Kd.R_nil _ _ _ _ _ | exact Kd.N_nil _ _ _ _ _ | exact Kd.V_nil _ _ _ _ _ | exact Kd.Q_nil _ _ _ _ _ | exact Kd.S_nil _ _ _ _ _, by repeat (first | (with_reducible first | exact HB.out | apply below_alloc | apply pw_below_drewN | apply below_drew1) | exact HB.out)⟩
            · rw [if_neg c6] at H
              have c6b0 : ((bt a0 x6_1) == 125) = false := beq_eq_false_iff_ne.mpr c6
              have c6b1 : ((bt a0 x6_1) != 125) = true := bne_iff_ne.mpr c6
              by_cases c8 : (bt a0 x6_1) = 123
              · rw [if_pos c8] at H
                have c8b0 : ((bt a0 x6_1) == 123) = true := beq_iff_eq.mpr c8
                have c8b1 : ((bt a0 x6_1) != 123) = false := bne_eq_false_iff_eq.mpr c8
                clear c8
                obtain ⟨y129, hy129⟩ : ∃ y_ : List ByteArray, y_ = (([(⟨#[123, 121, 125]⟩ : ByteArray), (⟨#[123, 109, 125]⟩ : ByteArray), (⟨#[123, 100, 125]⟩ : ByteArray), (⟨#[123, 121, 52, 125]⟩ : ByteArray), (⟨#[123, 109, 50, 125]⟩ : ByteArray), (⟨#[123, 100, 50, 125]⟩ : ByteArray), (⟨#[123, 110, 97, 109, 101, 125]⟩ : ByteArray), (⟨#[123, 119, 125]⟩ : ByteArray)] : List ByteArray)) := ⟨_, rfl⟩
                replace H : (ephemerisref1_PatternPieces.l1 k1 a0 x4_1 x5_1 x6_1 false y129 (y129.length : Int) 0) = some (r1, r2) := by first | (rw [hy129]; with_reducible exact H) | (have H2_ := (Option.bind_some _ _).symm.trans H; rw [hy129]; with_reducible exact H2_) | (have H2_ := (Option.bind_some _ _).symm.trans H; with_reducible exact H2_) | with_reducible exact H | (rw [hy129]; exact H) | exact H
                have Ny129 := Aside0.mk hy129
                clear hy129
                have H' := Aside0.mk H
                clear H
                have p5 : 0 ≤ (x6_1 : Int) := of_decide_eq_true (by first | (with_reducible assumption) | assumption)
                have q5 : x6_1 < (a0.size : Int) := of_decide_eq_true (by first | (with_reducible assumption) | assumption)
                have hx5 := bt_at a0 x6_1
                replace p5 := eq_true p5
                replace q5 := eq_true q5
                have p7 : 0 ≤ (x6_1 : Int) := of_decide_eq_true (by first | (with_reducible assumption) | assumption)
                have q7 : x6_1 < (a0.size : Int) := of_decide_eq_true (by first | (with_reducible assumption) | assumption)
                have hx7 := bt_at a0 x6_1
                replace p7 := eq_true p7
                replace q7 := eq_true q7
                go_wp2_with (first | ((with_reducible refine gate_dst (N := 34) rfl ?_); refine Kd.R_lit Kd.string _ 9 ?hg (N := 34) ?hd (xs := ([(⟨#[123, 121, 125]⟩ : ByteArray), (⟨#[123, 109, 125]⟩ : ByteArray), (⟨#[123, 100, 125]⟩ : ByteArray), (⟨#[123, 121, 52, 125]⟩ : ByteArray), (⟨#[123, 109, 50, 125]⟩ : ByteArray), (⟨#[123, 100, 50, 125]⟩ : ByteArray), (⟨#[123, 110, 97, 109, 101, 125]⟩ : ByteArray), (⟨#[123, 119, 125]⟩ : ByteArray)] : List ByteArray)) (inner := [.string (⟨#[123, 121, 125]⟩ : ByteArray), .string (⟨#[123, 109, 125]⟩ : ByteArray), .string (⟨#[123, 100, 125]⟩ : ByteArray), .string (⟨#[123, 121, 52, 125]⟩ : ByteArray), .string (⟨#[123, 109, 50, 125]⟩ : ByteArray), .string (⟨#[123, 100, 50, 125]⟩ : ByteArray), .string (⟨#[123, 110, 97, 109, 101, 125]⟩ : ByteArray), .string (⟨#[123, 119, 125]⟩ : ByteArray)]) (ok := fun _ => True) (okp := fun _ => True) ?hr ?hp (fun _ hk => hk) trivial (Below.refl _ _) (Nat.le_refl _) (by simp) ?_; (case hd => rfl); (case hg => rfl); (case hr => first | (go_simp; done) | (go_simp; rfl)); (case hp => exact (Reps.one (show Kd.M Kd.string _ _ _ (⟨#[123, 121, 125]⟩ : ByteArray) [.string (⟨#[123, 121, 125]⟩ : ByteArray)] from rfl) (Reps.one (show Kd.M Kd.string _ _ _ (⟨#[123, 109, 125]⟩ : ByteArray) [.string (⟨#[123, 109, 125]⟩ : ByteArray)] from rfl) (Reps.one (show Kd.M Kd.string _ _ _ (⟨#[123, 100, 125]⟩ : ByteArray) [.string (⟨#[123, 100, 125]⟩ : ByteArray)] from rfl) (Reps.one (show Kd.M Kd.string _ _ _ (⟨#[123, 121, 52, 125]⟩ : ByteArray) [.string (⟨#[123, 121, 52, 125]⟩ : ByteArray)] from rfl) (Reps.one (show Kd.M Kd.string _ _ _ (⟨#[123, 109, 50, 125]⟩ : ByteArray) [.string (⟨#[123, 109, 50, 125]⟩ : ByteArray)] from rfl) (Reps.one (show Kd.M Kd.string _ _ _ (⟨#[123, 100, 50, 125]⟩ : ByteArray) [.string (⟨#[123, 100, 50, 125]⟩ : ByteArray)] from rfl) (Reps.one (show Kd.M Kd.string _ _ _ (⟨#[123, 110, 97, 109, 101, 125]⟩ : ByteArray) [.string (⟨#[123, 110, 97, 109, 101, 125]⟩ : ByteArray)] from rfl) (Reps.one (show Kd.M Kd.string _ _ _ (⟨#[123, 119, 125]⟩ : ByteArray) [.string (⟨#[123, 119, 125]⟩ : ByteArray)] from rfl) (Reps.none _ _)))))))))); intro v130 w9 ho10 hb hg_ hnew_; clear hg_ hnew_; (first | rw [← Ny129.out] at ho10 | (simp only [Int.reduceToNat] at ho10; rw [← Ny129.out] at ho10)); have n0_ := Aside0.mk (Kd.R_below (by (with_reducible repeat (first | apply Kd.R_alloc | apply Kd.R_drewN | apply Kd.R_drew)); exact HO_4.out) hb); have n1_ := Aside0.mk (Kd.R_lower ho10 (below_size (by repeat (first | (with_reducible first | exact HB.out | apply below_alloc | apply pw_below_drewN | apply below_drew1) | exact HB.out)))); have n2_ := Aside0.mk (below_step (by repeat (first | (with_reducible first | exact HB.out | apply below_alloc | apply pw_below_drewN | apply below_drew1) | exact HB.out)) hb); clear HO_4; clear HB; have HO_4 := n0_; have HO131 := n1_; have HB := n2_; clear n0_ n1_ n2_; clear hb ho10; obtain ⟨Ao11, co11, eo11⟩ := Kd.R_slice HO131.out; subst eo11))
                go_loopg [4, 5, 6, 7, 36] k1 (fun kq v4 v5 v6 v7 v36 w' => ∃ (x4_2 : List (S100)) (x5_2 : ByteArray) (x6_2 : Int) (x7_2 : Bool) (x36_2 : Int), v5 = .string x5_2 ∧ v6 = .int .i64 x6_2 ∧ v7 = .bool x7_2 ∧ v36 = .int .i64 x36_2 ∧ Aside0 (ephemerisref1_PatternPieces.l1 kq a0 x4_2 x5_2 x6_2 x7_2 y129 (y129.length : Int) x36_2 = some (r1, r2)) ∧ Aside0 (kq ≤ k1) ∧ Aside0 (Kd.R k100 100 w' w.heap.size (fun _ => True) v4 x4_2) ∧ Aside0 (Kd.R Kd.string 9 w' w.heap.size (fun _ => True) (.slice Ao11 y129.length co11) y129) ∧ Aside0 (Below w.heap.size w w'))
                case atStart => exact ⟨(x4_1), (x5_1), (x6_1), (false), (0), (by first | rfl | (simp; done) | (simp [*]; done)), (by first | rfl | (simp; done) | (simp [*]; done)), (by first | rfl | (simp; done) | (simp [*]; done)), (by first | rfl | (simp; done) | (simp [*]; done)), H', ⟨Nat.le_refl _⟩, ⟨by (with_reducible repeat (first | apply Kd.R_alloc | apply Kd.R_drewN | apply Kd.R_drew)); exact HO_4.out⟩, ⟨by (with_reducible repeat (first | apply Kd.R_alloc | apply Kd.R_drewN | apply Kd.R_drew)); exact HO131.out⟩, ⟨by repeat (first | (with_reducible first | exact HB.out | apply below_alloc | apply pw_below_drewN | apply below_drew1) | exact HB.out)⟩⟩
                case round =>
                  clear H'
                  try clear c1
                  try clear c2
                  try clear c2b0
                  try clear c2b1
                  try clear p2
                  try clear c3
                  try clear c3b0
                  try clear c4
                  try clear c4b0
                  try clear p5
                  try clear q5
                  try clear hx5
                  try clear c6
                  try clear c6b0
                  try clear c6b1
                  try clear p7
                  try clear q7
                  try clear hx7
                  try clear c8
                  try clear c8b0
                  try clear c8b1
                  try clear p2
                  try clear p5
                  try clear p7
                  try clear q5
                  try clear q7
                  obtain ⟨x4_2, x5_2, x6_2, x7_2, x36_2, rfl, rfl, rfl, rfl, HA, HK2, HO_4, HO_34, HB⟩ := hrel
                  cases gk with
                  | zero => exact absurd HA.out (by simp [ephemerisref1_PatternPieces.l1])
                  | succ k2 =>
                    have H := HA.out
                    clear HA
                    simp only [ephemerisref1_PatternPieces.l1] at H
                    by_cases c12 : x36_2 < (y129.length : Int)
                    · rw [if_pos c12] at H
                      have c12b0 : decide (x36_2 < (y129.length : Int)) = true := decide_eq_true c12
                      clear c12
                      by_cases c13 : 0 ≤ x36_2
                      · rw [if_pos c13] at H
                        have c13b0 : decide (0 ≤ x36_2) = true := decide_eq_true c13
                        clear c13
                        by_cases c14 : x36_2 < (y129.length : Int)
                        · rw [if_pos c14] at H
                          have c14b0 : decide (x36_2 < (y129.length : Int)) = true := decide_eq_true c14
                          clear c14
                          by_cases c15 : 0 ≤ x6_2
                          · rw [if_pos c15] at H
                            have c15b0 := eq_true c15
                            have c15b1 : decide (0 ≤ x6_2) = true := decide_eq_true c15
                            clear c15
                            by_cases c16 : x6_2 ≤ (a0.size : Int)
                            · rw [if_pos c16] at H
                              have c16b0 := eq_true c16
                              have c16b1 : decide (x6_2 ≤ (a0.size : Int)) = true := decide_eq_true c16
                              clear c16
                              replace H := Option.bind_eq_some_iff.mp H
                              obtain ⟨t133, A170, H⟩ := H
                              replace H : (if t133 = true then (if x5_2.toList = ([] : List UInt8) then (if 1 ≤ (wrap64 (((rdOf ByteArray.empty y129 x36_2).size : Int) - 1)) then (if (wrap64 (((rdOf ByteArray.empty y129 x36_2).size : Int) - 1)) ≤ ((rdOf ByteArray.empty y129 x36_2).size : Int) then (if x4_2.length < 5864062014805 then (ephemerisref1_PatternPieces.l0 k2 a0 (x4_2 ++ [(⟨true, (rdOf ByteArray.empty y129 x36_2).extract 1 ((wrap64 (((rdOf ByteArray.empty y129 x36_2).size : Int) - 1)) : Int).toNat⟩ : S100)]) (⟨#[]⟩ : ByteArray) (wrap64 ((wrap64 (x6_2 + (wrap64 (((rdOf ByteArray.empty y129 x36_2).size : Int) - 1)))) + 1))) else (none)) else (none)) else (none)) else (if x4_2.length < 5864062014805 then ((some (x4_2 ++ [(⟨false, x5_2⟩ : S100)] : List (S100))).bind fun y137 => (if 1 ≤ (wrap64 (((rdOf ByteArray.empty y129 x36_2).size : Int) - 1)) then (if (wrap64 (((rdOf ByteArray.empty y129 x36_2).size : Int) - 1)) ≤ ((rdOf ByteArray.empty y129 x36_2).size : Int) then (if y137.length < 5864062014805 then (ephemerisref1_PatternPieces.l0 k2 a0 (y137 ++ [(⟨true, (rdOf ByteArray.empty y129 x36_2).extract 1 ((wrap64 (((rdOf ByteArray.empty y129 x36_2).size : Int) - 1)) : Int).toNat⟩ : S100)]) (⟨#[]⟩ : ByteArray) (wrap64 ((wrap64 (x6_2 + (wrap64 (((rdOf ByteArray.empty y129 x36_2).size : Int) - 1)))) + 1))) else (none)) else (none)) else (none))) else (none))) else (ephemerisref1_PatternPieces.l1 k2 a0 x4_2 x5_2 x6_2 x7_2 y129 (y129.length : Int) (wrap64 (x36_2 + 1)))) = some (r1, r2) := H
                              have A17 := Aside0.mk A170
                              clear A170
                              by_cases c18 : t133 = true
                              · subst c18
                                have H1 : (if x5_2.toList = ([] : List UInt8) then (if 1 ≤ (wrap64 (((rdOf ByteArray.empty y129 x36_2).size : Int) - 1)) then (if (wrap64 (((rdOf ByteArray.empty y129 x36_2).size : Int) - 1)) ≤ ((rdOf ByteArray.empty y129 x36_2).size : Int) then (if x4_2.length < 5864062014805 then (ephemerisref1_PatternPieces.l0 k2 a0 (x4_2 ++ [(⟨true, (rdOf ByteArray.empty y129 x36_2).extract 1 ((wrap64 (((rdOf ByteArray.empty y129 x36_2).size : Int) - 1)) : Int).toNat⟩ : S100)]) (⟨#[]⟩ : ByteArray) (wrap64 ((wrap64 (x6_2 + (wrap64 (((rdOf ByteArray.empty y129 x36_2).size : Int) - 1)))) + 1))) else (none)) else (none)) else (none)) else (if x4_2.length < 5864062014805 then ((some (x4_2 ++ [(⟨false, x5_2⟩ : S100)] : List (S100))).bind fun y137 => (if 1 ≤ (wrap64 (((rdOf ByteArray.empty y129 x36_2).size : Int) - 1)) then (if (wrap64 (((rdOf ByteArray.empty y129 x36_2).size : Int) - 1)) ≤ ((rdOf ByteArray.empty y129 x36_2).size : Int) then (if y137.length < 5864062014805 then (ephemerisref1_PatternPieces.l0 k2 a0 (y137 ++ [(⟨true, (rdOf ByteArray.empty y129 x36_2).extract 1 ((wrap64 (((rdOf ByteArray.empty y129 x36_2).size : Int) - 1)) : Int).toNat⟩ : S100)]) (⟨#[]⟩ : ByteArray) (wrap64 ((wrap64 (x6_2 + (wrap64 (((rdOf ByteArray.empty y129 x36_2).size : Int) - 1)))) + 1))) else (none)) else (none)) else (none))) else (none))) = some (r1, r2) := by rw [if_pos rfl] at H; exact H
                                clear H
                                have H := H1
                                clear H1
                                by_cases c19 : x5_2.toList = ([] : List UInt8)
                                · rw [if_pos c19] at H
                                  have c19b0 : (x5_2.toList == ([] : List UInt8)) = true := beq_iff_eq.mpr c19
                                  have c19b1 : (x5_2.toList != ([] : List UInt8)) = false := bne_eq_false_iff_eq.mpr c19
                                  clear c19
                                  by_cases c20 : 1 ≤ (wrap64 (((rdOf ByteArray.empty y129 x36_2).size : Int) - 1))
                                  · rw [if_pos c20] at H
                                    have c20b0 := eq_true c20
                                    have c20b1 : decide (1 ≤ (wrap64 (((rdOf ByteArray.empty y129 x36_2).size : Int) - 1))) = true := decide_eq_true c20
                                    clear c20
                                    by_cases c21 : (wrap64 (((rdOf ByteArray.empty y129 x36_2).size : Int) - 1)) ≤ ((rdOf ByteArray.empty y129 x36_2).size : Int)
                                    · rw [if_pos c21] at H
                                      have c21b0 := eq_true c21
                                      have c21b1 : decide ((wrap64 (((rdOf ByteArray.empty y129 x36_2).size : Int) - 1)) ≤ ((rdOf ByteArray.empty y129 x36_2).size : Int)) = true := decide_eq_true c21
                                      clear c21
                                      by_cases c22 : x4_2.length < 5864062014805
                                      · rw [if_pos c22] at H
                                        have LMc22 := Aside0.mk c22
                                        clear c22
                                        obtain ⟨y134, hy134⟩ : ∃ y_ : List (S100), y_ = (x4_2 ++ [(⟨true, (rdOf ByteArray.empty y129 x36_2).extract 1 ((wrap64 (((rdOf ByteArray.empty y129 x36_2).size : Int) - 1)) : Int).toNat⟩ : S100)]) := ⟨_, rfl⟩
                                        replace H : (ephemerisref1_PatternPieces.l0 k2 a0 y134 (⟨#[]⟩ : ByteArray) (wrap64 ((wrap64 (x6_2 + (wrap64 (((rdOf ByteArray.empty y129 x36_2).size : Int) - 1)))) + 1))) = some (r1, r2) := by first | (rw [hy134]; with_reducible exact H) | (have H2_ := (Option.bind_some _ _).symm.trans H; rw [hy134]; with_reducible exact H2_) | (have H2_ := (Option.bind_some _ _).symm.trans H; with_reducible exact H2_) | with_reducible exact H | (rw [hy134]; exact H) | exact H
                                        have Ny134 := Aside0.mk hy134
                                        clear hy134
                                        have H' := Aside0.mk H
                                        clear H
                                        have p132 : 0 ≤ (x36_2 : Int) := of_decide_eq_true (by first | (with_reducible assumption) | assumption)
                                        have q132 : x36_2 < (y129.length : Int) := of_decide_eq_true (by first | (with_reducible assumption) | assumption)
                                        obtain ⟨ad132, e132, hx132_0⟩ := Kd.at_string (Kd.R_reads' HO_34.out).2.2 x36_2 p132 q132
                                        cases e132
                                        replace p132 := eq_true p132
                                        replace q132 := eq_true q132
                                        go_wp2_with (first | ((with_reducible refine gate_callee (f := 47) rfl ?_); refine goesL_ (some 44) rfl rfl Tryd.func47 (by kernel_rfl) rfl #[.string (a0.extract (x6_2 : Int).toNat a0.size), .string (rdOf ByteArray.empty y129 x36_2)] rfl (by (try simp only [List.map_toArray, List.map_cons, List.map_nil]); first | done | rfl | (simp only [List.length_drop, List.length_take]; rfl)) ?_; (with_reducible refine (strings_HasPrefix.calls (a0.extract (x6_2 : Int).toNat a0.size) (rdOf ByteArray.empty y129 x36_2) true _ A17.out).mono ?_); rintro e w' ⟨rfl, ⟨nd, rfl⟩⟩; refine ⟨_, rfl, ?_⟩) | ((with_reducible refine gate_builtin (b := .append) (xs := #[.tmp 52, .tmp 59]) rfl ?_); at_builtin; refine Kd.R_append k100 (w0 := w) w.heap.size rfl (.tmp 52) (.tmp 59) 25 100 (.agg #[(.bool false), (.string ⟨#[]⟩)]) 24 rfl Tryd.underlying25 info100 rfl (by decide) (by omega) u4 x4_2 (⟨true, (rdOf ByteArray.empty y129 x36_2).extract 1 ((wrap64 (((rdOf ByteArray.empty y129 x36_2).size : Int) - 1)) : Int).toNat⟩ : S100) [.bool true, .string ((rdOf ByteArray.empty y129 x36_2).extract 1 ((wrap64 (((rdOf ByteArray.empty y129 x36_2).size : Int) - 1)) : Int).toNat)] (fun _ => True) (fun _ => False) rfl rfl ?aP (fun _ hk => hk.elim) ?aF ?aO ?aB ?aS ?aL ?_; (case aP => exact k100_mkM _ _ _ (⟨true, (rdOf ByteArray.empty y129 x36_2).extract 1 ((wrap64 (((rdOf ByteArray.empty y129 x36_2).size : Int) - 1)) : Int).toNat⟩ : S100)); (case aB => exact (by repeat (first | (with_reducible first | exact HB.out | apply below_alloc | apply pw_below_drewN | apply below_drew1) | exact HB.out))); (case aF => exact (fun _ _ => trivial)); (case aO => exact (by (with_reducible repeat (first | apply Kd.R_alloc | apply Kd.R_drewN | apply Kd.R_drew)); exact HO_4.out)); (case aS => exact (below_size (by repeat (first | (with_reducible first | exact HB.out | apply below_alloc | apply pw_below_drewN | apply below_drew1) | exact HB.out)))); (case aL => have := LMc22.out; omega); intro v135 w23 ho hb hg hat; rw [← Ny134.out] at ho; have n0_ := Aside0.mk (Kd.R_over' (by (with_reducible repeat (first | apply Kd.R_alloc | apply Kd.R_drewN | apply Kd.R_drew)); exact HO_34.out) (Kd.R_typed (by (with_reducible repeat (first | apply Kd.R_alloc | apply Kd.R_drewN | apply Kd.R_drew)); exact HO_4.out)) (by decide) hg); have n1_ := Aside0.mk (hb); have n2_ := Aside0.mk (ho); clear HO_34; clear HB; clear HO_4; have HO_34 := n0_; have HB := n1_; have HO136 := n2_; clear n0_ n1_ n2_; clear ho hb hg hat))
                                        go_roundg k2
                                        case measure => have := HK1.out; have := HK2.out; omega
                                        case rel => exact ⟨(y134), ((⟨#[]⟩ : ByteArray)), (wrap64 ((wrap64 (x6_2 + (wrap64 (((rdOf ByteArray.empty y129 x36_2).size : Int) - 1)))) + 1)), (by first | rfl | (simp; done) | (simp [*]; done)), (by first | rfl | (simp; done) | (simp [*]; done)), H', ⟨by have := HK1.out; have := HK2.out; omega⟩, ⟨by (with_reducible repeat (first | apply Kd.R_alloc | apply Kd.R_drewN | apply Kd.R_drew)); exact HO136.out⟩, ⟨by repeat (first | (with_reducible first | exact HB.out | apply below_alloc | apply pw_below_drewN | apply below_drew1) | exact HB.out)⟩⟩
                                      · rw [if_neg c22] at H
                                        exact absurd H (by simp)
                                    · rw [if_neg c21] at H
                                      exact absurd H (by simp)
                                  · rw [if_neg c20] at H
                                    exact absurd H (by simp)
                                · rw [if_neg c19] at H
                                  have c19b0 : (x5_2.toList == ([] : List UInt8)) = false := beq_eq_false_iff_ne.mpr c19
                                  have c19b1 : (x5_2.toList != ([] : List UInt8)) = true := bne_iff_ne.mpr c19
                                  by_cases c24 : x4_2.length < 5864062014805
                                  · rw [if_pos c24] at H
                                    have LMc24 := Aside0.mk c24
                                    clear c24
                                    obtain ⟨y137, hy137⟩ : ∃ y_ : List (S100), y_ = (x4_2 ++ [(⟨false, x5_2⟩ : S100)]) := ⟨_, rfl⟩
                                    replace H : (if 1 ≤ (wrap64 (((rdOf ByteArray.empty y129 x36_2).size : Int) - 1)) then (if (wrap64 (((rdOf ByteArray.empty y129 x36_2).size : Int) - 1)) ≤ ((rdOf ByteArray.empty y129 x36_2).size : Int) then (if y137.length < 5864062014805 then (ephemerisref1_PatternPieces.l0 k2 a0 (y137 ++ [(⟨true, (rdOf ByteArray.empty y129 x36_2).extract 1 ((wrap64 (((rdOf ByteArray.empty y129 x36_2).size : Int) - 1)) : Int).toNat⟩ : S100)]) (⟨#[]⟩ : ByteArray) (wrap64 ((wrap64 (x6_2 + (wrap64 (((rdOf ByteArray.empty y129 x36_2).size : Int) - 1)))) + 1))) else (none)) else (none)) else (none)) = some (r1, r2) := by first | (rw [hy137]; with_reducible exact H) | (have H2_ := (Option.bind_some _ _).symm.trans H; rw [hy137]; with_reducible exact H2_) | (have H2_ := (Option.bind_some _ _).symm.trans H; with_reducible exact H2_) | with_reducible exact H | (rw [hy137]; exact H) | exact H
                                    have Ny137 := Aside0.mk hy137
                                    clear hy137
                                    by_cases c25 : 1 ≤ (wrap64 (((rdOf ByteArray.empty y129 x36_2).size : Int) - 1))
                                    · rw [if_pos c25] at H
                                      have c25b0 := eq_true c25
                                      have c25b1 : decide (1 ≤ (wrap64 (((rdOf ByteArray.empty y129 x36_2).size : Int) - 1))) = true := decide_eq_true c25
                                      clear c25
                                      by_cases c26 : (wrap64 (((rdOf ByteArray.empty y129 x36_2).size : Int) - 1)) ≤ ((rdOf ByteArray.empty y129 x36_2).size : Int)
                                      · rw [if_pos c26] at H
                                        have c26b0 := eq_true c26
                                        have c26b1 : decide ((wrap64 (((rdOf ByteArray.empty y129 x36_2).size : Int) - 1)) ≤ ((rdOf ByteArray.empty y129 x36_2).size : Int)) = true := decide_eq_true c26
                                        clear c26
                                        by_cases c27 : y137.length < 5864062014805
                                        · rw [if_pos c27] at H
                                          have LMc27 := Aside0.mk c27
                                          clear c27
                                          obtain ⟨y140, hy140⟩ : ∃ y_ : List (S100), y_ = (y137 ++ [(⟨true, (rdOf ByteArray.empty y129 x36_2).extract 1 ((wrap64 (((rdOf ByteArray.empty y129 x36_2).size : Int) - 1)) : Int).toNat⟩ : S100)]) := ⟨_, rfl⟩
                                          replace H : (ephemerisref1_PatternPieces.l0 k2 a0 y140 (⟨#[]⟩ : ByteArray) (wrap64 ((wrap64 (x6_2 + (wrap64 (((rdOf ByteArray.empty y129 x36_2).size : Int) - 1)))) + 1))) = some (r1, r2) := by first | (rw [hy140]; with_reducible exact H) | (have H2_ := (Option.bind_some _ _).symm.trans H; rw [hy140]; with_reducible exact H2_) | (have H2_ := (Option.bind_some _ _).symm.trans H; with_reducible exact H2_) | with_reducible exact H | (rw [hy140]; exact H) | exact H
                                          have Ny140 := Aside0.mk hy140
                                          clear hy140
                                          have H' := Aside0.mk H
                                          clear H
                                          have p132 : 0 ≤ (x36_2 : Int) := of_decide_eq_true (by first | (with_reducible assumption) | assumption)
                                          have q132 : x36_2 < (y129.length : Int) := of_decide_eq_true (by first | (with_reducible assumption) | assumption)
                                          obtain ⟨ad132, e132, hx132_0⟩ := Kd.at_string (Kd.R_reads' HO_34.out).2.2 x36_2 p132 q132
                                          cases e132
                                          replace p132 := eq_true p132
                                          replace q132 := eq_true q132
                                          go_wp2_with (first | ((with_reducible refine gate_callee (f := 47) rfl ?_); refine goesL_ (some 44) rfl rfl Tryd.func47 (by kernel_rfl) rfl #[.string (a0.extract (x6_2 : Int).toNat a0.size), .string (rdOf ByteArray.empty y129 x36_2)] rfl (by (try simp only [List.map_toArray, List.map_cons, List.map_nil]); first | done | rfl | (simp only [List.length_drop, List.length_take]; rfl)) ?_; (with_reducible refine (strings_HasPrefix.calls (a0.extract (x6_2 : Int).toNat a0.size) (rdOf ByteArray.empty y129 x36_2) true _ A17.out).mono ?_); rintro e w' ⟨rfl, ⟨nd, rfl⟩⟩; refine ⟨_, rfl, ?_⟩) | ((with_reducible refine gate_builtin (b := .append) (xs := #[.tmp 47, .tmp 50]) rfl ?_); at_builtin; refine Kd.R_append k100 (w0 := w) w.heap.size rfl (.tmp 47) (.tmp 50) 25 100 (.agg #[(.bool false), (.string ⟨#[]⟩)]) 24 rfl Tryd.underlying25 info100 rfl (by decide) (by omega) u4 x4_2 (⟨false, x5_2⟩ : S100) [.bool false, .string x5_2] (fun _ => True) (fun _ => False) rfl rfl ?aP (fun _ hk => hk.elim) ?aF ?aO ?aB ?aS ?aL ?_; (case aP => exact k100_mkM _ _ _ (⟨false, x5_2⟩ : S100)); (case aB => exact (by repeat (first | (with_reducible first | exact HB.out | apply below_alloc | apply pw_below_drewN | apply below_drew1) | exact HB.out))); (case aF => exact (fun _ _ => trivial)); (case aO => exact (by (with_reducible repeat (first | apply Kd.R_alloc | apply Kd.R_drewN | apply Kd.R_drew)); exact HO_4.out)); (case aS => exact (below_size (by repeat (first | (with_reducible first | exact HB.out | apply below_alloc | apply pw_below_drewN | apply below_drew1) | exact HB.out)))); (case aL => have := LMc24.out; omega); intro v138 w28 ho hb hg hat; rw [← Ny137.out] at ho; have n0_ := Aside0.mk (Kd.R_over' (by (with_reducible repeat (first | apply Kd.R_alloc | apply Kd.R_drewN | apply Kd.R_drew)); exact HO_34.out) (Kd.R_typed (by (with_reducible repeat (first | apply Kd.R_alloc | apply Kd.R_drewN | apply Kd.R_drew)); exact HO_4.out)) (by decide) hg); have n1_ := Aside0.mk (hb); have n2_ := Aside0.mk (ho); clear HO_34; clear HB; clear HO_4; have HO_34 := n0_; have HB := n1_; have HO139 := n2_; clear n0_ n1_ n2_; clear ho hb hg hat) | ((with_reducible refine gate_builtin (b := .append) (xs := #[.tmp 52, .tmp 59]) rfl ?_); at_builtin; refine Kd.R_append k100 (w0 := w) w.heap.size rfl (.tmp 52) (.tmp 59) 25 100 (.agg #[(.bool false), (.string ⟨#[]⟩)]) 24 rfl Tryd.underlying25 info100 rfl (by decide) (by omega) v138 y137 (⟨true, (rdOf ByteArray.empty y129 x36_2).extract 1 ((wrap64 (((rdOf ByteArray.empty y129 x36_2).size : Int) - 1)) : Int).toNat⟩ : S100) [.bool true, .string ((rdOf ByteArray.empty y129 x36_2).extract 1 ((wrap64 (((rdOf ByteArray.empty y129 x36_2).size : Int) - 1)) : Int).toNat)] (fun _ => True) (fun _ => False) rfl rfl ?aP (fun _ hk => hk.elim) ?aF ?aO ?aB ?aS ?aL ?_; (case aP => exact k100_mkM _ _ _ (⟨true, (rdOf ByteArray.empty y129 x36_2).extract 1 ((wrap64 (((rdOf ByteArray.empty y129 x36_2).size : Int) - 1)) : Int).toNat⟩ : S100)); (case aB => exact (by repeat (first | (with_reducible first | exact HB.out | apply below_alloc | apply pw_below_drewN | apply below_drew1) | exact HB.out))); (case aF => exact (fun _ _ => trivial)); (case aO => exact (by (with_reducible repeat (first | apply Kd.R_alloc | apply Kd.R_drewN | apply Kd.R_drew)); exact HO139.out)); (case aS => exact (below_size (by repeat (first | (with_reducible first | exact HB.out | apply below_alloc | apply pw_below_drewN | apply below_drew1) | exact HB.out)))); (case aL => have := LMc27.out; omega); intro v141 w29 ho hb hg hat; rw [← Ny140.out] at ho; have n0_ := Aside0.mk (Kd.R_over' (by (with_reducible repeat (first | apply Kd.R_alloc | apply Kd.R_drewN | apply Kd.R_drew)); exact HO_34.out) (Kd.R_typed (by (with_reducible repeat (first | apply Kd.R_alloc | apply Kd.R_drewN | apply Kd.R_drew)); exact HO139.out)) (by decide) hg); have n1_ := Aside0.mk (hb); have n2_ := Aside0.mk (ho); clear HO_34; clear HB; clear HO139; have HO_34 := n0_; have HB := n1_; have HO142 := n2_; clear n0_ n1_ n2_; clear ho hb hg hat))
                                          go_roundg k2
                                          case measure => have := HK1.out; have := HK2.out; omega
                                          case rel => exact ⟨(y140), ((⟨#[]⟩ : ByteArray)), (wrap64 ((wrap64 (x6_2 + (wrap64 (((rdOf ByteArray.empty y129 x36_2).size : Int) - 1)))) + 1)), (by first | rfl | (simp; done) | (simp [*]; done)), (by first | rfl | (simp; done) | (simp [*]; done)), H', ⟨by have := HK1.out; have := HK2.out; omega⟩, ⟨by (with_reducible repeat (first | apply Kd.R_alloc | apply Kd.R_drewN | apply Kd.R_drew)); exact HO142.out⟩, ⟨by repeat (first | (with_reducible first | exact HB.out | apply below_alloc | apply pw_below_drewN | apply below_drew1) | exact HB.out)⟩⟩
                                        · rw [if_neg c27] at H
                                          exact absurd H (by simp)
                                      · rw [if_neg c26] at H
                                        exact absurd H (by simp)
                                    · rw [if_neg c25] at H
                                      exact absurd H (by simp)
                                  · rw [if_neg c24] at H
                                    exact absurd H (by simp)
                              · replace c18 := Bool.eq_false_iff.mpr c18
                                subst c18
                                have H1 : (ephemerisref1_PatternPieces.l1 k2 a0 x4_2 x5_2 x6_2 x7_2 y129 (y129.length : Int) (wrap64 (x36_2 + 1))) = some (r1, r2) := by rw [if_neg (show ¬ (false = true) by decide)] at H; exact H
                                clear H
                                have H := H1
                                clear H1
                                have H' := Aside0.mk H
                                clear H
                                have p132 : 0 ≤ (x36_2 : Int) := of_decide_eq_true (by first | (with_reducible assumption) | assumption)
                                have q132 : x36_2 < (y129.length : Int) := of_decide_eq_true (by first | (with_reducible assumption) | assumption)
                                obtain ⟨ad132, e132, hx132_0⟩ := Kd.at_string (Kd.R_reads' HO_34.out).2.2 x36_2 p132 q132
                                cases e132
                                replace p132 := eq_true p132
                                replace q132 := eq_true q132
                                go_wp2_with (first | ((with_reducible refine gate_callee (f := 47) rfl ?_); refine goesL_ (some 44) rfl rfl Tryd.func47 (by kernel_rfl) rfl #[.string (a0.extract (x6_2 : Int).toNat a0.size), .string (rdOf ByteArray.empty y129 x36_2)] rfl (by (try simp only [List.map_toArray, List.map_cons, List.map_nil]); first | done | rfl | (simp only [List.length_drop, List.length_take]; rfl)) ?_; (with_reducible refine (strings_HasPrefix.calls (a0.extract (x6_2 : Int).toNat a0.size) (rdOf ByteArray.empty y129 x36_2) false _ A17.out).mono ?_); rintro e w' ⟨rfl, ⟨nd, rfl⟩⟩; refine ⟨_, rfl, ?_⟩))
                                go_roundg k2
                                case measure => have := HK1.out; have := HK2.out; omega
                                case rel => exact ⟨(x4_2), (x5_2), (x6_2), (x7_2), (wrap64 (x36_2 + 1)), (by first | rfl | (simp; done) | (simp [*]; done)), (by first | rfl | (simp; done) | (simp [*]; done)), (by first | rfl | (simp; done) | (simp [*]; done)), (by first | rfl | (simp; done) | (simp [*]; done)), H', ⟨by have := HK1.out; have := HK2.out; omega⟩, ⟨by (with_reducible repeat (first | apply Kd.R_alloc | apply Kd.R_drewN | apply Kd.R_drew)); exact HO_4.out⟩, ⟨by (with_reducible repeat (first | apply Kd.R_alloc | apply Kd.R_drewN | apply Kd.R_drew)); exact HO_34.out⟩, ⟨by repeat (first | (with_reducible first | exact HB.out | apply below_alloc | apply pw_below_drewN | apply below_drew1) | exact HB.out)⟩⟩
                            · rw [if_neg c16] at H
                              exact absurd H (by simp)
                          · rw [if_neg c15] at H
                            exact absurd H (by simp)
                        · rw [if_neg c14] at H
                          exact absurd H (by simp)
                      · rw [if_neg c13] at H
                        exact absurd H (by simp)
                    · rw [if_neg c12] at H
                      have c12b0 : decide (x36_2 < (y129.length : Int)) = false := decide_eq_false c12
                      clear c12
                      by_cases c30 : x7_2 = true
                      · subst c30
                        have H1 : (ephemerisref1_PatternPieces.l0 k2 a0 x4_2 x5_2 (wrap64 (x6_2 + 1))) = some (r1, r2) := by rw [if_pos rfl] at H; exact H
                        clear H
                        have H := H1
                        clear H1
                        have H' := Aside0.mk H
                        clear H
                        go_wp2
                        go_roundg k2
                        case measure => have := HK1.out; have := HK2.out; omega
                        case rel => exact ⟨(x4_2), (x5_2), (wrap64 (x6_2 + 1)), (by first | rfl | (simp; done) | (simp [*]; done)), (by first | rfl | (simp; done) | (simp [*]; done)), H', ⟨by have := HK1.out; have := HK2.out; omega⟩, ⟨by (with_reducible repeat (first | apply Kd.R_alloc | apply Kd.R_drewN | apply Kd.R_drew)); exact HO_4.out⟩, ⟨by repeat (first | (with_reducible first | exact HB.out | apply below_alloc | apply pw_below_drewN | apply below_drew1) | exact HB.out)⟩⟩
                      · replace c30 := Bool.eq_false_iff.mpr c30
                        subst c30
                        have H1 : (some (([] : List (S100)), 4)) = some (r1, r2) := by rw [if_neg (show ¬ (false = true) by decide)] at H; exact H
                        clear H
                        have H := H1
                        clear H1
                        simp only [Option.some.injEq, Prod.mk.injEq] at H
                        obtain ⟨rfl, rfl⟩ := H
                        go_wp2
                        go_ret2
                        exact ⟨_, by first | rfl | (simp [errW_none, errW_some] <;> rfl) | (simp [*, errW_none, errW_some] <;> rfl), by first | exact Kd.R_nil _ _ _ _ _ | exact Kd.N_nil _ _ _ _ _ | exact Kd.V_nil _ _ _ _ _ | exact Kd.Q_nil _ _ _ _ _ | exact Kd.S_nil _ _ _ _ _, by repeat (first | (with_reducible first | exact HB.out | apply below_alloc | apply pw_below_drewN | apply below_drew1) | exact HB.out)⟩
              · rw [if_neg c8] at H
                have c8b0 : ((bt a0 x6_1) == 123) = false := beq_eq_false_iff_ne.mpr c8
                have c8b1 : ((bt a0 x6_1) != 123) = true := bne_iff_ne.mpr c8
                have c31b0 := eq_true (of_decide_eq_true (by first | (with_reducible assumption) | assumption) : 0 ≤ x6_1)
                by_cases c32 : x6_1 ≤ (wrap64 (x6_1 + 1))
                · rw [if_pos c32] at H
                  have c32b0 := eq_true c32
                  have c32b1 : decide (x6_1 ≤ (wrap64 (x6_1 + 1))) = true := decide_eq_true c32
                  by_cases c33 : (wrap64 (x6_1 + 1)) ≤ (a0.size : Int)
                  · rw [if_pos c33] at H
                    have c33b0 := eq_true c33
                    have c33b1 : decide ((wrap64 (x6_1 + 1)) ≤ (a0.size : Int)) = true := decide_eq_true c33
                    by_cases c34 : x5_1.size + (a0.extract (x6_1 : Int).toNat ((wrap64 (x6_1 + 1)) : Int).toNat).size ≤ 9223372036854775807
                    · rw [if_pos c34] at H
                      have c34b0 := eq_true c34
                      have c34b1 : decide (x5_1.size + (a0.extract (x6_1 : Int).toNat ((wrap64 (x6_1 + 1)) : Int).toNat).size ≤ 9223372036854775807) = true := decide_eq_true c34
                      try have c34b2 : (9223372036854775807 < x5_1.size + (a0.extract (x6_1 : Int).toNat ((wrap64 (x6_1 + 1)) : Int).toNat).size) = False := eq_false (Nat.not_lt.2 c34)
                      have H' := Aside0.mk H
                      clear H
                      have p5 : 0 ≤ (x6_1 : Int) := of_decide_eq_true (by first | (with_reducible assumption) | assumption)
                      have q5 : x6_1 < (a0.size : Int) := of_decide_eq_true (by first | (with_reducible assumption) | assumption)
                      have hx5 := bt_at a0 x6_1
                      replace p5 := eq_true p5
                      replace q5 := eq_true q5
                      have p7 : 0 ≤ (x6_1 : Int) := of_decide_eq_true (by first | (with_reducible assumption) | assumption)
                      have q7 : x6_1 < (a0.size : Int) := of_decide_eq_true (by first | (with_reducible assumption) | assumption)
                      have hx7 := bt_at a0 x6_1
                      replace p7 := eq_true p7
                      replace q7 := eq_true q7
                      go_wp2
                      go_roundg k1
                      case measure => have := HK1.out; omega
                      case rel => exact ⟨(x4_1), (x5_1 ++ (a0.extract (x6_1 : Int).toNat ((wrap64 (x6_1 + 1)) : Int).toNat)), (wrap64 (x6_1 + 1)), (by first | rfl | (simp; done) | (simp [*]; done)), (by first | rfl | (simp; done) | (simp [*]; done)), H', ⟨by have := HK1.out; omega⟩, ⟨by (with_reducible repeat (first | apply Kd.R_alloc | apply Kd.R_drewN | apply Kd.R_drew)); exact HO_4.out⟩, ⟨by repeat (first | (with_reducible first | exact HB.out | apply below_alloc | apply pw_below_drewN | apply below_drew1) | exact HB.out)⟩⟩
                    · rw [if_neg c34] at H
                      exact absurd H (by simp)
                  · rw [if_neg c33] at H
                    exact absurd H (by simp)
                · rw [if_neg c32] at H
                  exact absurd H (by simp)
          · rw [if_neg c4] at H
            exact absurd H (by simp)
        · rw [if_neg c3] at H
          have c3b0 : decide (x6_1 < (a0.size : Int)) = false := decide_eq_false c3
          clear c3
          by_cases c35 : x5_1.toList = ([] : List UInt8)
          · rw [if_pos c35] at H
            have c35b0 : (x5_1.toList == ([] : List UInt8)) = true := beq_iff_eq.mpr c35
            have c35b1 : (x5_1.toList != ([] : List UInt8)) = false := bne_eq_false_iff_eq.mpr c35
            clear c35
            simp only [Option.some.injEq, Prod.mk.injEq] at H
            obtain ⟨rfl, rfl⟩ := H
            go_wp2
            go_ret2
            exact ⟨_, by first | rfl | (simp [errW_none, errW_some] <;> rfl) | (simp [*, errW_none, errW_some] <;> rfl), by (with_reducible repeat (first | apply Kd.R_alloc | apply Kd.R_drewN | apply Kd.R_drew)); exact HO_4.out, by repeat (first | (with_reducible first | exact HB.out | apply below_alloc | apply pw_below_drewN | apply below_drew1) | exact HB.out)⟩
          · rw [if_neg c35] at H
            have c35b0 : (x5_1.toList == ([] : List UInt8)) = false := beq_eq_false_iff_ne.mpr c35
            have c35b1 : (x5_1.toList != ([] : List UInt8)) = true := bne_iff_ne.mpr c35
            by_cases c36 : x4_1.length < 5864062014805
            · rw [if_pos c36] at H
              have LMc36 := Aside0.mk c36
              clear c36
              obtain ⟨y126, hy126⟩ : ∃ y_ : List (S100), y_ = (x4_1 ++ [(⟨false, x5_1⟩ : S100)]) := ⟨_, rfl⟩
              replace H : (some (y126, 0)) = some (r1, r2) := by first | (rw [hy126]; with_reducible exact H) | (have H2_ := (Option.bind_some _ _).symm.trans H; rw [hy126]; with_reducible exact H2_) | (have H2_ := (Option.bind_some _ _).symm.trans H; with_reducible exact H2_) | with_reducible exact H | (rw [hy126]; exact H) | exact H
              have Ny126 := Aside0.mk hy126
              clear hy126
              simp only [Option.some.injEq, Prod.mk.injEq] at H
              obtain ⟨rfl, rfl⟩ := H
              go_wp2_with (first | ((with_reducible refine gate_builtin (b := .append) (xs := #[.tmp 71, .tmp 74]) rfl ?_); at_builtin; refine Kd.R_append k100 (w0 := w) w.heap.size rfl (.tmp 71) (.tmp 74) 25 100 (.agg #[(.bool false), (.string ⟨#[]⟩)]) 24 rfl Tryd.underlying25 info100 rfl (by decide) (by omega) u4 x4_1 (⟨false, x5_1⟩ : S100) [.bool false, .string x5_1] (fun _ => True) (fun _ => False) rfl rfl ?aP (fun _ hk => hk.elim) ?aF ?aO ?aB ?aS ?aL ?_; (case aP => exact k100_mkM _ _ _ (⟨false, x5_1⟩ : S100)); (case aB => exact (by repeat (first | (with_reducible first | exact HB.out | apply below_alloc | apply pw_below_drewN | apply below_drew1) | exact HB.out))); (case aF => exact (fun _ _ => trivial)); (case aO => exact (by (with_reducible repeat (first | apply Kd.R_alloc | apply Kd.R_drewN | apply Kd.R_drew)); exact HO_4.out)); (case aS => exact (below_size (by repeat (first | (with_reducible first | exact HB.out | apply below_alloc | apply pw_below_drewN | apply below_drew1) | exact HB.out)))); (case aL => have := LMc36.out; omega); intro v127 w37 ho hb hg hat; rw [← Ny126.out] at ho; have n0_ := Aside0.mk (hb); have n1_ := Aside0.mk (ho); clear HB; clear HO_4; have HB := n0_; have HO128 := n1_; clear n0_ n1_; clear ho hb hg hat))
              go_ret2
              exact ⟨_, by first | rfl | (simp [errW_none, errW_some] <;> rfl) | (simp [*, errW_none, errW_some] <;> rfl), by (with_reducible repeat (first | apply Kd.R_alloc | apply Kd.R_drewN | apply Kd.R_drew)); exact HO128.out, by repeat (first | (with_reducible first | exact HB.out | apply below_alloc | apply pw_below_drewN | apply below_drew1) | exact HB.out)⟩
            · rw [if_neg c36] at H
              exact absurd H (by simp)

/-! ### pattern_Check: function 13 -/
def pattern_Check.f (k : Nat) (a0 : ByteArray) : Option (Int) := (pattern_split.f k a0).bind fun bt143 => (some bt143.2)
theorem pattern_Check.mono : ∀ a0 k, LeO (pattern_Check.f k a0) (pattern_Check.f (k + 1) a0) := by
  intro a0 k
  unfold pattern_Check.f
  repeat' first
      | (with_reducible exact pattern_split.mono _ _)
      | (with_reducible exact LeO.refl _)
      | (with_reducible exact LeO.none _)
      | (with_reducible refine LeO.ite ?_ ?_)
      | (with_reducible refine LeO.bind ?_ (fun _ => ?_))
      | exact pattern_split.mono _ _
      | exact LeO.none _
      | refine LeO.ite ?_ ?_
      | refine LeO.bind ?_ (fun _ => ?_)
set_option maxHeartbeats 8000000 in
set_option maxRecDepth 100000 in
theorem pattern_Check.calls (k : Nat) (a0 : ByteArray) (r : Int) (w : World) (hN : pattern_split.Tab w) (h : pattern_Check.f k a0 = some r) :
    Calls Tryd.prog 13 #[.string a0] w fun e w' => e = .returned (.int .i64 r) ∧ Below w.heap.size w w' := by
  have HB := Aside0.mk (Below.refl w.heap.size w)
  have H : ((pattern_split.f k a0).bind fun bt143 => (some bt143.2)) = some r := h
  clear h
  replace H := Option.bind_eq_some_iff.mp H
  obtain ⟨⟨t143, t144⟩, A20, H⟩ := H
  replace H : (some t144) = some r := H
  have A2 := Aside0.mk A20
  clear A20
  obtain rfl := Option.some.inj H
  go_enter Tryd.func13, Tryd.ntmps13
  go_wp2_with (first | ((with_reducible refine gate_callee (f := 45) rfl ?_); refine goesL_ (some 7) rfl rfl Tryd.func45 (by kernel_rfl) rfl #[.string a0] rfl (by (try simp only [List.map_toArray, List.map_cons, List.map_nil]); first | done | rfl | (simp only [List.length_drop, List.length_take]; rfl)) ?_; (with_reducible refine (pattern_split.calls k a0 t143 t144 _ (hN.below (by repeat (first | (with_reducible first | exact HB.out | apply below_alloc | apply pw_below_drewN | apply below_drew1) | exact HB.out)) (Nat.le_refl _)) A2.out).mono ?_); rintro e w3 ⟨v145, rfl, ho0, hb⟩; refine ⟨_, rfl, ?_⟩; have n0_ := Aside0.mk (Kd.R_lower ho0 (below_size (by repeat (first | (with_reducible first | exact HB.out | apply below_alloc | apply pw_below_drewN | apply below_drew1) | exact HB.out)))); have n1_ := Aside0.mk (below_step (by repeat (first | (with_reducible first | exact HB.out | apply below_alloc | apply pw_below_drewN | apply below_drew1) | exact HB.out)) hb); clear HB; have HO146 := n0_; have HB := n1_; clear n0_ n1_; (try clear hb); (try clear hb2); (try clear hk); (try clear hi); (try clear ho0)))
  go_ret
  exact ⟨by first | rfl | (simp [errW_none, errW_some] <;> rfl) | (simp [*, errW_none, errW_some] <;> rfl), by repeat (first | (with_reducible first | exact HB.out | apply below_alloc | apply pw_below_drewN | apply below_drew1) | exact HB.out)⟩

end Go.Proofs.YtcmanidhilkhnaaDoor.PPatternChecks
