/- The walks of the functions of this part. The proof of ephemerisref1_Div, strings_Trim is written by hand; the other ones are as the kit's print tells them. -/
-- The walks of the law's functions, told by a program.
import Derived.Shelf.Strings.SlTrimAscii
import Derived.Test.YtpkgpohjmcoplaaDoorPForecastYearsx0
namespace Go.Proofs.YtpkgpohjmcoplaaDoor.PForecastYears
open Go.RowKit Go.Proofs.YtpkgpohjmcoplaaDoorW.PrintWords Go.Proofs.YtpkgpohjmcoplaaDoorW.PrintLast Go.Proofs.YtpkgpohjmcoplaaDoorW.PrintMore
attribute [local go_sem] max2_int min2_int max_two min_two max_three min_three max_four min_four   -- for this text's walks alone
set_option linter.unusedVariables false
set_option linter.unusedSimpArgs false

/-! ### ephemerislaw1_summer: function 13 -/
def ephemerislaw1_summer.f  : Option ((List (S25))) := some (([(⟨3, 5, 6, 3600000, 7200000, (⟨#[83, 85, 77]⟩ : ByteArray)⟩ : S25)] : List (S25)))
set_option maxHeartbeats 8000000 in
set_option maxRecDepth 100000 in
theorem ephemerislaw1_summer.calls  (r : List (S25)) (w : World) (h : ephemerislaw1_summer.f  = some r) :
    Calls Tryd.prog 13 #[] w fun e w' => ∃ v0_ : Value, e = .returned (v0_) ∧ Kd.R k25 25 w' w.heap.size (fun _ => True) v0_ r ∧ Below w.heap.size w w' := by
  have hu25 := Tryd.underlying25
  have HB := Aside0.mk (Below.refl w.heap.size w)
  have H : (some (([(⟨3, 5, 6, 3600000, 7200000, (⟨#[83, 85, 77]⟩ : ByteArray)⟩ : S25)] : List (S25)))) = some r := h
  clear h
  obtain ⟨y101, hy101⟩ : ∃ y_ : List (S25), y_ = (([(⟨3, 5, 6, 3600000, 7200000, (⟨#[83, 85, 77]⟩ : ByteArray)⟩ : S25)] : List (S25))) := ⟨_, rfl⟩
  replace H : (some y101) = some r := by first | (rw [hy101]; with_reducible exact H) | (have H2_ := (Option.bind_some _ _).symm.trans H; rw [hy101]; with_reducible exact H2_) | (have H2_ := (Option.bind_some _ _).symm.trans H; with_reducible exact H2_) | with_reducible exact H | (rw [hy101]; exact H) | exact H
  have Ny101 := Aside0.mk hy101
  clear hy101
  obtain rfl := Option.some.inj H
  go_enter Tryd.func13, Tryd.ntmps13
  go_wp2_with (first | ((with_reducible refine gate_dst (N := 2) rfl ?_); refine Kd.R_lit k25 _ 25 ?hg (N := 2) ?hd (xs := ([(⟨3, 5, 6, 3600000, 7200000, (⟨#[83, 85, 77]⟩ : ByteArray)⟩ : S25)] : List (S25))) (inner := [.int .i64 3, .int .i64 5, .int .i64 6, .int .i64 3600000, .int .i64 7200000, .string (⟨#[83, 85, 77]⟩ : ByteArray)]) (ok := fun _ => True) (okp := fun _ => True) ?hr ?hp (fun _ hk => hk) trivial (Below.refl _ _) (Nat.le_refl _) (by simp) ?_; (case hd => rfl); (case hg => rfl); (case hr => first | (go_simp; done) | (go_simp; rfl)); (case hp => exact (Reps.c6 (show Kd.M k25 _ _ _ (⟨3, 5, 6, 3600000, 7200000, (⟨#[83, 85, 77]⟩ : ByteArray)⟩ : S25) [.int .i64 3, .int .i64 5, .int .i64 6, .int .i64 3600000, .int .i64 7200000, .string (⟨#[83, 85, 77]⟩ : ByteArray)] from (k25_mkM _ _ _ (⟨3, 5, 6, 3600000, 7200000, (⟨#[83, 85, 77]⟩ : ByteArray)⟩ : S25) )) (Reps.none _ _))); intro v102 w1 ho2 hb hg_ hnew_; clear hg_ hnew_; (first | rw [← Ny101.out] at ho2 | (simp only [Int.reduceToNat] at ho2; rw [← Ny101.out] at ho2)); have n0_ := Aside0.mk (Kd.R_lower ho2 (below_size (by repeat (first | (with_reducible first | exact HB.out | apply below_alloc | apply pw_below_drewN | apply below_drew1) | exact HB.out)))); have n1_ := Aside0.mk (below_step (by repeat (first | (with_reducible first | exact HB.out | apply below_alloc | apply pw_below_drewN | apply below_drew1) | exact HB.out)) hb); clear HB; have HO103 := n0_; have HB := n1_; clear n0_ n1_; clear hb ho2))
  go_ret
  exact ⟨_, by first | rfl | (simp [errW_none, errW_some] <;> rfl) | (simp [*, errW_none, errW_some] <;> rfl), by (with_reducible repeat (first | apply Kd.R_alloc | apply Kd.R_drewN | apply Kd.R_drew)); exact HO103.out, by repeat (first | (with_reducible first | exact HB.out | apply below_alloc | apply pw_below_drewN | apply below_drew1) | exact HB.out)⟩

/-! ### ephemerisref1_In: function 18 -/
def ephemerisref1_In.f (a0 : Int) (a1 : Int) (a2 : Int) : Option (Bool) := if a0 ≥ a1 then (some (decide (a0 ≤ a2))) else (some false)
set_option maxHeartbeats 8000000 in
set_option maxRecDepth 100000 in
theorem ephemerisref1_In.calls (a0 : Int) (a1 : Int) (a2 : Int) (r : Bool) (w : World) (h : ephemerisref1_In.f a0 a1 a2 = some r) :
    Calls Tryd.prog 18 #[.int .i64 a0, .int .i64 a1, .int .i64 a2] w fun e w' => e = .returned (.bool r) ∧ Drawn0 w w' := by
  have H : (if a0 ≥ a1 then (some (decide (a0 ≤ a2))) else (some false)) = some r := h
  clear h
  by_cases c4 : a0 ≥ a1
  · rw [if_pos c4] at H
    have c4b0 : decide (a1 ≤ a0) = true := decide_eq_true c4
    clear c4
    obtain rfl := Option.some.inj H
    go_enter Tryd.func18, Tryd.ntmps18
    go_wp2
    go_ret
    exact ⟨by first | rfl | (simp; done) | (simp [*]; done), by repeat (first | exact Drawn0.refl _ | apply Drawn0.step)⟩
  · rw [if_neg c4] at H
    have c4b0 : decide (a1 ≤ a0) = false := decide_eq_false c4
    clear c4
    obtain rfl := Option.some.inj H
    go_enter Tryd.func18, Tryd.ntmps18
    go_wp2
    go_ret
    exact ⟨by first | rfl | (simp; done) | (simp [*]; done), by repeat (first | exact Drawn0.refl _ | apply Drawn0.step)⟩

/-! ### ephemerisref1_Size: function 86 -/
def ephemerisref1_Size.f (a0 : Int) : Option (Int) := if a0 < 0 then (some (IntKind.u64.wrap ((IntKind.u64.wrap (wrap64 (-(wrap64 (a0 + 1))))) + 1))) else (some (IntKind.u64.wrap (a0)))
set_option maxHeartbeats 8000000 in
set_option maxRecDepth 100000 in
theorem ephemerisref1_Size.calls (a0 : Int) (r : Int) (w : World) (h : ephemerisref1_Size.f a0 = some r) :
    Calls Tryd.prog 86 #[.int .i64 a0] w fun e w' => e = .returned (.int .u64 r) ∧ Drawn0 w w' := by
  have H : (if a0 < 0 then (some (IntKind.u64.wrap ((IntKind.u64.wrap (wrap64 (-(wrap64 (a0 + 1))))) + 1))) else (some (IntKind.u64.wrap (a0)))) = some r := h
  clear h
  by_cases c2 : a0 < 0
  · rw [if_pos c2] at H
    have c2b0 : decide (a0 < 0) = true := decide_eq_true c2
    clear c2
    obtain rfl := Option.some.inj H
    go_enter Tryd.func86, Tryd.ntmps86
    go_wp2
    go_ret
    exact ⟨by first | rfl | (simp; done) | (simp [*]; done), by repeat (first | exact Drawn0.refl _ | apply Drawn0.step)⟩
  · rw [if_neg c2] at H
    have c2b0 : decide (a0 < 0) = false := decide_eq_false c2
    clear c2
    obtain rfl := Option.some.inj H
    go_enter Tryd.func86, Tryd.ntmps86
    go_wp2
    go_ret
    exact ⟨by first | rfl | (simp; done) | (simp [*]; done), by repeat (first | exact Drawn0.refl _ | apply Drawn0.step)⟩

/-! ### ephemerisref1_Div: function 62 -/
def ephemerisref1_Div.l0 : Nat → Int → Int → Int → Int → Int → Option (Int × Int)
  | 0, _, _, _, _, _ => none
  | k + 1, x7, x8, x9, x10, x11 => if 0 ≤ x11 then (if (x10 / 9223372036854775808) = 1 then (ephemerisref1_Div.l0 k x7 x8 (Go.bits .or .u64 x9 (shl .u64 1 x11)) (IntKind.u64.wrap ((Go.bits .or .u64 (IntKind.u64.wrap (x10 * 2)) (Go.bits .and .u64 (shr .u64 x7 x11) 1)) - x8)) (wrap64 (x11 - 1))) else (if x8 ≤ (Go.bits .or .u64 (IntKind.u64.wrap (x10 * 2)) (Go.bits .and .u64 (shr .u64 x7 x11) 1)) then (ephemerisref1_Div.l0 k x7 x8 (Go.bits .or .u64 x9 (shl .u64 1 x11)) (IntKind.u64.wrap ((Go.bits .or .u64 (IntKind.u64.wrap (x10 * 2)) (Go.bits .and .u64 (shr .u64 x7 x11) 1)) - x8)) (wrap64 (x11 - 1))) else (ephemerisref1_Div.l0 k x7 x8 x9 (Go.bits .or .u64 (IntKind.u64.wrap (x10 * 2)) (Go.bits .and .u64 (shr .u64 x7 x11) 1)) (wrap64 (x11 - 1))))) else some (x9, x10)
/-- The signs, put right: 'm': the signs differ; 'n': the divisor is negative. -/
def ephemerisref1_Div.e1 (m n : Bool) (q r : Int) : Int × Int × Int :=
  if m = false ∧ q > 9223372036854775807 then (0, 0, 14) else (if m = true then wrap64 (IntKind.u64.wrap (-q)) else wrap64 q, if n = true then wrap64 (IntKind.u64.wrap (-r)) else wrap64 r, 0)
def ephemerisref1_Div.e0 (m n : Bool) (Y q r : Int) : Int × Int × Int :=
  if m = true ∧ r ≠ 0 then ephemerisref1_Div.e1 m n (IntKind.u64.wrap (q + 1)) (IntKind.u64.wrap (Y - r)) else ephemerisref1_Div.e1 m n q r
def ephemerisref1_Div.f (k : Nat) (a0 : Int) (a1 : Int) : Option (Int × Int × Int) := if a1 = 0 then (some (0, 0, 1)) else ((ephemerisref1_Size.f a0).bind fun t105 => ((ephemerisref1_Size.f a1).bind fun t106 => ((ephemerisref1_Div.l0 k t105 t106 0 0 63).bind fun t => some (ephemerisref1_Div.e0 ((decide (a0 < 0)) != (decide (a1 < 0))) (decide (a1 < 0)) t106 t.1 t.2))))
theorem ephemerisref1_Div.mono_l : ∀ k y0 y1 y2 y3 y4, LeO (ephemerisref1_Div.l0 k y0 y1 y2 y3 y4) (ephemerisref1_Div.l0 (k + 1) y0 y1 y2 y3 y4)
  | 0 => fun _ _ _ _ _ r h => by simp [ephemerisref1_Div.l0] at h
  | k + 1 => by
    have ih0 := ephemerisref1_Div.mono_l k
    intro y0 y1 y2 y3 y4
    unfold ephemerisref1_Div.l0
    exact LeO.ite (LeO.ite (ih0 _ _ _ _ _) (LeO.ite (ih0 _ _ _ _ _) (ih0 _ _ _ _ _))) (LeO.refl _)
theorem ephemerisref1_Div.mono : ∀ a0 a1 k, LeO (ephemerisref1_Div.f k a0 a1) (ephemerisref1_Div.f (k + 1) a0 a1) := by
  intro a0 a1 k
  unfold ephemerisref1_Div.f
  exact LeO.ite (LeO.refl _) (LeO.bind (LeO.refl _) fun _ => LeO.bind (LeO.refl _) fun _ => LeO.bind (ephemerisref1_Div.mono_l _ _ _ _ _ _) fun _ => LeO.refl _)
set_option maxHeartbeats 8000000 in
set_option maxRecDepth 100000 in
theorem ephemerisref1_Div.part (k : Nat) (a0 : Int) (a1 : Int) (r1 : Int) (r2 : Int) (r3 : Int) (w : World) (sa sb : Bool) (hsa : decide (a0 < 0) = sa) (hsb : decide (a1 < 0) = sb) (t105 t106 q r : Int) (A4 : Aside0 (ephemerisref1_Size.f a0 = some t105)) (A5 : Aside0 (ephemerisref1_Size.f a1 = some t106)) (c3 : (a1 == 0) = false)
    (H' : Aside0 (ephemerisref1_Div.l0 k t105 t106 0 0 63 = some (q, r))) (HE : Aside0 (ephemerisref1_Div.e0 (sa != sb) sb t106 q r = (r1, r2, r3))) :
    Calls Tryd.prog 62 #[.int .i64 a0, .int .i64 a1] w fun e w' => e = .returned (.tuple #[.int .i64 r1, .int .i64 r2, .int .i64 r3]) ∧ Drawn0 w w' := by
  cases sa <;> cases sb
  all_goals
    go_enter Tryd.func62, Tryd.ntmps62
    go_wp2_with (first | ((with_reducible refine gate_callee (f := 86) rfl ?_); refine goesL_ (some 19) rfl rfl Tryd.func86 (by kernel_rfl) rfl #[.int .i64 a0] rfl (by (try simp only [List.map_toArray, List.map_cons, List.map_nil]); first | done | rfl | (simp only [List.length_drop, List.length_take]; rfl)) ?_; (with_reducible refine (ephemerisref1_Size.calls a0 t105 _ A4.out).mono ?_); rintro e w' ⟨rfl, ⟨nd, rfl⟩⟩; refine ⟨_, rfl, ?_⟩) | ((with_reducible refine gate_callee (f := 86) rfl ?_); refine goesL_ (some 21) rfl rfl Tryd.func86 (by kernel_rfl) rfl #[.int .i64 a1] rfl (by (try simp only [List.map_toArray, List.map_cons, List.map_nil]); first | done | rfl | (simp only [List.length_drop, List.length_take]; rfl)) ?_; (with_reducible refine (ephemerisref1_Size.calls a1 t106 _ A5.out).mono ?_); rintro e w' ⟨rfl, ⟨nd, rfl⟩⟩; refine ⟨_, rfl, ?_⟩))
    go_loopg [9, 10, 11] k (fun kq v9 v10 v11 w' => ∃ (x9_1 : Int) (x10_1 : Int) (x11_1 : Int), v9 = .int .u64 x9_1 ∧ v10 = .int .u64 x10_1 ∧ v11 = .int .i64 x11_1 ∧ Aside0 (ephemerisref1_Div.l0 kq t105 t106 x9_1 x10_1 x11_1 = some (q, r)) ∧ Aside0 (kq ≤ k) ∧ Drawn0 w w')
    case atStart => exact ⟨(0), (0), (63), rfl, rfl, rfl, H', ⟨Nat.le_refl _⟩, by repeat (first | exact Drawn0.refl _ | apply Drawn0.step)⟩
    case round =>
      clear H'
      obtain ⟨x9_1, x10_1, x11_1, rfl, rfl, rfl, HA, HK1, ⟨m1, rfl⟩⟩ := hrel
      cases gk with
      | zero => exact absurd HA.out (by simp [ephemerisref1_Div.l0])
      | succ k1 =>
        have H := HA.out
        clear HA
        simp only [ephemerisref1_Div.l0] at H
        by_cases c6 : 0 ≤ x11_1
        · rw [if_pos c6] at H
          have c6b0 : decide (0 ≤ x11_1) = true := decide_eq_true c6
          have c7b0 := eq_true c6
          clear c6
          obtain ⟨ji8, hji8⟩ : ∃ j_ : Int, (shr .u64 t105 x11_1) = j_ := ⟨_, rfl⟩
          rw [hji8] at H
          have hji8_ : (t105 / 2 ^ min x11_1.toNat 64) = ji8 := hji8
          obtain ⟨ji11, hji11⟩ : ∃ j_ : Int, (shl .u64 1 x11_1) = j_ := ⟨_, rfl⟩
          rw [hji11] at H
          have hji11_ : (IntKind.u64.wrap (1 * 2 ^ min x11_1.toNat 64)) = ji11 := hji11
          have hji11u : (IntKind.u64.wrap (2 ^ min x11_1.toNat 64)) = ji11 := by have h_ := hji11_; rw [Int.one_mul] at h_; exact h_
          by_cases c9 : (x10_1 / 9223372036854775808) = 1
          · rw [if_pos c9] at H
            have c9b0 : ((x10_1 / 9223372036854775808) == 1) = true := beq_iff_eq.mpr c9
            have c9b1 : ((x10_1 / 9223372036854775808) != 1) = false := bne_eq_false_iff_eq.mpr c9
            clear c9
            have H' := Aside0.mk H
            clear H
            go_wp2
            go_roundg k1
            case measure => have := HK1.out; omega
            case rel => exact ⟨_, _, _, rfl, rfl, rfl, H', ⟨by have := HK1.out; omega⟩, by repeat (first | exact Drawn0.refl _ | apply Drawn0.step)⟩
          · rw [if_neg c9] at H
            have c9b0 : ((x10_1 / 9223372036854775808) == 1) = false := beq_eq_false_iff_ne.mpr c9
            have c9b1 : ((x10_1 / 9223372036854775808) != 1) = true := bne_iff_ne.mpr c9
            clear c9
            by_cases c12 : t106 ≤ (Go.bits .or .u64 (IntKind.u64.wrap (x10_1 * 2)) (Go.bits .and .u64 (ji8) 1))
            · rw [if_pos c12] at H
              have c12b0 : decide (t106 ≤ (Go.bits .or .u64 (IntKind.u64.wrap (x10_1 * 2)) (Go.bits .and .u64 (ji8) 1))) = true := decide_eq_true c12
              clear c12
              have H' := Aside0.mk H
              clear H
              go_wp2
              go_roundg k1
              case measure => have := HK1.out; omega
              case rel => exact ⟨_, _, _, rfl, rfl, rfl, H', ⟨by have := HK1.out; omega⟩, by repeat (first | exact Drawn0.refl _ | apply Drawn0.step)⟩
            · rw [if_neg c12] at H
              have c12b0 : decide (t106 ≤ (Go.bits .or .u64 (IntKind.u64.wrap (x10_1 * 2)) (Go.bits .and .u64 (ji8) 1))) = false := decide_eq_false c12
              clear c12
              have H' := Aside0.mk H
              clear H
              go_wp2
              go_roundg k1
              case measure => have := HK1.out; omega
              case rel => exact ⟨_, _, _, rfl, rfl, rfl, H', ⟨by have := HK1.out; omega⟩, by repeat (first | exact Drawn0.refl _ | apply Drawn0.step)⟩
        · rw [if_neg c6] at H
          have c6b0 : decide (0 ≤ x11_1) = false := decide_eq_false c6
          clear c6
          simp only [Option.some.injEq, Prod.mk.injEq] at H
          obtain ⟨rfl, rfl⟩ := H
          have HX := HE.out
          clear HE
          simp only [ephemerisref1_Div.e0] at HX
          by_cases c1 : x10_1 = 0
          · have c1b0 : (x10_1 == 0) = true := beq_iff_eq.mpr c1
            have c1b1 : (x10_1 != 0) = false := bne_eq_false_iff_eq.mpr c1
            rw [if_neg (fun h => h.2 c1)] at HX
            clear c1
            simp only [ephemerisref1_Div.e1] at HX
            by_cases c2 : x9_1 > 9223372036854775807
            · have c2b0 : decide (9223372036854775807 < x9_1) = true := decide_eq_true c2
              first | rw [if_pos ⟨rfl, c2⟩] at HX | rw [if_neg (fun h => absurd h.1 (by decide))] at HX
              clear c2
              simp only [reduceIte, Prod.mk.injEq, bne_self_eq_false, Bool.true_bne, Bool.false_bne, Bool.not_true, Bool.not_false, Bool.false_eq_true] at HX
              obtain ⟨rfl, rfl, rfl⟩ := HX
              go_wp2
              go_ret3
              exact ⟨by first | rfl | (simp; done) | (simp [*]; done), by repeat (first | exact Drawn0.refl _ | apply Drawn0.step)⟩
            · have c2b0 : decide (9223372036854775807 < x9_1) = false := decide_eq_false c2
              rw [if_neg (fun h => c2 h.2)] at HX
              clear c2
              simp only [reduceIte, Prod.mk.injEq, bne_self_eq_false, Bool.true_bne, Bool.false_bne, Bool.not_true, Bool.not_false, Bool.false_eq_true] at HX
              obtain ⟨rfl, rfl, rfl⟩ := HX
              go_wp2
              go_ret3
              exact ⟨by first | rfl | (simp; done) | (simp [*]; done), by repeat (first | exact Drawn0.refl _ | apply Drawn0.step)⟩
          · have c1b0 : (x10_1 == 0) = false := beq_eq_false_iff_ne.mpr c1
            have c1b1 : (x10_1 != 0) = true := bne_iff_ne.mpr c1
            first | rw [if_pos ⟨rfl, c1⟩] at HX | rw [if_neg (fun h => absurd h.1 (by decide))] at HX
            clear c1
            simp only [ephemerisref1_Div.e1] at HX
            by_cases c2 : x9_1 > 9223372036854775807
            · have c2b0 : decide (9223372036854775807 < x9_1) = true := decide_eq_true c2
              first | rw [if_pos ⟨rfl, c2⟩] at HX | rw [if_neg (fun h => absurd h.1 (by decide))] at HX
              clear c2
              simp only [reduceIte, Prod.mk.injEq, bne_self_eq_false, Bool.true_bne, Bool.false_bne, Bool.not_true, Bool.not_false, Bool.false_eq_true] at HX
              obtain ⟨rfl, rfl, rfl⟩ := HX
              go_wp2
              go_ret3
              exact ⟨by first | rfl | (simp; done) | (simp [*]; done), by repeat (first | exact Drawn0.refl _ | apply Drawn0.step)⟩
            · have c2b0 : decide (9223372036854775807 < x9_1) = false := decide_eq_false c2
              simp only [Bool.true_eq_false, false_and, if_false, true_and, bne_self_eq_false, Bool.true_bne, Bool.false_bne, Bool.not_true, Bool.not_false] at HX
              (try rw [if_neg c2] at HX)
              clear c2
              simp only [reduceIte, Prod.mk.injEq, bne_self_eq_false, Bool.true_bne, Bool.false_bne, Bool.not_true, Bool.not_false, Bool.false_eq_true] at HX
              obtain ⟨rfl, rfl, rfl⟩ := HX
              go_wp2
              go_ret3
              exact ⟨by first | rfl | (simp; done) | (simp [*]; done), by repeat (first | exact Drawn0.refl _ | apply Drawn0.step)⟩
set_option maxHeartbeats 8000000 in
set_option maxRecDepth 100000 in
theorem ephemerisref1_Div.calls (k : Nat) (a0 : Int) (a1 : Int) (r1 : Int) (r2 : Int) (r3 : Int) (w : World) (h : ephemerisref1_Div.f k a0 a1 = some (r1, r2, r3)) :
    Calls Tryd.prog 62 #[.int .i64 a0, .int .i64 a1] w fun e w' => e = .returned (.tuple #[.int .i64 r1, .int .i64 r2, .int .i64 r3]) ∧ Drawn0 w w' := by
  unfold ephemerisref1_Div.f at h
  by_cases c3 : a1 = 0
  · rw [if_pos c3] at h
    have c3b0 : (a1 == 0) = true := beq_iff_eq.mpr c3
    clear c3
    simp only [Option.some.injEq, Prod.mk.injEq] at h
    obtain ⟨rfl, rfl, rfl⟩ := h
    go_enter Tryd.func62, Tryd.ntmps62
    go_wp2
    go_ret3
    exact ⟨by first | rfl | (simp; done) | (simp [*]; done), by repeat (first | exact Drawn0.refl _ | apply Drawn0.step)⟩
  · rw [if_neg c3] at h
    obtain ⟨t1, h1, h⟩ := Option.bind_eq_some_iff.mp h
    obtain ⟨t2, h2, h⟩ := Option.bind_eq_some_iff.mp h
    obtain ⟨⟨q, r⟩, h3, h⟩ := Option.bind_eq_some_iff.mp h
    exact ephemerisref1_Div.part k a0 a1 r1 r2 r3 w _ _ rfl rfl t1 t2 q r ⟨h1⟩ ⟨h2⟩ (beq_eq_false_iff_ne.mpr c3) ⟨h3⟩ ⟨Option.some.inj h⟩

/-! ### ephemerisref1_Mod: function 30 -/
def ephemerisref1_Mod.f (k : Nat) (a0 : Int) (a1 : Int) : Option (Int) := (ephemerisref1_Div.f k a0 a1).bind fun bt106 => (some bt106.2.1)
theorem ephemerisref1_Mod.mono : ∀ a0 a1 k, LeO (ephemerisref1_Mod.f k a0 a1) (ephemerisref1_Mod.f (k + 1) a0 a1) := by
  intro a0 a1 k
  unfold ephemerisref1_Mod.f
  repeat' first
      | (with_reducible exact ephemerisref1_Div.mono _ _ _)
      | (with_reducible exact LeO.refl _)
      | (with_reducible exact LeO.none _)
      | (with_reducible refine LeO.ite ?_ ?_)
      | (with_reducible refine LeO.bind ?_ (fun _ => ?_))
      | exact ephemerisref1_Div.mono _ _ _
      | exact LeO.none _
      | refine LeO.ite ?_ ?_
      | refine LeO.bind ?_ (fun _ => ?_)
set_option maxHeartbeats 8000000 in
set_option maxRecDepth 100000 in
theorem ephemerisref1_Mod.calls (k : Nat) (a0 : Int) (a1 : Int) (r : Int) (w : World) (h : ephemerisref1_Mod.f k a0 a1 = some r) :
    Calls Tryd.prog 30 #[.int .i64 a0, .int .i64 a1] w fun e w' => e = .returned (.int .i64 r) ∧ Drawn0 w w' := by
  have H : ((ephemerisref1_Div.f k a0 a1).bind fun bt106 => (some bt106.2.1)) = some r := h
  clear h
  replace H := Option.bind_eq_some_iff.mp H
  obtain ⟨⟨t106, t107, t108⟩, A30, H⟩ := H
  replace H : (some t107) = some r := H
  have A3 := Aside0.mk A30
  clear A30
  obtain rfl := Option.some.inj H
  go_enter Tryd.func30, Tryd.ntmps30
  go_wp2_with (first | ((with_reducible refine gate_callee (f := 62) rfl ?_); refine goesL_ (some 11) rfl rfl Tryd.func62 (by kernel_rfl) rfl #[.int .i64 a0, .int .i64 a1] rfl (by (try simp only [List.map_toArray, List.map_cons, List.map_nil]); first | done | rfl | (simp only [List.length_drop, List.length_take]; rfl)) ?_; (with_reducible refine (ephemerisref1_Div.calls k a0 a1 t106 t107 t108 _ A3.out).mono ?_); rintro e w' ⟨rfl, ⟨nd, rfl⟩⟩; refine ⟨_, rfl, ?_⟩))
  go_ret
  exact ⟨by first | rfl | (simp; done) | (simp [*]; done), by repeat (first | exact Drawn0.refl _ | apply Drawn0.step)⟩

/-! ### ephemerisref1_Offset: function 43 -/
def ephemerisref1_Offset.f (k : Nat) (a0 : Int) : Option (Bool) := (ephemerisref1_In.f a0 (-64800000) 64800000).bind fun t109 => (if t109 = true then ((ephemerisref1_Mod.f k a0 1000).bind fun t110 => (some (t110 == 0))) else (some false))
theorem ephemerisref1_Offset.mono : ∀ a0 k, LeO (ephemerisref1_Offset.f k a0) (ephemerisref1_Offset.f (k + 1) a0) := by
  intro a0 k
  unfold ephemerisref1_Offset.f
  repeat' first
      | (with_reducible exact ephemerisref1_Mod.mono _ _ _)
      | (with_reducible exact LeO.refl _)
      | (with_reducible exact LeO.none _)
      | (with_reducible refine LeO.ite ?_ ?_)
      | (with_reducible refine LeO.bind ?_ (fun _ => ?_))
      | exact ephemerisref1_Mod.mono _ _ _
      | exact LeO.none _
      | refine LeO.ite ?_ ?_
      | refine LeO.bind ?_ (fun _ => ?_)
set_option maxHeartbeats 8000000 in
set_option maxRecDepth 100000 in
theorem ephemerisref1_Offset.calls (k : Nat) (a0 : Int) (r : Bool) (w : World) (h : ephemerisref1_Offset.f k a0 = some r) :
    Calls Tryd.prog 43 #[.int .i64 a0] w fun e w' => e = .returned (.bool r) ∧ Drawn0 w w' := by
  have H : ((ephemerisref1_In.f a0 (-64800000) 64800000).bind fun t109 => (if t109 = true then ((ephemerisref1_Mod.f k a0 1000).bind fun t110 => (some (t110 == 0))) else (some false))) = some r := h
  clear h
  replace H := Option.bind_eq_some_iff.mp H
  obtain ⟨t109, A20, H⟩ := H
  replace H : (if t109 = true then ((ephemerisref1_Mod.f k a0 1000).bind fun t110 => (some (t110 == 0))) else (some false)) = some r := H
  have A2 := Aside0.mk A20
  clear A20
  by_cases c3 : t109 = true
  · subst c3
    have H1 : ((ephemerisref1_Mod.f k a0 1000).bind fun t110 => (some (t110 == 0))) = some r := by rw [if_pos rfl] at H; exact H
    clear H
    have H := H1
    clear H1
    replace H := Option.bind_eq_some_iff.mp H
    obtain ⟨t110, A40, H⟩ := H
    replace H : (some (t110 == 0)) = some r := H
    have A4 := Aside0.mk A40
    clear A40
    obtain rfl := Option.some.inj H
    go_enter Tryd.func43, Tryd.ntmps43
    go_wp2_with (first | ((with_reducible refine gate_callee (f := 18) rfl ?_); refine goesL_ (some 4) rfl rfl Tryd.func18 (by kernel_rfl) rfl #[.int .i64 a0, .int .i64 (-64800000), .int .i64 64800000] rfl (by (try simp only [List.map_toArray, List.map_cons, List.map_nil]); first | done | rfl | (simp only [List.length_drop, List.length_take]; rfl)) ?_; (with_reducible refine (ephemerisref1_In.calls a0 (-64800000) 64800000 true _ A2.out).mono ?_); rintro e w' ⟨rfl, ⟨nd, rfl⟩⟩; refine ⟨_, rfl, ?_⟩) | (go_at_call 30; (with_reducible refine (ephemerisref1_Mod.calls k a0 1000 t110 _ A4.out).mono ?_); rintro e w' ⟨rfl, ⟨nd, rfl⟩⟩))
    go_ret
    exact ⟨by first | rfl | (simp; done) | (simp [*]; done), by repeat (first | exact Drawn0.refl _ | apply Drawn0.step)⟩
  · replace c3 := Bool.eq_false_iff.mpr c3
    subst c3
    have H1 : (some false) = some r := by rw [if_neg (show ¬ (false = true) by decide)] at H; exact H
    clear H
    have H := H1
    clear H1
    obtain rfl := Option.some.inj H
    go_enter Tryd.func43, Tryd.ntmps43
    go_wp2_with (first | ((with_reducible refine gate_callee (f := 18) rfl ?_); refine goesL_ (some 4) rfl rfl Tryd.func18 (by kernel_rfl) rfl #[.int .i64 a0, .int .i64 (-64800000), .int .i64 64800000] rfl (by (try simp only [List.map_toArray, List.map_cons, List.map_nil]); first | done | rfl | (simp only [List.length_drop, List.length_take]; rfl)) ?_; (with_reducible refine (ephemerisref1_In.calls a0 (-64800000) 64800000 false _ A2.out).mono ?_); rintro e w' ⟨rfl, ⟨nd, rfl⟩⟩; refine ⟨_, rfl, ?_⟩))
    go_ret
    exact ⟨by first | rfl | (simp; done) | (simp [*]; done), by repeat (first | exact Drawn0.refl _ | apply Drawn0.step)⟩

/-! ### strings_Trim: function 80 -/
/-- The bytes of a set of ASCII bytes are cut off from both ends. -/
def strings_Trim.f (a0 : ByteArray) (a1 : ByteArray) : Option (ByteArray) := if a0.size ≤ 9223372036854775807 ∧ a1.data.toList.all (fun b => decide (b.toNat < 128)) = true ∧ a1.size < 4294967281 then some ⟨(Go.Lib.trimS a0.data.toList a1.data.toList).toArray⟩ else none
def strings_Trim.ren : Go.Shelf.Ren := ⟨fun | 119 => 133 | 120 => 137 | 137 => 79 | 151 => 124 | 152 => 119 | 160 => 80 | 197 => 123 | 217 => 103 | 224 => 134 | 225 => 135 | 227 => 106 | 228 => 121 | 231 => 104 | 232 => 105 | 233 => 107 | 234 => 108 | 235 => 109 | 236 => 110 | 260 => 136 | 266 => 122 | 271 => 125 | n => n, fun | 0 => 0 | 3 => 3 | 4 => 4 | 5 => 5 | 9 => 9 | 21 => 21 | 46 => 147 | 105 => 184 | 116 => 172 | 117 => 173 | 119 => 199 | 124 => 176 | 138 => 201 | 139 => 202 | n => n, fun | 3 => 11 | 4 => 12 | n => n⟩
theorem strings_Trim.lays : Go.Proofs.Lays.n160 Tryd.prog strings_Trim.ren := {
  mixed := by kernel_rfl
  f119 := Tryd.func133.trans (congrArg some (by kernel_rfl))
  f120 := Tryd.func137.trans (congrArg some (by kernel_rfl))
  f137 := Tryd.func79.trans (congrArg some (by kernel_rfl))
  f151 := Tryd.func124.trans (congrArg some (by kernel_rfl))
  f152 := Tryd.func119.trans (congrArg some (by kernel_rfl))
  f160 := Tryd.func80.trans (congrArg some (by kernel_rfl))
  f197 := Tryd.func123.trans (congrArg some (by kernel_rfl))
  f217 := Tryd.func103.trans (congrArg some (by kernel_rfl))
  f224 := Tryd.func134.trans (congrArg some (by kernel_rfl))
  f225 := Tryd.func135.trans (congrArg some (by kernel_rfl))
  f227 := Tryd.func106.trans (congrArg some (by kernel_rfl))
  f228 := Tryd.func121.trans (congrArg some (by kernel_rfl))
  f231 := Tryd.func104.trans (congrArg some (by kernel_rfl))
  f232 := Tryd.func105.trans (congrArg some (by kernel_rfl))
  f233 := Tryd.func107.trans (congrArg some (by kernel_rfl))
  f234 := Tryd.func108.trans (congrArg some (by kernel_rfl))
  f235 := Tryd.func109.trans (congrArg some (by kernel_rfl))
  f236 := Tryd.func110.trans (congrArg some (by kernel_rfl))
  f260 := Tryd.func136.trans (congrArg some (by kernel_rfl))
  f266 := Tryd.func122.trans (congrArg some (by kernel_rfl))
  f271 := Tryd.func125.trans (congrArg some (by kernel_rfl))
  t0 := Tryd.underlying0
  a0 := Tryd.isAgg0
  z0 := Tryd.sizeOf0
  v0 := Tryd.zeroValue0
  t3 := Tryd.underlying3
  a3 := Tryd.isAgg3
  z3 := Tryd.sizeOf3
  v3 := Tryd.zeroValue3
  t4 := Tryd.underlying4
  a4 := Tryd.isAgg4
  z4 := Tryd.sizeOf4
  v4 := Tryd.zeroValue4
  t5 := Tryd.underlying5
  a5 := Tryd.isAgg5
  z5 := Tryd.sizeOf5
  v5 := Tryd.zeroValue5
  t9 := Tryd.underlying9
  a9 := Tryd.isAgg9
  z9 := Tryd.sizeOf9
  v9 := Tryd.zeroValue9
  t21 := Tryd.underlying21
  a21 := Tryd.isAgg21
  z21 := Tryd.sizeOf21
  v21 := Tryd.zeroValue21
  t46 := Tryd.underlying147
  a46 := Tryd.isAgg147
  z46 := Tryd.sizeOf147
  v46 := Tryd.zeroValue147
  t105 := Tryd.underlying184
  a105 := Tryd.isAgg184
  z105 := Tryd.sizeOf184
  v105 := Tryd.zeroValue184
  t116 := Tryd.underlying172
  a116 := Tryd.isAgg172
  z116 := Tryd.sizeOf172
  t117 := Tryd.underlying173
  a117 := Tryd.isAgg173
  z117 := Tryd.sizeOf173
  v117 := Tryd.zeroValue173
  t119 := Tryd.underlying199
  a119 := Tryd.isAgg199
  z119 := Tryd.sizeOf199
  t124 := Tryd.underlying176
  a124 := Tryd.isAgg176
  z124 := Tryd.sizeOf176
  v124 := Tryd.zeroValue176
  t138 := Tryd.underlying201
  a138 := Tryd.isAgg201
  z138 := Tryd.sizeOf201
  v138 := Tryd.zeroValue201
  t139 := Tryd.underlying202
  a139 := Tryd.isAgg202
  z139 := Tryd.sizeOf202
  v139 := Tryd.zeroValue202
  g3 := by kernel_rfl
  g4 := by kernel_rfl }
theorem strings_Trim.calls (a0 : ByteArray) (a1 : ByteArray) (r : ByteArray) (w : World) (h : strings_Trim.f a0 a1 = some r) :
    Calls Tryd.prog 80 #[.string a0, .string a1] w fun e w' => e = .returned (.string r) ∧ Below w.heap.size w w' := by
  unfold strings_Trim.f at h
  by_cases c : a0.size ≤ 9223372036854775807 ∧ a1.data.toList.all (fun b => decide (b.toNat < 128)) = true ∧ a1.size < 4294967281
  · rw [if_pos c] at h
    obtain rfl := Option.some.inj h
    exact Go.Proofs.Any.strings_Trim_laid strings_Trim.lays (by kernel_rfl) a0 a1 w c.1 c.2.2 (Go.Proofs.ascii_of_all c.2.1)
  · rw [if_neg c] at h; cases h

/-! ### ephemerisref1_Label: function 52 -/
def ephemerisref1_Label.f (a0 : ByteArray) : Option (Bool) := (ephemerisref1_In.f (a0.size : Int) 1 6).bind fun t114 => (if t114 = true then ((strings_Trim.f a0 (⟨#[65, 66, 67, 68, 69, 70, 71, 72, 73, 74, 75, 76, 77, 78, 79, 80, 81, 82, 83, 84, 85, 86, 87, 88, 89, 90]⟩ : ByteArray)).bind fun t115 => (some (t115.toList == ([] : List UInt8)))) else (some false))
set_option maxHeartbeats 8000000 in
set_option maxRecDepth 100000 in
theorem ephemerisref1_Label.calls (a0 : ByteArray) (r : Bool) (w : World) (h : ephemerisref1_Label.f a0 = some r) :
    Calls Tryd.prog 52 #[.string a0] w fun e w' => e = .returned (.bool r) ∧ Below w.heap.size w w' := by
  have HB := Aside0.mk (Below.refl w.heap.size w)
  have H : ((ephemerisref1_In.f (a0.size : Int) 1 6).bind fun t114 => (if t114 = true then ((strings_Trim.f a0 (⟨#[65, 66, 67, 68, 69, 70, 71, 72, 73, 74, 75, 76, 77, 78, 79, 80, 81, 82, 83, 84, 85, 86, 87, 88, 89, 90]⟩ : ByteArray)).bind fun t115 => (some (t115.toList == ([] : List UInt8)))) else (some false))) = some r := h
  clear h
  replace H := Option.bind_eq_some_iff.mp H
  obtain ⟨t114, A20, H⟩ := H
  replace H : (if t114 = true then ((strings_Trim.f a0 (⟨#[65, 66, 67, 68, 69, 70, 71, 72, 73, 74, 75, 76, 77, 78, 79, 80, 81, 82, 83, 84, 85, 86, 87, 88, 89, 90]⟩ : ByteArray)).bind fun t115 => (some (t115.toList == ([] : List UInt8)))) else (some false)) = some r := H
  have A2 := Aside0.mk A20
  clear A20
  by_cases c3 : t114 = true
  · subst c3
    have H1 : ((strings_Trim.f a0 (⟨#[65, 66, 67, 68, 69, 70, 71, 72, 73, 74, 75, 76, 77, 78, 79, 80, 81, 82, 83, 84, 85, 86, 87, 88, 89, 90]⟩ : ByteArray)).bind fun t115 => (some (t115.toList == ([] : List UInt8)))) = some r := by rw [if_pos rfl] at H; exact H
    clear H
    have H := H1
    clear H1
    replace H := Option.bind_eq_some_iff.mp H
    obtain ⟨t115, A40, H⟩ := H
    replace H : (some (t115.toList == ([] : List UInt8))) = some r := H
    have A4 := Aside0.mk A40
    clear A40
    obtain rfl := Option.some.inj H
    go_enter Tryd.func52, Tryd.ntmps52
    go_wp2_with (first | ((with_reducible refine gate_callee (f := 18) rfl ?_); refine goesL_ (some 5) rfl rfl Tryd.func18 (by kernel_rfl) rfl #[.int .i64 (a0.size : Int), .int .i64 1, .int .i64 6] rfl (by (try simp only [List.map_toArray, List.map_cons, List.map_nil]); first | done | rfl | (simp only [List.length_drop, List.length_take]; rfl)) ?_; (with_reducible refine (ephemerisref1_In.calls (a0.size : Int) 1 6 true _ A2.out).mono ?_); rintro e w' ⟨rfl, ⟨nd, rfl⟩⟩; refine ⟨_, rfl, ?_⟩) | (go_at_call 80; (with_reducible refine (strings_Trim.calls a0 (⟨#[65, 66, 67, 68, 69, 70, 71, 72, 73, 74, 75, 76, 77, 78, 79, 80, 81, 82, 83, 84, 85, 86, 87, 88, 89, 90]⟩ : ByteArray) t115 _ A4.out).mono ?_); rintro e w5 ⟨rfl, hb⟩; have n0_ := Aside0.mk (below_step (by repeat (first | (with_reducible first | exact HB.out | apply below_alloc | apply pw_below_drewN | apply below_drew1) | exact HB.out)) hb); clear HB; have HB := n0_; clear n0_; (try clear hb); (try clear hb2); (try clear hk); (try clear hi)))
    go_ret
    exact ⟨by first | rfl | (simp [errW_none, errW_some] <;> rfl) | (simp [*, errW_none, errW_some] <;> rfl), by repeat (first | (with_reducible first | exact HB.out | apply below_alloc | apply pw_below_drewN | apply below_drew1) | exact HB.out)⟩
  · replace c3 := Bool.eq_false_iff.mpr c3
    subst c3
    have H1 : (some false) = some r := by rw [if_neg (show ¬ (false = true) by decide)] at H; exact H
    clear H
    have H := H1
    clear H1
    obtain rfl := Option.some.inj H
    go_enter Tryd.func52, Tryd.ntmps52
    go_wp2_with (first | ((with_reducible refine gate_callee (f := 18) rfl ?_); refine goesL_ (some 5) rfl rfl Tryd.func18 (by kernel_rfl) rfl #[.int .i64 (a0.size : Int), .int .i64 1, .int .i64 6] rfl (by (try simp only [List.map_toArray, List.map_cons, List.map_nil]); first | done | rfl | (simp only [List.length_drop, List.length_take]; rfl)) ?_; (with_reducible refine (ephemerisref1_In.calls (a0.size : Int) 1 6 false _ A2.out).mono ?_); rintro e w' ⟨rfl, ⟨nd, rfl⟩⟩; refine ⟨_, rfl, ?_⟩))
    go_ret
    exact ⟨by first | rfl | (simp [errW_none, errW_some] <;> rfl) | (simp [*, errW_none, errW_some] <;> rfl), by repeat (first | (with_reducible first | exact HB.out | apply below_alloc | apply pw_below_drewN | apply below_drew1) | exact HB.out)⟩

end Go.Proofs.YtpkgpohjmcoplaaDoor.PForecastYears
