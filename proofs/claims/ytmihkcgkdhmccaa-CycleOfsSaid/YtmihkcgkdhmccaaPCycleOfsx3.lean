/- The walks of the functions of this part. The proof of ephemerisref1_Div is written by hand; the other ones are as the kit's print tells them. -/
/- The walks of the functions of this part. The proof of ephemerisref1_Div is written by hand; the other ones are as the kit's print tells them. -/
import Derived.Test.YtmihkcgkdhmccaaPCycleOfsx0
import Derived.Test.YtmihkcgkdhmccaaPCycleOfsx2
namespace Go.Proofs.Ytmihkcgkdhmccaa.PCycleOfs
open Go.RowKit Go.Proofs.YtmihkcgkdhmccaaW.PrintWords Go.Proofs.YtmihkcgkdhmccaaW.PrintLast Go.Proofs.YtmihkcgkdhmccaaW.PrintMore
attribute [local go_sem] max2_int min2_int max_two min_two max_three min_three max_four min_four   -- for this text's walks alone
set_option linter.unusedVariables false
set_option linter.unusedSimpArgs false

/-! ### ephemerisref1_Gcd: function 42 -/
mutual
def ephemerisref1_Gcd.j0 : Nat → Int → Int → Bool → Option (Int)
  | 0, _, _, _ => none
  | k + 1, x5, x6, x17 => if x17 = true then (some (IntKind.u64.wrap (x5 + x6))) else (ephemerisref1_Gcd.l0 k x5 x6 0)
def ephemerisref1_Gcd.j2 : Nat → Int → Int → Int → Option (Int)
  | 0, _, _, _ => none
  | k + 1, x5, x6, x7 => ephemerisref1_Gcd.l1 k x5 x6 x7
def ephemerisref1_Gcd.l1 : Nat → Int → Int → Int → Option (Int)
  | 0, _, _, _ => none
  | k + 1, x5, x6, x7 => if x5 = x6 then (if 0 ≤ x7 then (some (shl .u64 x5 x7)) else (none)) else (if (Go.bits .and .u64 x5 1) = 0 then (ephemerisref1_Gcd.l1 k (x5 / 2) x6 x7) else (if (Go.bits .and .u64 x6 1) = 0 then (ephemerisref1_Gcd.l1 k x5 (x6 / 2) x7) else (if x5 > x6 then (ephemerisref1_Gcd.l1 k (IntKind.u64.wrap (x5 - x6)) x6 x7) else (ephemerisref1_Gcd.l1 k x5 (IntKind.u64.wrap (x6 - x5)) x7))))
def ephemerisref1_Gcd.l0 : Nat → Int → Int → Int → Option (Int)
  | 0, _, _, _ => none
  | k + 1, x5, x6, x7 => if (Go.bits .and .u64 x5 1) = 0 then (if (Go.bits .and .u64 x6 1) = 0 then (ephemerisref1_Gcd.l0 k (x5 / 2) (x6 / 2) (wrap64 (x7 + 1))) else (ephemerisref1_Gcd.j2 k x5 x6 x7)) else (ephemerisref1_Gcd.j2 k x5 x6 x7)
end
def ephemerisref1_Gcd.f (k : Nat) (a0 : Int) (a1 : Int) : Option (Int) := (ephemerisref1_Size.f a0).bind fun t131 => ((ephemerisref1_Size.f a1).bind fun t132 => (if t131 = 0 then (ephemerisref1_Gcd.j0 k t131 t132 true) else (ephemerisref1_Gcd.j0 k t131 t132 (t132 == 0))))
theorem ephemerisref1_Gcd.mono_l : ∀ k, (∀ y0 y1 y2, LeO (ephemerisref1_Gcd.j0 k y0 y1 y2) (ephemerisref1_Gcd.j0 (k + 1) y0 y1 y2)) ∧ (∀ y0 y1 y2, LeO (ephemerisref1_Gcd.j2 k y0 y1 y2) (ephemerisref1_Gcd.j2 (k + 1) y0 y1 y2)) ∧ (∀ y0 y1 y2, LeO (ephemerisref1_Gcd.l1 k y0 y1 y2) (ephemerisref1_Gcd.l1 (k + 1) y0 y1 y2)) ∧ (∀ y0 y1 y2, LeO (ephemerisref1_Gcd.l0 k y0 y1 y2) (ephemerisref1_Gcd.l0 (k + 1) y0 y1 y2))
  | 0 => ⟨fun _ _ _ r h => by simp [ephemerisref1_Gcd.j0] at h, fun _ _ _ r h => by simp [ephemerisref1_Gcd.j2] at h, fun _ _ _ r h => by simp [ephemerisref1_Gcd.l1] at h, fun _ _ _ r h => by simp [ephemerisref1_Gcd.l0] at h⟩
  | k + 1 => by
    obtain ⟨ih0, ih1, ih2, ih3⟩ := ephemerisref1_Gcd.mono_l k
    refine ⟨?_, ?_, ?_, ?_⟩
    · intro y0 y1 y2
      unfold ephemerisref1_Gcd.j0
      repeat' first
      | (with_reducible exact ih0 _ _ _)
      | (with_reducible exact ih1 _ _ _)
      | (with_reducible exact ih2 _ _ _)
      | (with_reducible exact ih3 _ _ _)
      | (with_reducible exact LeO.refl _)
      | (with_reducible exact LeO.none _)
      | (with_reducible refine LeO.ite ?_ ?_)
      | (with_reducible refine LeO.bind ?_ (fun _ => ?_))
      | exact ih0 _ _ _
      | exact ih1 _ _ _
      | exact ih2 _ _ _
      | exact ih3 _ _ _
      | exact LeO.none _
      | refine LeO.ite ?_ ?_
      | refine LeO.bind ?_ (fun _ => ?_)
    · intro y0 y1 y2
      unfold ephemerisref1_Gcd.j2
      repeat' first
      | (with_reducible exact ih0 _ _ _)
      | (with_reducible exact ih1 _ _ _)
      | (with_reducible exact ih2 _ _ _)
      | (with_reducible exact ih3 _ _ _)
      | (with_reducible exact LeO.refl _)
      | (with_reducible exact LeO.none _)
      | (with_reducible refine LeO.ite ?_ ?_)
      | (with_reducible refine LeO.bind ?_ (fun _ => ?_))
      | exact ih0 _ _ _
      | exact ih1 _ _ _
      | exact ih2 _ _ _
      | exact ih3 _ _ _
      | exact LeO.none _
      | refine LeO.ite ?_ ?_
      | refine LeO.bind ?_ (fun _ => ?_)
    · intro y0 y1 y2
      unfold ephemerisref1_Gcd.l1
      repeat' first
      | (with_reducible exact ih0 _ _ _)
      | (with_reducible exact ih1 _ _ _)
      | (with_reducible exact ih2 _ _ _)
      | (with_reducible exact ih3 _ _ _)
      | (with_reducible exact LeO.refl _)
      | (with_reducible exact LeO.none _)
      | (with_reducible refine LeO.ite ?_ ?_)
      | (with_reducible refine LeO.bind ?_ (fun _ => ?_))
      | exact ih0 _ _ _
      | exact ih1 _ _ _
      | exact ih2 _ _ _
      | exact ih3 _ _ _
      | exact LeO.none _
      | refine LeO.ite ?_ ?_
      | refine LeO.bind ?_ (fun _ => ?_)
    · intro y0 y1 y2
      unfold ephemerisref1_Gcd.l0
      repeat' first
      | (with_reducible exact ih0 _ _ _)
      | (with_reducible exact ih1 _ _ _)
      | (with_reducible exact ih2 _ _ _)
      | (with_reducible exact ih3 _ _ _)
      | (with_reducible exact LeO.refl _)
      | (with_reducible exact LeO.none _)
      | (with_reducible refine LeO.ite ?_ ?_)
      | (with_reducible refine LeO.bind ?_ (fun _ => ?_))
      | exact ih0 _ _ _
      | exact ih1 _ _ _
      | exact ih2 _ _ _
      | exact ih3 _ _ _
      | exact LeO.none _
      | refine LeO.ite ?_ ?_
      | refine LeO.bind ?_ (fun _ => ?_)
theorem ephemerisref1_Gcd.mono : ∀ a0 a1 k, LeO (ephemerisref1_Gcd.f k a0 a1) (ephemerisref1_Gcd.f (k + 1) a0 a1) := by
  intro a0 a1 k
  obtain ⟨ih0, ih1, ih2, ih3⟩ := ephemerisref1_Gcd.mono_l k
  unfold ephemerisref1_Gcd.f
  repeat' first
      | (with_reducible exact ih0 _ _ _)
      | (with_reducible exact ih1 _ _ _)
      | (with_reducible exact ih2 _ _ _)
      | (with_reducible exact ih3 _ _ _)
      | (with_reducible exact LeO.refl _)
      | (with_reducible exact LeO.none _)
      | (with_reducible refine LeO.ite ?_ ?_)
      | (with_reducible refine LeO.bind ?_ (fun _ => ?_))
      | exact ih0 _ _ _
      | exact ih1 _ _ _
      | exact ih2 _ _ _
      | exact ih3 _ _ _
      | exact LeO.none _
      | refine LeO.ite ?_ ?_
      | refine LeO.bind ?_ (fun _ => ?_)
set_option maxHeartbeats 8000000 in
set_option maxRecDepth 100000 in
theorem ephemerisref1_Gcd.calls (k : Nat) (a0 : Int) (a1 : Int) (r : Int) (w : World) (h : ephemerisref1_Gcd.f k a0 a1 = some r) :
    Calls Try.prog 42 #[.int .i64 a0, .int .i64 a1] w fun e w' => e = .returned (.int .u64 r) ∧ Drawn0 w w' := by
  have H : ((ephemerisref1_Size.f a0).bind fun t131 => ((ephemerisref1_Size.f a1).bind fun t132 => (if t131 = 0 then (ephemerisref1_Gcd.j0 k t131 t132 true) else (ephemerisref1_Gcd.j0 k t131 t132 (t132 == 0))))) = some r := h
  clear h
  replace H := Option.bind_eq_some_iff.mp H
  obtain ⟨t131, A30, H⟩ := H
  replace H : ((ephemerisref1_Size.f a1).bind fun t132 => (if t131 = 0 then (ephemerisref1_Gcd.j0 k t131 t132 true) else (ephemerisref1_Gcd.j0 k t131 t132 (t132 == 0)))) = some r := H
  have A3 := Aside0.mk A30
  clear A30
  replace H := Option.bind_eq_some_iff.mp H
  obtain ⟨t132, A40, H⟩ := H
  replace H : (if t131 = 0 then (ephemerisref1_Gcd.j0 k t131 t132 true) else (ephemerisref1_Gcd.j0 k t131 t132 (t132 == 0))) = some r := H
  have A4 := Aside0.mk A40
  clear A40
  have HC5 := Aside0.mk H
  clear H
  go_enter Try.func42, Try.ntmps42
  go_upto_region 2 with (first | ((with_reducible refine gate_callee (f := 60) rfl ?_); refine goesL_ (some 9) rfl rfl Try.func60 (by kernel_rfl) rfl #[.int .i64 a0] rfl (by (try simp only [List.map_toArray, List.map_cons, List.map_nil]); first | done | rfl | (simp only [List.length_drop, List.length_take]; rfl)) ?_; (with_reducible refine (ephemerisref1_Size.calls a0 t131 _ A3.out).mono ?_); rintro e w' ⟨rfl, ⟨nd, rfl⟩⟩; refine ⟨_, rfl, ?_⟩) | ((with_reducible refine gate_callee (f := 60) rfl ?_); refine goesL_ (some 11) rfl rfl Try.func60 (by kernel_rfl) rfl #[.int .i64 a1] rfl (by (try simp only [List.map_toArray, List.map_cons, List.map_nil]); first | done | rfl | (simp only [List.length_drop, List.length_take]; rfl)) ?_; (with_reducible refine (ephemerisref1_Size.calls a1 t132 _ A4.out).mono ?_); rintro e w' ⟨rfl, ⟨nd, rfl⟩⟩; refine ⟨_, rfl, ?_⟩))
  (try simp only [Act.put, List.setIfInBounds_toArray, List.set_cons_zero, List.set_cons_succ])
  go_cut [17] (fun v17 wc => ∃ (kq : Nat) (x17_4 : Bool), v17 = .bool x17_4 ∧ Aside0 (ephemerisref1_Gcd.j0 kq t131 t132 x17_4 = some r) ∧ Aside0 (kq ≤ k) ∧ Drawn0 w wc)
  case first =>
    have H := HC5.out
    clear HC5
    by_cases c6 : t131 = 0
    · rw [if_pos c6] at H
      have c6b0 : (t131 == 0) = true := beq_iff_eq.mpr c6
      have c6b1 : (t131 != 0) = false := bne_eq_false_iff_eq.mpr c6
      clear c6
      (first | rw [c6b0] | (simp only [i64_w, i32_w]; rw [c6b0]) | skip)
      have H' := Aside0.mk H
      clear H
      go_wp2
      go_meet
      case rel => exact ⟨_, (true), (by first | rfl | (simp; done) | (simp [*]; done)), H', ⟨by first | omega | exact Nat.le_refl _⟩, by repeat (first | exact Drawn0.refl _ | apply Drawn0.step)⟩
    · rw [if_neg c6] at H
      have c6b0 : (t131 == 0) = false := beq_eq_false_iff_ne.mpr c6
      have c6b1 : (t131 != 0) = true := bne_iff_ne.mpr c6
      (first | rw [c6b0] | (simp only [i64_w, i32_w]; rw [c6b0]) | skip)
      have H' := Aside0.mk H
      clear H
      go_wp2
      go_meet
      case rel => exact ⟨_, ((t132 == 0)), (by first | rfl | (simp; done) | (simp [*]; done)), H', ⟨by first | omega | exact Nat.le_refl _⟩, by repeat (first | exact Drawn0.refl _ | apply Drawn0.step)⟩
  case rest =>
    clear HC5
    try clear p2
    try clear c4
    try clear c6
    try clear c6b0
    try clear c6b1
    obtain ⟨kq, x17_4, rfl, HA, HJ4, ⟨mc4, rfl⟩⟩ := hcut
    cases kq with
    | zero => exact absurd HA.out (by simp [ephemerisref1_Gcd.j0])
    | succ kj4 =>
      have H := HA.out
      clear HA
      simp only [ephemerisref1_Gcd.j0] at H
      by_cases c7 : x17_4 = true
      · subst c7
        have H1 : (some (IntKind.u64.wrap (t131 + t132))) = some r := by rw [if_pos rfl] at H; exact H
        clear H
        have H := H1
        clear H1
        obtain rfl := Option.some.inj H
        go_wp2
        go_ret
        exact ⟨by first | rfl | (simp; done) | (simp [*]; done), by repeat (first | exact Drawn0.refl _ | apply Drawn0.step)⟩
      · replace c7 := Bool.eq_false_iff.mpr c7
        subst c7
        have H1 : (ephemerisref1_Gcd.l0 kj4 t131 t132 0) = some r := by rw [if_neg (show ¬ (false = true) by decide)] at H; exact H
        clear H
        have H := H1
        clear H1
        have HC8 := Aside0.mk H
        clear H
        go_upto_block 0 with (fail)
        go_cut [5, 6, 7] (fun v5 v6 v7 wc => ∃ (kq : Nat) (x5_7 : Int) (x6_7 : Int) (x7_7 : Int), v5 = .int .u64 x5_7 ∧ v6 = .int .u64 x6_7 ∧ v7 = .int .i64 x7_7 ∧ Aside0 (ephemerisref1_Gcd.j2 kq x5_7 x6_7 x7_7 = some r) ∧ Aside0 (kq ≤ kj4) ∧ Drawn0 w wc)
        case first =>
          have H := HC8.out
          clear HC8
          have H' := Aside0.mk H
          clear H
          go_wp2
          go_loopg [5, 6, 7] kj4 (fun kq v5 v6 v7 w' => ∃ (x5_2 : Int) (x6_2 : Int) (x7_2 : Int), v5 = .int .u64 x5_2 ∧ v6 = .int .u64 x6_2 ∧ v7 = .int .i64 x7_2 ∧ Aside0 (ephemerisref1_Gcd.l0 kq x5_2 x6_2 x7_2 = some r) ∧ Aside0 (kq ≤ kj4) ∧ Drawn0 w w')
          case atStart => exact ⟨(t131), (t132), (0), (by first | rfl | (simp; done) | (simp [*]; done)), (by first | rfl | (simp; done) | (simp [*]; done)), (by first | rfl | (simp; done) | (simp [*]; done)), H', ⟨Nat.le_refl _⟩, by repeat (first | exact Drawn0.refl _ | apply Drawn0.step)⟩
          case round =>
            clear H'
            try clear p2
            try clear c4
            try clear c6
            try clear c6b0
            try clear c6b1
            try clear c7
            try clear p2
            obtain ⟨x5_2, x6_2, x7_2, rfl, rfl, rfl, HA, HK2, ⟨m2, rfl⟩⟩ := hrel
            cases gk with
            | zero => exact absurd HA.out (by simp [ephemerisref1_Gcd.l0])
            | succ k2 =>
              have H := HA.out
              clear HA
              simp only [ephemerisref1_Gcd.l0] at H
              by_cases c9 : (Go.bits .and .u64 x5_2 1) = 0
              · rw [if_pos c9] at H
                have c9b0 : ((Go.bits .and .u64 x5_2 1) == 0) = true := beq_iff_eq.mpr c9
                have c9b1 : ((Go.bits .and .u64 x5_2 1) != 0) = false := bne_eq_false_iff_eq.mpr c9
                clear c9
                (first | rw [c9b0] | (simp only [i64_w, i32_w]; rw [c9b0]) | skip)
                by_cases c10 : (Go.bits .and .u64 x6_2 1) = 0
                · rw [if_pos c10] at H
                  have c10b0 : ((Go.bits .and .u64 x6_2 1) == 0) = true := beq_iff_eq.mpr c10
                  have c10b1 : ((Go.bits .and .u64 x6_2 1) != 0) = false := bne_eq_false_iff_eq.mpr c10
                  clear c10
                  have H' := Aside0.mk H
                  clear H
                  go_wp2
                  go_roundg k2
                  case measure => have := HJ4.out; have := HK2.out; omega
                  case rel => exact ⟨(x5_2 / 2), (x6_2 / 2), (wrap64 (x7_2 + 1)), (by first | rfl | (simp; done) | (simp [*]; done)), (by first | rfl | (simp; done) | (simp [*]; done)), (by first | rfl | (simp; done) | (simp [*]; done)), H', ⟨by have := HJ4.out; have := HK2.out; omega⟩, by repeat (first | exact Drawn0.refl _ | apply Drawn0.step)⟩
                · rw [if_neg c10] at H
                  have c10b0 : ((Go.bits .and .u64 x6_2 1) == 0) = false := beq_eq_false_iff_ne.mpr c10
                  have c10b1 : ((Go.bits .and .u64 x6_2 1) != 0) = true := bne_iff_ne.mpr c10
                  have H' := Aside0.mk H
                  clear H
                  go_wp2
                  go_meet
                  case rel => exact ⟨_, (x5_2), (x6_2), (x7_2), (by first | rfl | (simp; done) | (simp [*]; done)), (by first | rfl | (simp; done) | (simp [*]; done)), (by first | rfl | (simp; done) | (simp [*]; done)), H', ⟨by have := HJ4.out; have := HK2.out; first | omega | exact Nat.le_refl _⟩, by repeat (first | exact Drawn0.refl _ | apply Drawn0.step)⟩
              · rw [if_neg c9] at H
                have c9b0 : ((Go.bits .and .u64 x5_2 1) == 0) = false := beq_eq_false_iff_ne.mpr c9
                have c9b1 : ((Go.bits .and .u64 x5_2 1) != 0) = true := bne_iff_ne.mpr c9
                (first | rw [c9b0] | (simp only [i64_w, i32_w]; rw [c9b0]) | skip)
                have H' := Aside0.mk H
                clear H
                go_wp2
                go_meet
                case rel => exact ⟨_, (x5_2), (x6_2), (x7_2), (by first | rfl | (simp; done) | (simp [*]; done)), (by first | rfl | (simp; done) | (simp [*]; done)), (by first | rfl | (simp; done) | (simp [*]; done)), H', ⟨by have := HJ4.out; have := HK2.out; first | omega | exact Nat.le_refl _⟩, by repeat (first | exact Drawn0.refl _ | apply Drawn0.step)⟩
        case rest =>
          clear HC8
          try clear c1
          try clear p2
          try clear c4
          try clear c6
          try clear c6b0
          try clear c6b1
          try clear p6
          try clear c7
          try clear c9
          try clear c9b0
          try clear c9b1
          try clear c10
          try clear c10b0
          try clear c10b1
          try clear p2
          obtain ⟨kq, x5_7, x6_7, x7_7, rfl, rfl, rfl, HA, HJ7, ⟨mc7, rfl⟩⟩ := hcut
          cases kq with
          | zero => exact absurd HA.out (by simp [ephemerisref1_Gcd.j2])
          | succ kj7 =>
            have H := HA.out
            clear HA
            simp only [ephemerisref1_Gcd.j2] at H
            have H' := Aside0.mk H
            clear H
            go_wp2
            go_loopg [5, 6] kj7 (fun kq v5 v6 w' => ∃ (x5_3 : Int) (x6_3 : Int), v5 = .int .u64 x5_3 ∧ v6 = .int .u64 x6_3 ∧ Aside0 (ephemerisref1_Gcd.l1 kq x5_3 x6_3 x7_7 = some r) ∧ Aside0 (kq ≤ kj7) ∧ Drawn0 w w')
            case atStart => exact ⟨(x5_7), (x6_7), (by first | rfl | (simp; done) | (simp [*]; done)), (by first | rfl | (simp; done) | (simp [*]; done)), H', ⟨Nat.le_refl _⟩, by repeat (first | exact Drawn0.refl _ | apply Drawn0.step)⟩
            case round =>
              clear H'
              try clear c1
              try clear p2
              try clear c4
              try clear c6
              try clear c6b0
              try clear c6b1
              try clear p6
              try clear c7
              try clear c9
              try clear c9b0
              try clear c9b1
              try clear c10
              try clear c10b0
              try clear c10b1
              try clear p2
              try clear p6
              obtain ⟨x5_3, x6_3, rfl, rfl, HA, HK3, ⟨m3, rfl⟩⟩ := hrel
              cases gk with
              | zero => exact absurd HA.out (by simp [ephemerisref1_Gcd.l1])
              | succ k3 =>
                have H := HA.out
                clear HA
                simp only [ephemerisref1_Gcd.l1] at H
                by_cases c11 : x5_3 = x6_3
                · rw [if_pos c11] at H
                  have c11b0 : (x5_3 == x6_3) = true := beq_iff_eq.mpr c11
                  have c11b1 : (x5_3 != x6_3) = false := bne_eq_false_iff_eq.mpr c11
                  clear c11
                  by_cases c12 : 0 ≤ x7_7
                  · rw [if_pos c12] at H
                    have c12b0 := eq_true c12
                    have c12b1 : decide (0 ≤ x7_7) = true := decide_eq_true c12
                    clear c12
                    obtain ⟨ji13, hji13⟩ : ∃ j_ : Int, (shl .u64 x5_3 x7_7) = j_ := ⟨_, rfl⟩
                    replace H : (some ji13) = some r := by first | (rw [hji13] at H; exact H) | (simp only [hji13] at H ⊢; exact H)
                    have hji13_ : (IntKind.u64.wrap (x5_3 * 2 ^ min x7_7.toNat 64)) = ji13 := hji13
                    have hji13z : x7_7 ≤ 64 → (IntKind.u64.wrap (x5_3 * 2 ^ x7_7.toNat)) = ji13 := shl_small hji13
                    obtain rfl := Option.some.inj H
                    go_wp2
                    go_ret
                    exact ⟨by first | rfl | (simp; done) | (simp only [← hji13] <;> (first | rfl | simp)) | (simp [*]; done), by repeat (first | exact Drawn0.refl _ | apply Drawn0.step)⟩
                  · rw [if_neg c12] at H
                    exact absurd H (by simp)
                · rw [if_neg c11] at H
                  have c11b0 : (x5_3 == x6_3) = false := beq_eq_false_iff_ne.mpr c11
                  have c11b1 : (x5_3 != x6_3) = true := bne_iff_ne.mpr c11
                  by_cases c14 : (Go.bits .and .u64 x5_3 1) = 0
                  · rw [if_pos c14] at H
                    have c14b0 : ((Go.bits .and .u64 x5_3 1) == 0) = true := beq_iff_eq.mpr c14
                    have c14b1 : ((Go.bits .and .u64 x5_3 1) != 0) = false := bne_eq_false_iff_eq.mpr c14
                    clear c14
                    have H' := Aside0.mk H
                    clear H
                    go_wp2
                    go_roundg k3
                    case measure => have := HJ4.out; have := HJ7.out; have := HK3.out; omega
                    case rel => exact ⟨(x5_3 / 2), (x6_3), (by first | rfl | (simp; done) | (simp [*]; done)), (by first | rfl | (simp; done) | (simp [*]; done)), H', ⟨by have := HJ4.out; have := HJ7.out; have := HK3.out; omega⟩, by repeat (first | exact Drawn0.refl _ | apply Drawn0.step)⟩
                  · rw [if_neg c14] at H
                    have c14b0 : ((Go.bits .and .u64 x5_3 1) == 0) = false := beq_eq_false_iff_ne.mpr c14
                    have c14b1 : ((Go.bits .and .u64 x5_3 1) != 0) = true := bne_iff_ne.mpr c14
                    by_cases c15 : (Go.bits .and .u64 x6_3 1) = 0
                    · rw [if_pos c15] at H
                      have c15b0 : ((Go.bits .and .u64 x6_3 1) == 0) = true := beq_iff_eq.mpr c15
                      have c15b1 : ((Go.bits .and .u64 x6_3 1) != 0) = false := bne_eq_false_iff_eq.mpr c15
                      clear c15
                      have H' := Aside0.mk H
                      clear H
                      go_wp2
                      go_roundg k3
                      case measure => have := HJ4.out; have := HJ7.out; have := HK3.out; omega
                      case rel => exact ⟨(x5_3), (x6_3 / 2), (by first | rfl | (simp; done) | (simp [*]; done)), (by first | rfl | (simp; done) | (simp [*]; done)), H', ⟨by have := HJ4.out; have := HJ7.out; have := HK3.out; omega⟩, by repeat (first | exact Drawn0.refl _ | apply Drawn0.step)⟩
                    · rw [if_neg c15] at H
                      have c15b0 : ((Go.bits .and .u64 x6_3 1) == 0) = false := beq_eq_false_iff_ne.mpr c15
                      have c15b1 : ((Go.bits .and .u64 x6_3 1) != 0) = true := bne_iff_ne.mpr c15
                      by_cases c16 : x5_3 > x6_3
                      · rw [if_pos c16] at H
                        have c16b0 : decide (x6_3 < x5_3) = true := decide_eq_true c16
                        clear c16
                        have H' := Aside0.mk H
                        clear H
                        go_wp2
                        go_roundg k3
                        case measure => have := HJ4.out; have := HJ7.out; have := HK3.out; omega
                        case rel => exact ⟨(IntKind.u64.wrap (x5_3 - x6_3)), (x6_3), (by first | rfl | (simp; done) | (simp [*]; done)), (by first | rfl | (simp; done) | (simp [*]; done)), H', ⟨by have := HJ4.out; have := HJ7.out; have := HK3.out; omega⟩, by repeat (first | exact Drawn0.refl _ | apply Drawn0.step)⟩
                      · rw [if_neg c16] at H
                        have c16b0 : decide (x6_3 < x5_3) = false := decide_eq_false c16
                        clear c16
                        have H' := Aside0.mk H
                        clear H
                        go_wp2
                        go_roundg k3
                        case measure => have := HJ4.out; have := HJ7.out; have := HK3.out; omega
                        case rel => exact ⟨(x5_3), (IntKind.u64.wrap (x6_3 - x5_3)), (by first | rfl | (simp; done) | (simp [*]; done)), (by first | rfl | (simp; done) | (simp [*]; done)), H', ⟨by have := HJ4.out; have := HJ7.out; have := HK3.out; omega⟩, by repeat (first | exact Drawn0.refl _ | apply Drawn0.step)⟩

/-! ### ephemerisref1_Div: function 67 -/
def ephemerisref1_Div.l0 : Nat → Int → Int → Int → Int → Int → Option (Int × Int)
  | 0, _, _, _, _, _ => none
  | k + 1, x7, x8, x9, x10, x11 => if 0 ≤ x11 then (if (x10 / 9223372036854775808) = 1 then (ephemerisref1_Div.l0 k x7 x8 (Go.bits .or .u64 x9 (shl .u64 1 x11)) (IntKind.u64.wrap ((Go.bits .or .u64 (IntKind.u64.wrap (x10 * 2)) (Go.bits .and .u64 (shr .u64 x7 x11) 1)) - x8)) (wrap64 (x11 - 1))) else (if x8 ≤ (Go.bits .or .u64 (IntKind.u64.wrap (x10 * 2)) (Go.bits .and .u64 (shr .u64 x7 x11) 1)) then (ephemerisref1_Div.l0 k x7 x8 (Go.bits .or .u64 x9 (shl .u64 1 x11)) (IntKind.u64.wrap ((Go.bits .or .u64 (IntKind.u64.wrap (x10 * 2)) (Go.bits .and .u64 (shr .u64 x7 x11) 1)) - x8)) (wrap64 (x11 - 1))) else (ephemerisref1_Div.l0 k x7 x8 x9 (Go.bits .or .u64 (IntKind.u64.wrap (x10 * 2)) (Go.bits .and .u64 (shr .u64 x7 x11) 1)) (wrap64 (x11 - 1))))) else some (x9, x10)
/-- The signs, put right: 'm': the signs differ; 'n': the divisor is negative. -/
def ephemerisref1_Div.e1 (m n : Bool) (q r : Int) : Int × Int × Int :=
  if m = false ∧ q > 9223372036854775807 then (0, 0, 14) else (if m = true then wrap64 (IntKind.u64.wrap (-q)) else wrap64 q, if n = true then wrap64 (IntKind.u64.wrap (-r)) else wrap64 r, 0)
def ephemerisref1_Div.e0 (m n : Bool) (Y q r : Int) : Int × Int × Int :=
  if m = true ∧ r ≠ 0 then ephemerisref1_Div.e1 m n (IntKind.u64.wrap (q + 1)) (IntKind.u64.wrap (Y - r)) else ephemerisref1_Div.e1 m n q r
def ephemerisref1_Div.f (k : Nat) (a0 : Int) (a1 : Int) : Option (Int × Int × Int) := if a1 = 0 then (some (0, 0, 1)) else ((ephemerisref1_Size.f a0).bind fun t105 => ((ephemerisref1_Size.f a1).bind fun t106 => ((ephemerisref1_Div.l0 k t105 t106 0 0 63).bind fun t => some (ephemerisref1_Div.e0 ((decide (a0 < 0)) != (decide (a1 < 0))) (decide (a1 < 0)) t106 t.1 t.2))))
theorem ephemerisref1_Div.mono_l : ∀ k y0 y1 y2 y3 y4, LeO (ephemerisref1_Div.l0 k y0 y1 y2 y3 y4) (ephemerisref1_Div.l0 (k + 1) y0 y1 y2 y3 y4)
  | 0 => fun _ _ _ _ _ r h => by simp [ephemerisref1_Div.l0] at h
  | k + 1 => by
    have ih0 := ephemerisref1_Div.mono_l k
    intro y0 y1 y2 y3 y4
    unfold ephemerisref1_Div.l0
    exact LeO.ite (LeO.ite (ih0 _ _ _ _ _) (LeO.ite (ih0 _ _ _ _ _) (ih0 _ _ _ _ _))) (LeO.refl _)
theorem ephemerisref1_Div.mono : ∀ a0 a1 k, LeO (ephemerisref1_Div.f k a0 a1) (ephemerisref1_Div.f (k + 1) a0 a1) := by
  intro a0 a1 k
  unfold ephemerisref1_Div.f
  exact LeO.ite (LeO.refl _) (LeO.bind (LeO.refl _) fun _ => LeO.bind (LeO.refl _) fun _ => LeO.bind (ephemerisref1_Div.mono_l _ _ _ _ _ _) fun _ => LeO.refl _)
set_option maxHeartbeats 8000000 in
set_option maxRecDepth 100000 in
theorem ephemerisref1_Div.part (k : Nat) (a0 : Int) (a1 : Int) (r1 : Int) (r2 : Int) (r3 : Int) (w : World) (sa sb : Bool) (hsa : decide (a0 < 0) = sa) (hsb : decide (a1 < 0) = sb) (t105 t106 q r : Int) (A4 : Aside0 (ephemerisref1_Size.f a0 = some t105)) (A5 : Aside0 (ephemerisref1_Size.f a1 = some t106)) (c3 : (a1 == 0) = false)
    (H' : Aside0 (ephemerisref1_Div.l0 k t105 t106 0 0 63 = some (q, r))) (HE : Aside0 (ephemerisref1_Div.e0 (sa != sb) sb t106 q r = (r1, r2, r3))) :
    Calls Try.prog 67 #[.int .i64 a0, .int .i64 a1] w fun e w' => e = .returned (.tuple #[.int .i64 r1, .int .i64 r2, .int .i64 r3]) ∧ Drawn0 w w' := by
  cases sa <;> cases sb
  all_goals
    go_enter Try.func67, Try.ntmps67
    go_wp2_with (first | ((with_reducible refine gate_callee (f := 60) rfl ?_); refine goesL_ (some 19) rfl rfl Try.func60 (by kernel_rfl) rfl #[.int .i64 a0] rfl (by (try simp only [List.map_toArray, List.map_cons, List.map_nil]); first | done | rfl | (simp only [List.length_drop, List.length_take]; rfl)) ?_; (with_reducible refine (ephemerisref1_Size.calls a0 t105 _ A4.out).mono ?_); rintro e w' ⟨rfl, ⟨nd, rfl⟩⟩; refine ⟨_, rfl, ?_⟩) | ((with_reducible refine gate_callee (f := 60) rfl ?_); refine goesL_ (some 21) rfl rfl Try.func60 (by kernel_rfl) rfl #[.int .i64 a1] rfl (by (try simp only [List.map_toArray, List.map_cons, List.map_nil]); first | done | rfl | (simp only [List.length_drop, List.length_take]; rfl)) ?_; (with_reducible refine (ephemerisref1_Size.calls a1 t106 _ A5.out).mono ?_); rintro e w' ⟨rfl, ⟨nd, rfl⟩⟩; refine ⟨_, rfl, ?_⟩))
    go_loopg [9, 10, 11] k (fun kq v9 v10 v11 w' => ∃ (x9_1 : Int) (x10_1 : Int) (x11_1 : Int), v9 = .int .u64 x9_1 ∧ v10 = .int .u64 x10_1 ∧ v11 = .int .i64 x11_1 ∧ Aside0 (ephemerisref1_Div.l0 kq t105 t106 x9_1 x10_1 x11_1 = some (q, r)) ∧ Aside0 (kq ≤ k) ∧ Drawn0 w w')
    case atStart => exact ⟨(0), (0), (63), rfl, rfl, rfl, H', ⟨Nat.le_refl _⟩, by repeat (first | exact Drawn0.refl _ | apply Drawn0.step)⟩
    case round =>
      clear H'
      obtain ⟨x9_1, x10_1, x11_1, rfl, rfl, rfl, HA, HK1, ⟨m1, rfl⟩⟩ := hrel
      cases gk with
      | zero => exact absurd HA.out (by simp [ephemerisref1_Div.l0])
      | succ k1 =>
        have H := HA.out
        clear HA
        simp only [ephemerisref1_Div.l0] at H
        by_cases c6 : 0 ≤ x11_1
        · rw [if_pos c6] at H
          have c6b0 : decide (0 ≤ x11_1) = true := decide_eq_true c6
          have c7b0 := eq_true c6
          clear c6
          obtain ⟨ji8, hji8⟩ : ∃ j_ : Int, (shr .u64 t105 x11_1) = j_ := ⟨_, rfl⟩
          rw [hji8] at H
          have hji8_ : (t105 / 2 ^ min x11_1.toNat 64) = ji8 := hji8
          obtain ⟨ji11, hji11⟩ : ∃ j_ : Int, (shl .u64 1 x11_1) = j_ := ⟨_, rfl⟩
          rw [hji11] at H
          have hji11_ : (IntKind.u64.wrap (1 * 2 ^ min x11_1.toNat 64)) = ji11 := hji11
          have hji11u : (IntKind.u64.wrap (2 ^ min x11_1.toNat 64)) = ji11 := by have h_ := hji11_; rw [Int.one_mul] at h_; exact h_
          by_cases c9 : (x10_1 / 9223372036854775808) = 1
          · rw [if_pos c9] at H
            have c9b0 : ((x10_1 / 9223372036854775808) == 1) = true := beq_iff_eq.mpr c9
            have c9b1 : ((x10_1 / 9223372036854775808) != 1) = false := bne_eq_false_iff_eq.mpr c9
            clear c9
            have H' := Aside0.mk H
            clear H
            go_wp2
            go_roundg k1
            case measure => have := HK1.out; omega
            case rel => exact ⟨_, _, _, rfl, rfl, rfl, H', ⟨by have := HK1.out; omega⟩, by repeat (first | exact Drawn0.refl _ | apply Drawn0.step)⟩
          · rw [if_neg c9] at H
            have c9b0 : ((x10_1 / 9223372036854775808) == 1) = false := beq_eq_false_iff_ne.mpr c9
            have c9b1 : ((x10_1 / 9223372036854775808) != 1) = true := bne_iff_ne.mpr c9
            clear c9
            by_cases c12 : t106 ≤ (Go.bits .or .u64 (IntKind.u64.wrap (x10_1 * 2)) (Go.bits .and .u64 (ji8) 1))
            · rw [if_pos c12] at H
              have c12b0 : decide (t106 ≤ (Go.bits .or .u64 (IntKind.u64.wrap (x10_1 * 2)) (Go.bits .and .u64 (ji8) 1))) = true := decide_eq_true c12
              clear c12
              have H' := Aside0.mk H
              clear H
              go_wp2
              go_roundg k1
              case measure => have := HK1.out; omega
              case rel => exact ⟨_, _, _, rfl, rfl, rfl, H', ⟨by have := HK1.out; omega⟩, by repeat (first | exact Drawn0.refl _ | apply Drawn0.step)⟩
            · rw [if_neg c12] at H
              have c12b0 : decide (t106 ≤ (Go.bits .or .u64 (IntKind.u64.wrap (x10_1 * 2)) (Go.bits .and .u64 (ji8) 1))) = false := decide_eq_false c12
              clear c12
              have H' := Aside0.mk H
              clear H
              go_wp2
              go_roundg k1
              case measure => have := HK1.out; omega
              case rel => exact ⟨_, _, _, rfl, rfl, rfl, H', ⟨by have := HK1.out; omega⟩, by repeat (first | exact Drawn0.refl _ | apply Drawn0.step)⟩
        · rw [if_neg c6] at H
          have c6b0 : decide (0 ≤ x11_1) = false := decide_eq_false c6
          clear c6
          simp only [Option.some.injEq, Prod.mk.injEq] at H
          obtain ⟨rfl, rfl⟩ := H
          have HX := HE.out
          clear HE
          simp only [ephemerisref1_Div.e0] at HX
          by_cases c1 : x10_1 = 0
          · have c1b0 : (x10_1 == 0) = true := beq_iff_eq.mpr c1
            have c1b1 : (x10_1 != 0) = false := bne_eq_false_iff_eq.mpr c1
            rw [if_neg (fun h => h.2 c1)] at HX
            clear c1
            simp only [ephemerisref1_Div.e1] at HX
            by_cases c2 : x9_1 > 9223372036854775807
            · have c2b0 : decide (9223372036854775807 < x9_1) = true := decide_eq_true c2
              first | rw [if_pos ⟨rfl, c2⟩] at HX | rw [if_neg (fun h => absurd h.1 (by decide))] at HX
              clear c2
              simp only [reduceIte, Prod.mk.injEq, bne_self_eq_false, Bool.true_bne, Bool.false_bne, Bool.not_true, Bool.not_false, Bool.false_eq_true] at HX
              obtain ⟨rfl, rfl, rfl⟩ := HX
              go_wp2
              go_ret3
              exact ⟨by first | rfl | (simp; done) | (simp [*]; done), by repeat (first | exact Drawn0.refl _ | apply Drawn0.step)⟩
            · have c2b0 : decide (9223372036854775807 < x9_1) = false := decide_eq_false c2
              rw [if_neg (fun h => c2 h.2)] at HX
              clear c2
              simp only [reduceIte, Prod.mk.injEq, bne_self_eq_false, Bool.true_bne, Bool.false_bne, Bool.not_true, Bool.not_false, Bool.false_eq_true] at HX
              obtain ⟨rfl, rfl, rfl⟩ := HX
              go_wp2
              go_ret3
              exact ⟨by first | rfl | (simp; done) | (simp [*]; done), by repeat (first | exact Drawn0.refl _ | apply Drawn0.step)⟩
          · have c1b0 : (x10_1 == 0) = false := beq_eq_false_iff_ne.mpr c1
            have c1b1 : (x10_1 != 0) = true := bne_iff_ne.mpr c1
            first | rw [if_pos ⟨rfl, c1⟩] at HX | rw [if_neg (fun h => absurd h.1 (by decide))] at HX
            clear c1
            simp only [ephemerisref1_Div.e1] at HX
            by_cases c2 : x9_1 > 9223372036854775807
            · have c2b0 : decide (9223372036854775807 < x9_1) = true := decide_eq_true c2
              first | rw [if_pos ⟨rfl, c2⟩] at HX | rw [if_neg (fun h => absurd h.1 (by decide))] at HX
              clear c2
              simp only [reduceIte, Prod.mk.injEq, bne_self_eq_false, Bool.true_bne, Bool.false_bne, Bool.not_true, Bool.not_false, Bool.false_eq_true] at HX
              obtain ⟨rfl, rfl, rfl⟩ := HX
              go_wp2
              go_ret3
              exact ⟨by first | rfl | (simp; done) | (simp [*]; done), by repeat (first | exact Drawn0.refl _ | apply Drawn0.step)⟩
            · have c2b0 : decide (9223372036854775807 < x9_1) = false := decide_eq_false c2
              simp only [Bool.true_eq_false, false_and, if_false, true_and, bne_self_eq_false, Bool.true_bne, Bool.false_bne, Bool.not_true, Bool.not_false] at HX
              (try rw [if_neg c2] at HX)
              clear c2
              simp only [reduceIte, Prod.mk.injEq, bne_self_eq_false, Bool.true_bne, Bool.false_bne, Bool.not_true, Bool.not_false, Bool.false_eq_true] at HX
              obtain ⟨rfl, rfl, rfl⟩ := HX
              go_wp2
              go_ret3
              exact ⟨by first | rfl | (simp; done) | (simp [*]; done), by repeat (first | exact Drawn0.refl _ | apply Drawn0.step)⟩
set_option maxHeartbeats 8000000 in
set_option maxRecDepth 100000 in
theorem ephemerisref1_Div.calls (k : Nat) (a0 : Int) (a1 : Int) (r1 : Int) (r2 : Int) (r3 : Int) (w : World) (h : ephemerisref1_Div.f k a0 a1 = some (r1, r2, r3)) :
    Calls Try.prog 67 #[.int .i64 a0, .int .i64 a1] w fun e w' => e = .returned (.tuple #[.int .i64 r1, .int .i64 r2, .int .i64 r3]) ∧ Drawn0 w w' := by
  unfold ephemerisref1_Div.f at h
  by_cases c3 : a1 = 0
  · rw [if_pos c3] at h
    have c3b0 : (a1 == 0) = true := beq_iff_eq.mpr c3
    clear c3
    simp only [Option.some.injEq, Prod.mk.injEq] at h
    obtain ⟨rfl, rfl, rfl⟩ := h
    go_enter Try.func67, Try.ntmps67
    go_wp2
    go_ret3
    exact ⟨by first | rfl | (simp; done) | (simp [*]; done), by repeat (first | exact Drawn0.refl _ | apply Drawn0.step)⟩
  · rw [if_neg c3] at h
    obtain ⟨t1, h1, h⟩ := Option.bind_eq_some_iff.mp h
    obtain ⟨t2, h2, h⟩ := Option.bind_eq_some_iff.mp h
    obtain ⟨⟨q, r⟩, h3, h⟩ := Option.bind_eq_some_iff.mp h
    exact ephemerisref1_Div.part k a0 a1 r1 r2 r3 w _ _ rfl rfl t1 t2 q r ⟨h1⟩ ⟨h2⟩ (beq_eq_false_iff_ne.mpr c3) ⟨h3⟩ ⟨Option.some.inj h⟩

/-! ### ephemerisref1_Mod: function 71 -/
def ephemerisref1_Mod.f (k : Nat) (a0 : Int) (a1 : Int) : Option (Int) := (ephemerisref1_Div.f k a0 a1).bind fun bt135 => (some bt135.2.1)
theorem ephemerisref1_Mod.mono : ∀ a0 a1 k, LeO (ephemerisref1_Mod.f k a0 a1) (ephemerisref1_Mod.f (k + 1) a0 a1) := by
  intro a0 a1 k
  unfold ephemerisref1_Mod.f
  repeat' first
      | (with_reducible exact ephemerisref1_Div.mono _ _ _)
      | (with_reducible exact LeO.refl _)
      | (with_reducible exact LeO.none _)
      | (with_reducible refine LeO.ite ?_ ?_)
      | (with_reducible refine LeO.bind ?_ (fun _ => ?_))
      | exact ephemerisref1_Div.mono _ _ _
      | exact LeO.none _
      | refine LeO.ite ?_ ?_
      | refine LeO.bind ?_ (fun _ => ?_)
set_option maxHeartbeats 8000000 in
set_option maxRecDepth 100000 in
theorem ephemerisref1_Mod.calls (k : Nat) (a0 : Int) (a1 : Int) (r : Int) (w : World) (h : ephemerisref1_Mod.f k a0 a1 = some r) :
    Calls Try.prog 71 #[.int .i64 a0, .int .i64 a1] w fun e w' => e = .returned (.int .i64 r) ∧ Drawn0 w w' := by
  have H : ((ephemerisref1_Div.f k a0 a1).bind fun bt135 => (some bt135.2.1)) = some r := h
  clear h
  replace H := Option.bind_eq_some_iff.mp H
  obtain ⟨⟨t135, t136, t137⟩, A30, H⟩ := H
  replace H : (some t136) = some r := H
  have A3 := Aside0.mk A30
  clear A30
  obtain rfl := Option.some.inj H
  go_enter Try.func71, Try.ntmps71
  go_wp2_with (first | ((with_reducible refine gate_callee (f := 67) rfl ?_); refine goesL_ (some 11) rfl rfl Try.func67 (by kernel_rfl) rfl #[.int .i64 a0, .int .i64 a1] rfl (by (try simp only [List.map_toArray, List.map_cons, List.map_nil]); first | done | rfl | (simp only [List.length_drop, List.length_take]; rfl)) ?_; (with_reducible refine (ephemerisref1_Div.calls k a0 a1 t135 t136 t137 _ A3.out).mono ?_); rintro e w' ⟨rfl, ⟨nd, rfl⟩⟩; refine ⟨_, rfl, ?_⟩))
  go_ret
  exact ⟨by first | rfl | (simp; done) | (simp [*]; done), by repeat (first | exact Drawn0.refl _ | apply Drawn0.step)⟩

end Go.Proofs.Ytmihkcgkdhmccaa.PCycleOfs
