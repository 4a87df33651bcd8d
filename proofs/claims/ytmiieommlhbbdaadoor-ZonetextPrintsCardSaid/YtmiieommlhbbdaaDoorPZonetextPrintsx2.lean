/- The walks of the functions of this part. The proof of zonetext_offset (in part), strconv_Itoa, strings_Builder_String, zonetext_Print (in part) is written by hand; the other ones are as the kit's print tells them. -/
-- The walks of the law's functions, told by a program.
import Derived.Shelf.Strings.BuilderK
import Derived.Lib.AppendIntMem
import Derived.Shelf.Strconv.Itoa3
import Derived.Test.YtmiieommlhbbdaaDoorPZonetextPrintsx0
import Derived.Test.YtmiieommlhbbdaaDoorPZonetextPrintsx1
namespace Go.Proofs.YtmiieommlhbbdaaDoor.PZonetextPrints
open Go.RowKit Go.Proofs.YtmiieommlhbbdaaDoorW.PrintWords Go.Proofs.YtmiieommlhbbdaaDoorW.PrintLast Go.Proofs.YtmiieommlhbbdaaDoorW.PrintMore
attribute [local go_sem] max2_int min2_int max_two min_two max_three min_three max_four min_four   -- for this text's walks alone
set_option linter.unusedVariables false
set_option linter.unusedSimpArgs false

/-! ### zonetext_offset: function 16 -/
def zonetext_offset.f (a0 : Int) : Option (ByteArray) := if a0 < 0 then ((zonetext_offset_1.f (wrap64 (Int.tdiv (wrap64 (Int.tdiv (wrap64 (-a0)) 1000)) 3600))).bind fun t128 => (if 1 + t128.size ≤ 9223372036854775807 then (if ((⟨#[45]⟩ : ByteArray) ++ t128).size + 1 ≤ 9223372036854775807 then ((zonetext_offset_1.f (Int.tmod (wrap64 (Int.tdiv (wrap64 (Int.tdiv (wrap64 (-a0)) 1000)) 60)) 60)).bind fun t129 => (if (((⟨#[45]⟩ : ByteArray) ++ t128) ++ (⟨#[58]⟩ : ByteArray)).size + t129.size ≤ 9223372036854775807 then (if ((((⟨#[45]⟩ : ByteArray) ++ t128) ++ (⟨#[58]⟩ : ByteArray)) ++ t129).size + 1 ≤ 9223372036854775807 then ((zonetext_offset_1.f (Int.tmod (wrap64 (Int.tdiv (wrap64 (-a0)) 1000)) 60)).bind fun t130 => (if (((((⟨#[45]⟩ : ByteArray) ++ t128) ++ (⟨#[58]⟩ : ByteArray)) ++ t129) ++ (⟨#[58]⟩ : ByteArray)).size + t130.size ≤ 9223372036854775807 then (some ((((((⟨#[45]⟩ : ByteArray) ++ t128) ++ (⟨#[58]⟩ : ByteArray)) ++ t129) ++ (⟨#[58]⟩ : ByteArray)) ++ t130)) else (none))) else (none)) else (none))) else (none)) else (none))) else ((zonetext_offset_1.f (wrap64 (Int.tdiv (wrap64 (Int.tdiv a0 1000)) 3600))).bind fun t131 => (if 1 + t131.size ≤ 9223372036854775807 then (if ((⟨#[43]⟩ : ByteArray) ++ t131).size + 1 ≤ 9223372036854775807 then ((zonetext_offset_1.f (Int.tmod (wrap64 (Int.tdiv (wrap64 (Int.tdiv a0 1000)) 60)) 60)).bind fun t132 => (if (((⟨#[43]⟩ : ByteArray) ++ t131) ++ (⟨#[58]⟩ : ByteArray)).size + t132.size ≤ 9223372036854775807 then (if ((((⟨#[43]⟩ : ByteArray) ++ t131) ++ (⟨#[58]⟩ : ByteArray)) ++ t132).size + 1 ≤ 9223372036854775807 then ((zonetext_offset_1.f (Int.tmod (wrap64 (Int.tdiv a0 1000)) 60)).bind fun t133 => (if (((((⟨#[43]⟩ : ByteArray) ++ t131) ++ (⟨#[58]⟩ : ByteArray)) ++ t132) ++ (⟨#[58]⟩ : ByteArray)).size + t133.size ≤ 9223372036854775807 then (some ((((((⟨#[43]⟩ : ByteArray) ++ t131) ++ (⟨#[58]⟩ : ByteArray)) ++ t132) ++ (⟨#[58]⟩ : ByteArray)) ++ t133)) else (none))) else (none)) else (none))) else (none)) else (none)))
set_option maxHeartbeats 8000000 in
set_option maxRecDepth 100000 in
theorem zonetext_offset.calls (a0 : Int) (r : ByteArray) (w : World) (h : zonetext_offset.f a0 = some r) :
    Calls Tryd.prog 16 #[.int .i64 a0] w fun e w' => e = .returned (.string r) ∧ Below w.heap.size w w' := by
  have HB := Aside0.mk (Below.refl w.heap.size w)
  have H : (if a0 < 0 then ((zonetext_offset_1.f (wrap64 (Int.tdiv (wrap64 (Int.tdiv (wrap64 (-a0)) 1000)) 3600))).bind fun t128 => (if 1 + t128.size ≤ 9223372036854775807 then (if ((⟨#[45]⟩ : ByteArray) ++ t128).size + 1 ≤ 9223372036854775807 then ((zonetext_offset_1.f (Int.tmod (wrap64 (Int.tdiv (wrap64 (Int.tdiv (wrap64 (-a0)) 1000)) 60)) 60)).bind fun t129 => (if (((⟨#[45]⟩ : ByteArray) ++ t128) ++ (⟨#[58]⟩ : ByteArray)).size + t129.size ≤ 9223372036854775807 then (if ((((⟨#[45]⟩ : ByteArray) ++ t128) ++ (⟨#[58]⟩ : ByteArray)) ++ t129).size + 1 ≤ 9223372036854775807 then ((zonetext_offset_1.f (Int.tmod (wrap64 (Int.tdiv (wrap64 (-a0)) 1000)) 60)).bind fun t130 => (if (((((⟨#[45]⟩ : ByteArray) ++ t128) ++ (⟨#[58]⟩ : ByteArray)) ++ t129) ++ (⟨#[58]⟩ : ByteArray)).size + t130.size ≤ 9223372036854775807 then (some ((((((⟨#[45]⟩ : ByteArray) ++ t128) ++ (⟨#[58]⟩ : ByteArray)) ++ t129) ++ (⟨#[58]⟩ : ByteArray)) ++ t130)) else (none))) else (none)) else (none))) else (none)) else (none))) else ((zonetext_offset_1.f (wrap64 (Int.tdiv (wrap64 (Int.tdiv a0 1000)) 3600))).bind fun t131 => (if 1 + t131.size ≤ 9223372036854775807 then (if ((⟨#[43]⟩ : ByteArray) ++ t131).size + 1 ≤ 9223372036854775807 then ((zonetext_offset_1.f (Int.tmod (wrap64 (Int.tdiv (wrap64 (Int.tdiv a0 1000)) 60)) 60)).bind fun t132 => (if (((⟨#[43]⟩ : ByteArray) ++ t131) ++ (⟨#[58]⟩ : ByteArray)).size + t132.size ≤ 9223372036854775807 then (if ((((⟨#[43]⟩ : ByteArray) ++ t131) ++ (⟨#[58]⟩ : ByteArray)) ++ t132).size + 1 ≤ 9223372036854775807 then ((zonetext_offset_1.f (Int.tmod (wrap64 (Int.tdiv a0 1000)) 60)).bind fun t133 => (if (((((⟨#[43]⟩ : ByteArray) ++ t131) ++ (⟨#[58]⟩ : ByteArray)) ++ t132) ++ (⟨#[58]⟩ : ByteArray)).size + t133.size ≤ 9223372036854775807 then (some ((((((⟨#[43]⟩ : ByteArray) ++ t131) ++ (⟨#[58]⟩ : ByteArray)) ++ t132) ++ (⟨#[58]⟩ : ByteArray)) ++ t133)) else (none))) else (none)) else (none))) else (none)) else (none)))) = some r := h
  clear h
  by_cases c2 : a0 < 0
  · rw [if_pos c2] at H
    have c2b0 : decide (a0 < 0) = true := decide_eq_true c2
    clear c2
    replace H := Option.bind_eq_some_iff.mp H
    obtain ⟨t128, A30, H⟩ := H
    replace H : (if 1 + t128.size ≤ 9223372036854775807 then (if ((⟨#[45]⟩ : ByteArray) ++ t128).size + 1 ≤ 9223372036854775807 then ((zonetext_offset_1.f (Int.tmod (wrap64 (Int.tdiv (wrap64 (Int.tdiv (wrap64 (-a0)) 1000)) 60)) 60)).bind fun t129 => (if (((⟨#[45]⟩ : ByteArray) ++ t128) ++ (⟨#[58]⟩ : ByteArray)).size + t129.size ≤ 9223372036854775807 then (if ((((⟨#[45]⟩ : ByteArray) ++ t128) ++ (⟨#[58]⟩ : ByteArray)) ++ t129).size + 1 ≤ 9223372036854775807 then ((zonetext_offset_1.f (Int.tmod (wrap64 (Int.tdiv (wrap64 (-a0)) 1000)) 60)).bind fun t130 => (if (((((⟨#[45]⟩ : ByteArray) ++ t128) ++ (⟨#[58]⟩ : ByteArray)) ++ t129) ++ (⟨#[58]⟩ : ByteArray)).size + t130.size ≤ 9223372036854775807 then (some ((((((⟨#[45]⟩ : ByteArray) ++ t128) ++ (⟨#[58]⟩ : ByteArray)) ++ t129) ++ (⟨#[58]⟩ : ByteArray)) ++ t130)) else (none))) else (none)) else (none))) else (none)) else (none)) = some r := H
    have A3 := Aside0.mk A30
    clear A30
    by_cases c4 : 1 + t128.size ≤ 9223372036854775807
    · rw [if_pos c4] at H
      have c4b0 := eq_true c4
      have c4b1 : decide (1 + t128.size ≤ 9223372036854775807) = true := decide_eq_true c4
      try have c4b2 : (9223372036854775807 < 1 + t128.size) = False := eq_false (Nat.not_lt.2 c4)
      by_cases c5 : ((⟨#[45]⟩ : ByteArray) ++ t128).size + 1 ≤ 9223372036854775807
      · rw [if_pos c5] at H
        have c5b0 := eq_true c5
        have c5b1 : decide (((⟨#[45]⟩ : ByteArray) ++ t128).size + 1 ≤ 9223372036854775807) = true := decide_eq_true c5
        try have c5b2 : (9223372036854775807 < ((⟨#[45]⟩ : ByteArray) ++ t128).size + 1) = False := eq_false (Nat.not_lt.2 c5)
        have c5b3 : (9223372036854775807 < 1 + t128.size + 1) = False := eq_false (by have h_ := c5; have s0_ : (⟨#[45]⟩ : ByteArray).size = 1 := rfl; simp only [ByteArray.size_append, s0_] at h_; omega)
        replace H := Option.bind_eq_some_iff.mp H
        obtain ⟨t129, A60, H⟩ := H
        replace H : (if (((⟨#[45]⟩ : ByteArray) ++ t128) ++ (⟨#[58]⟩ : ByteArray)).size + t129.size ≤ 9223372036854775807 then (if ((((⟨#[45]⟩ : ByteArray) ++ t128) ++ (⟨#[58]⟩ : ByteArray)) ++ t129).size + 1 ≤ 9223372036854775807 then ((zonetext_offset_1.f (Int.tmod (wrap64 (Int.tdiv (wrap64 (-a0)) 1000)) 60)).bind fun t130 => (if (((((⟨#[45]⟩ : ByteArray) ++ t128) ++ (⟨#[58]⟩ : ByteArray)) ++ t129) ++ (⟨#[58]⟩ : ByteArray)).size + t130.size ≤ 9223372036854775807 then (some ((((((⟨#[45]⟩ : ByteArray) ++ t128) ++ (⟨#[58]⟩ : ByteArray)) ++ t129) ++ (⟨#[58]⟩ : ByteArray)) ++ t130)) else (none))) else (none)) else (none)) = some r := H
        have A6 := Aside0.mk A60
        clear A60
        by_cases c7 : (((⟨#[45]⟩ : ByteArray) ++ t128) ++ (⟨#[58]⟩ : ByteArray)).size + t129.size ≤ 9223372036854775807
        · rw [if_pos c7] at H
          have c7b0 := eq_true c7
          have c7b1 : decide ((((⟨#[45]⟩ : ByteArray) ++ t128) ++ (⟨#[58]⟩ : ByteArray)).size + t129.size ≤ 9223372036854775807) = true := decide_eq_true c7
          try have c7b2 : (9223372036854775807 < (((⟨#[45]⟩ : ByteArray) ++ t128) ++ (⟨#[58]⟩ : ByteArray)).size + t129.size) = False := eq_false (Nat.not_lt.2 c7)
          have c7b3 : (9223372036854775807 < 1 + t128.size + 1 + t129.size) = False := eq_false (by have h_ := c7; have s0_ : (⟨#[45]⟩ : ByteArray).size = 1 := rfl; have s1_ : (⟨#[58]⟩ : ByteArray).size = 1 := rfl; simp only [ByteArray.size_append, s0_, s1_] at h_; omega)
          by_cases c8 : ((((⟨#[45]⟩ : ByteArray) ++ t128) ++ (⟨#[58]⟩ : ByteArray)) ++ t129).size + 1 ≤ 9223372036854775807
          · rw [if_pos c8] at H
            have c8b0 := eq_true c8
            have c8b1 : decide (((((⟨#[45]⟩ : ByteArray) ++ t128) ++ (⟨#[58]⟩ : ByteArray)) ++ t129).size + 1 ≤ 9223372036854775807) = true := decide_eq_true c8
            try have c8b2 : (9223372036854775807 < ((((⟨#[45]⟩ : ByteArray) ++ t128) ++ (⟨#[58]⟩ : ByteArray)) ++ t129).size + 1) = False := eq_false (Nat.not_lt.2 c8)
            have c8b3 : (9223372036854775807 < 1 + t128.size + 1 + t129.size + 1) = False := eq_false (by have h_ := c8; have s0_ : (⟨#[45]⟩ : ByteArray).size = 1 := rfl; have s1_ : (⟨#[58]⟩ : ByteArray).size = 1 := rfl; simp only [ByteArray.size_append, s0_, s1_] at h_; omega)
            replace H := Option.bind_eq_some_iff.mp H
            obtain ⟨t130, A90, H⟩ := H
            replace H : (if (((((⟨#[45]⟩ : ByteArray) ++ t128) ++ (⟨#[58]⟩ : ByteArray)) ++ t129) ++ (⟨#[58]⟩ : ByteArray)).size + t130.size ≤ 9223372036854775807 then (some ((((((⟨#[45]⟩ : ByteArray) ++ t128) ++ (⟨#[58]⟩ : ByteArray)) ++ t129) ++ (⟨#[58]⟩ : ByteArray)) ++ t130)) else (none)) = some r := H
            have A9 := Aside0.mk A90
            clear A90
            by_cases c10 : (((((⟨#[45]⟩ : ByteArray) ++ t128) ++ (⟨#[58]⟩ : ByteArray)) ++ t129) ++ (⟨#[58]⟩ : ByteArray)).size + t130.size ≤ 9223372036854775807
            · rw [if_pos c10] at H
              have c10b0 := eq_true c10
              have c10b1 : decide ((((((⟨#[45]⟩ : ByteArray) ++ t128) ++ (⟨#[58]⟩ : ByteArray)) ++ t129) ++ (⟨#[58]⟩ : ByteArray)).size + t130.size ≤ 9223372036854775807) = true := decide_eq_true c10
              try have c10b2 : (9223372036854775807 < (((((⟨#[45]⟩ : ByteArray) ++ t128) ++ (⟨#[58]⟩ : ByteArray)) ++ t129) ++ (⟨#[58]⟩ : ByteArray)).size + t130.size) = False := eq_false (Nat.not_lt.2 c10)
              have c10b3 : (9223372036854775807 < 1 + t128.size + 1 + t129.size + 1 + t130.size) = False := eq_false (by have h_ := c10; have s0_ : (⟨#[45]⟩ : ByteArray).size = 1 := rfl; have s1_ : (⟨#[58]⟩ : ByteArray).size = 1 := rfl; simp only [ByteArray.size_append, s0_, s1_] at h_; omega)
              obtain rfl := Option.some.inj H
              go_enter Tryd.func16, Tryd.ntmps16
              go_wp2_with (first | (go_at_call 37; (with_reducible refine (zonetext_offset_1.calls (wrap64 (Int.tdiv (wrap64 (Int.tdiv (wrap64 (-a0)) 1000)) 3600)) t128 _ A3.out).mono ?_); rintro e w11 ⟨rfl, hb⟩; have n0_ := Aside0.mk (below_step (by repeat (first | (with_reducible first | exact HB.out | apply below_alloc | apply pw_below_drewN | apply below_drew1) | exact HB.out)) hb); clear HB; have HB := n0_; clear n0_; (try clear hb); (try clear hb2); (try clear hk); (try clear hi)) | (go_at_call 37; (with_reducible refine (zonetext_offset_1.calls (Int.tmod (wrap64 (Int.tdiv (wrap64 (Int.tdiv (wrap64 (-a0)) 1000)) 60)) 60) t129 _ A6.out).mono ?_); rintro e w12 ⟨rfl, hb⟩; have n0_ := Aside0.mk (below_step (by repeat (first | (with_reducible first | exact HB.out | apply below_alloc | apply pw_below_drewN | apply below_drew1) | exact HB.out)) hb); clear HB; have HB := n0_; clear n0_; (try clear hb); (try clear hb2); (try clear hk); (try clear hi)) | (go_at_call 37; (with_reducible refine (zonetext_offset_1.calls (Int.tmod (wrap64 (Int.tdiv (wrap64 (-a0)) 1000)) 60) t130 _ A9.out).mono ?_); rintro e w13 ⟨rfl, hb⟩; have n0_ := Aside0.mk (below_step (by repeat (first | (with_reducible first | exact HB.out | apply below_alloc | apply pw_below_drewN | apply below_drew1) | exact HB.out)) hb); clear HB; have HB := n0_; clear n0_; (try clear hb); (try clear hb2); (try clear hk); (try clear hi)))
              go_ret
              exact ⟨by first | rfl | (simp [errW_none, errW_some] <;> rfl) | (simp [*, errW_none, errW_some] <;> rfl), by repeat (first | (with_reducible first | exact HB.out | apply below_alloc | apply pw_below_drewN | apply below_drew1) | exact HB.out)⟩
            · rw [if_neg c10] at H
              exact absurd H (by simp)
          · rw [if_neg c8] at H
            exact absurd H (by simp)
        · rw [if_neg c7] at H
          exact absurd H (by simp)
      · rw [if_neg c5] at H
        exact absurd H (by simp)
    · rw [if_neg c4] at H
      exact absurd H (by simp)
  · rw [if_neg c2] at H
    have c2b0 : decide (a0 < 0) = false := decide_eq_false c2
    clear c2
    replace H := Option.bind_eq_some_iff.mp H
    obtain ⟨t131, A140, H⟩ := H
    replace H : (if 1 + t131.size ≤ 9223372036854775807 then (if ((⟨#[43]⟩ : ByteArray) ++ t131).size + 1 ≤ 9223372036854775807 then ((zonetext_offset_1.f (Int.tmod (wrap64 (Int.tdiv (wrap64 (Int.tdiv a0 1000)) 60)) 60)).bind fun t132 => (if (((⟨#[43]⟩ : ByteArray) ++ t131) ++ (⟨#[58]⟩ : ByteArray)).size + t132.size ≤ 9223372036854775807 then (if ((((⟨#[43]⟩ : ByteArray) ++ t131) ++ (⟨#[58]⟩ : ByteArray)) ++ t132).size + 1 ≤ 9223372036854775807 then ((zonetext_offset_1.f (Int.tmod (wrap64 (Int.tdiv a0 1000)) 60)).bind fun t133 => (if (((((⟨#[43]⟩ : ByteArray) ++ t131) ++ (⟨#[58]⟩ : ByteArray)) ++ t132) ++ (⟨#[58]⟩ : ByteArray)).size + t133.size ≤ 9223372036854775807 then (some ((((((⟨#[43]⟩ : ByteArray) ++ t131) ++ (⟨#[58]⟩ : ByteArray)) ++ t132) ++ (⟨#[58]⟩ : ByteArray)) ++ t133)) else (none))) else (none)) else (none))) else (none)) else (none)) = some r := H
    have A14 := Aside0.mk A140
    clear A140
    by_cases c15 : 1 + t131.size ≤ 9223372036854775807
    · rw [if_pos c15] at H
      have c15b0 := eq_true c15
      have c15b1 : decide (1 + t131.size ≤ 9223372036854775807) = true := decide_eq_true c15
      try have c15b2 : (9223372036854775807 < 1 + t131.size) = False := eq_false (Nat.not_lt.2 c15)
      by_cases c16 : ((⟨#[43]⟩ : ByteArray) ++ t131).size + 1 ≤ 9223372036854775807
      · rw [if_pos c16] at H
        have c16b0 := eq_true c16
        have c16b1 : decide (((⟨#[43]⟩ : ByteArray) ++ t131).size + 1 ≤ 9223372036854775807) = true := decide_eq_true c16
        try have c16b2 : (9223372036854775807 < ((⟨#[43]⟩ : ByteArray) ++ t131).size + 1) = False := eq_false (Nat.not_lt.2 c16)
        have c16b3 : (9223372036854775807 < 1 + t131.size + 1) = False := eq_false (by have h_ := c16; have s0_ : (⟨#[43]⟩ : ByteArray).size = 1 := rfl; simp only [ByteArray.size_append, s0_] at h_; omega)
        replace H := Option.bind_eq_some_iff.mp H
        obtain ⟨t132, A170, H⟩ := H
        replace H : (if (((⟨#[43]⟩ : ByteArray) ++ t131) ++ (⟨#[58]⟩ : ByteArray)).size + t132.size ≤ 9223372036854775807 then (if ((((⟨#[43]⟩ : ByteArray) ++ t131) ++ (⟨#[58]⟩ : ByteArray)) ++ t132).size + 1 ≤ 9223372036854775807 then ((zonetext_offset_1.f (Int.tmod (wrap64 (Int.tdiv a0 1000)) 60)).bind fun t133 => (if (((((⟨#[43]⟩ : ByteArray) ++ t131) ++ (⟨#[58]⟩ : ByteArray)) ++ t132) ++ (⟨#[58]⟩ : ByteArray)).size + t133.size ≤ 9223372036854775807 then (some ((((((⟨#[43]⟩ : ByteArray) ++ t131) ++ (⟨#[58]⟩ : ByteArray)) ++ t132) ++ (⟨#[58]⟩ : ByteArray)) ++ t133)) else (none))) else (none)) else (none)) = some r := H
        have A17 := Aside0.mk A170
        clear A170
        by_cases c18 : (((⟨#[43]⟩ : ByteArray) ++ t131) ++ (⟨#[58]⟩ : ByteArray)).size + t132.size ≤ 9223372036854775807
        · rw [if_pos c18] at H
          have c18b0 := eq_true c18
          have c18b1 : decide ((((⟨#[43]⟩ : ByteArray) ++ t131) ++ (⟨#[58]⟩ : ByteArray)).size + t132.size ≤ 9223372036854775807) = true := decide_eq_true c18
          try have c18b2 : (9223372036854775807 < (((⟨#[43]⟩ : ByteArray) ++ t131) ++ (⟨#[58]⟩ : ByteArray)).size + t132.size) = False := eq_false (Nat.not_lt.2 c18)
          have c18b3 : (9223372036854775807 < 1 + t131.size + 1 + t132.size) = False := eq_false (by have h_ := c18; have s0_ : (⟨#[43]⟩ : ByteArray).size = 1 := rfl; have s1_ : (⟨#[58]⟩ : ByteArray).size = 1 := rfl; simp only [ByteArray.size_append, s0_, s1_] at h_; omega)
          by_cases c19 : ((((⟨#[43]⟩ : ByteArray) ++ t131) ++ (⟨#[58]⟩ : ByteArray)) ++ t132).size + 1 ≤ 9223372036854775807
          · rw [if_pos c19] at H
            have c19b0 := eq_true c19
            have c19b1 : decide (((((⟨#[43]⟩ : ByteArray) ++ t131) ++ (⟨#[58]⟩ : ByteArray)) ++ t132).size + 1 ≤ 9223372036854775807) = true := decide_eq_true c19
            try have c19b2 : (9223372036854775807 < ((((⟨#[43]⟩ : ByteArray) ++ t131) ++ (⟨#[58]⟩ : ByteArray)) ++ t132).size + 1) = False := eq_false (Nat.not_lt.2 c19)
            have c19b3 : (9223372036854775807 < 1 + t131.size + 1 + t132.size + 1) = False := eq_false (by have h_ := c19; have s0_ : (⟨#[43]⟩ : ByteArray).size = 1 := rfl; have s1_ : (⟨#[58]⟩ : ByteArray).size = 1 := rfl; simp only [ByteArray.size_append, s0_, s1_] at h_; omega)
            replace H := Option.bind_eq_some_iff.mp H
            obtain ⟨t133, A200, H⟩ := H
            replace H : (if (((((⟨#[43]⟩ : ByteArray) ++ t131) ++ (⟨#[58]⟩ : ByteArray)) ++ t132) ++ (⟨#[58]⟩ : ByteArray)).size + t133.size ≤ 9223372036854775807 then (some ((((((⟨#[43]⟩ : ByteArray) ++ t131) ++ (⟨#[58]⟩ : ByteArray)) ++ t132) ++ (⟨#[58]⟩ : ByteArray)) ++ t133)) else (none)) = some r := H
            have A20 := Aside0.mk A200
            clear A200
            by_cases c21 : (((((⟨#[43]⟩ : ByteArray) ++ t131) ++ (⟨#[58]⟩ : ByteArray)) ++ t132) ++ (⟨#[58]⟩ : ByteArray)).size + t133.size ≤ 9223372036854775807
            · rw [if_pos c21] at H
              have c21b0 := eq_true c21
              have c21b1 : decide ((((((⟨#[43]⟩ : ByteArray) ++ t131) ++ (⟨#[58]⟩ : ByteArray)) ++ t132) ++ (⟨#[58]⟩ : ByteArray)).size + t133.size ≤ 9223372036854775807) = true := decide_eq_true c21
              try have c21b2 : (9223372036854775807 < (((((⟨#[43]⟩ : ByteArray) ++ t131) ++ (⟨#[58]⟩ : ByteArray)) ++ t132) ++ (⟨#[58]⟩ : ByteArray)).size + t133.size) = False := eq_false (Nat.not_lt.2 c21)
              have c21b3 : (9223372036854775807 < 1 + t131.size + 1 + t132.size + 1 + t133.size) = False := eq_false (by have h_ := c21; have s0_ : (⟨#[43]⟩ : ByteArray).size = 1 := rfl; have s1_ : (⟨#[58]⟩ : ByteArray).size = 1 := rfl; simp only [ByteArray.size_append, s0_, s1_] at h_; omega)
              obtain rfl := Option.some.inj H
              go_enter Tryd.func16, Tryd.ntmps16
              go_wp2_with (first | (go_at_call 37; (with_reducible refine (zonetext_offset_1.calls (wrap64 (Int.tdiv (wrap64 (Int.tdiv a0 1000)) 3600)) t131 _ A14.out).mono ?_); rintro e w22 ⟨rfl, hb⟩; have n0_ := Aside0.mk (below_step (by repeat (first | (with_reducible first | exact HB.out | apply below_alloc | apply pw_below_drewN | apply below_drew1) | exact HB.out)) hb); clear HB; have HB := n0_; clear n0_; (try clear hb); (try clear hb2); (try clear hk); (try clear hi)) | (go_at_call 37; (with_reducible refine (zonetext_offset_1.calls (Int.tmod (wrap64 (Int.tdiv (wrap64 (Int.tdiv a0 1000)) 60)) 60) t132 _ A17.out).mono ?_); rintro e w23 ⟨rfl, hb⟩; have n0_ := Aside0.mk (below_step (by repeat (first | (with_reducible first | exact HB.out | apply below_alloc | apply pw_below_drewN | apply below_drew1) | exact HB.out)) hb); clear HB; have HB := n0_; clear n0_; (try clear hb); (try clear hb2); (try clear hk); (try clear hi)) | (go_at_call 37; (with_reducible refine (zonetext_offset_1.calls (Int.tmod (wrap64 (Int.tdiv a0 1000)) 60) t133 _ A20.out).mono ?_); rintro e w24 ⟨rfl, hb⟩; have n0_ := Aside0.mk (below_step (by repeat (first | (with_reducible first | exact HB.out | apply below_alloc | apply pw_below_drewN | apply below_drew1) | exact HB.out)) hb); clear HB; have HB := n0_; clear n0_; (try clear hb); (try clear hb2); (try clear hk); (try clear hi)))
              go_ret
              exact ⟨by first | rfl | (simp [errW_none, errW_some] <;> rfl) | (simp [*, errW_none, errW_some] <;> rfl), by repeat (first | (with_reducible first | exact HB.out | apply below_alloc | apply pw_below_drewN | apply below_drew1) | exact HB.out)⟩
            · rw [if_neg c21] at H
              exact absurd H (by simp)
          · rw [if_neg c19] at H
            exact absurd H (by simp)
        · rw [if_neg c18] at H
          exact absurd H (by simp)
      · rw [if_neg c16] at H
        exact absurd H (by simp)
    · rw [if_neg c15] at H
      exact absurd H (by simp)

/-! ### strconv_Itoa: function 18 -/
/-- The decimal numeral. -/
def strconv_Itoa.f (a0 : Int) : Option (ByteArray) := if -9223372036854775808 ≤ a0 ∧ a0 ≤ 9223372036854775807 then some ⟨(Go.Lib.itoa a0).toArray⟩ else none
/-- The table of the powers of ten is laid. -/
def strconv_Itoa.Tab (w : World) : Prop := Go.Lib.TabIs Tryd.prog w "internal/strconv.uint64pow10" .u64 Go.Lib.pow10Tab
theorem strconv_Itoa.gTab : Tryd.prog.globalNamed "internal/strconv.uint64pow10" = some 3 := by kernel_rfl
theorem strconv_Itoa.Tab.below {w W : World} {n : Nat} (h : strconv_Itoa.Tab w) (hb : Below n w W) (hn : w.heap.size ≤ n) : strconv_Itoa.Tab W := by
  unfold strconv_Itoa.Tab Go.Lib.TabIs World.var? at h ⊢
  rw [strconv_Itoa.gTab] at h ⊢
  simp only [Option.bind_some] at h ⊢
  have hlt : 3 < w.heap.size := by
    rcases Nat.lt_or_ge 3 w.heap.size with h' | h'
    · exact h'
    · rw [Array.getElem?_eq_none h'] at h; cases h
  rw [hb.block 3 (Nat.lt_of_lt_of_le hlt hn)]
  exact h
def strconv_Itoa.ren : Go.Shelf.Ren := ⟨fun | 129 => 87 | 171 => 18 | 243 => 40 | 246 => 54 | 283 => 70 | 284 => 71 | 285 => 72 | 286 => 73 | 317 => 86 | 318 => 88 | 319 => 89 | 320 => 90 | 337 => 98 | 338 => 99 | n => n, fun | 0 => 0 | 2 => 2 | 3 => 3 | 4 => 4 | 5 => 5 | 9 => 9 | 20 => 20 | 37 => 41 | 46 => 73 | 51 => 111 | 53 => 61 | 171 => 91 | 173 => 94 | 212 => 110 | 213 => 112 | 232 => 127 | 233 => 128 | n => n, fun | 17 => 3 | 18 => 6 | 19 => 7 | n => n⟩
theorem strconv_Itoa.lays : Go.Proofs.LaysM.n171 Tryd.prog strconv_Itoa.ren := {
  mixed := by kernel_rfl
  f129 := Tryd.func87.trans (congrArg some (by kernel_rfl))
  f171 := Tryd.func18.trans (congrArg some (by kernel_rfl))
  f243 := Tryd.func40.trans (congrArg some (by kernel_rfl))
  f246 := Tryd.func54.trans (congrArg some (by kernel_rfl))
  f283 := Tryd.func70.trans (congrArg some (by kernel_rfl))
  f284 := Tryd.func71.trans (congrArg some (by kernel_rfl))
  f285 := Tryd.func72.trans (congrArg some (by kernel_rfl))
  f286 := Tryd.func73.trans (congrArg some (by kernel_rfl))
  f317 := Tryd.func86.trans (congrArg some (by kernel_rfl))
  f318 := Tryd.func88.trans (congrArg some (by kernel_rfl))
  f319 := Tryd.func89.trans (congrArg some (by kernel_rfl))
  f320 := Tryd.func90.trans (congrArg some (by kernel_rfl))
  f337 := Tryd.func98.trans (congrArg some (by kernel_rfl))
  f338 := Tryd.func99.trans (congrArg some (by kernel_rfl))
  t0 := Tryd.underlying0
  a0 := Tryd.isAgg0
  z0 := Tryd.sizeOf0
  v0 := Tryd.zeroValue0
  t2 := Tryd.underlying2
  a2 := Tryd.isAgg2
  z2 := Tryd.sizeOf2
  v2 := Tryd.zeroValue2
  t3 := Tryd.underlying3
  a3 := Tryd.isAgg3
  z3 := Tryd.sizeOf3
  v3 := Tryd.zeroValue3
  t4 := Tryd.underlying4
  a4 := Tryd.isAgg4
  z4 := Tryd.sizeOf4
  v4 := Tryd.zeroValue4
  t5 := Tryd.underlying5
  a5 := Tryd.isAgg5
  z5 := Tryd.sizeOf5
  v5 := Tryd.zeroValue5
  t9 := Tryd.underlying9
  a9 := Tryd.isAgg9
  z9 := Tryd.sizeOf9
  v9 := Tryd.zeroValue9
  t20 := Tryd.underlying20
  a20 := Tryd.isAgg20
  z20 := Tryd.sizeOf20
  v20 := Tryd.zeroValue20
  t37 := Tryd.underlying41
  a37 := Tryd.isAgg41
  z37 := Tryd.sizeOf41
  v37 := Tryd.zeroValue41
  t46 := Tryd.underlying73
  a46 := Tryd.isAgg73
  z46 := Tryd.sizeOf73
  v46 := Tryd.zeroValue73
  t51 := Tryd.underlying111
  a51 := Tryd.isAgg111
  z51 := Tryd.sizeOf111
  v51 := Tryd.zeroValue111
  t53 := Tryd.underlying61
  a53 := Tryd.isAgg61
  z53 := Tryd.sizeOf61
  v53 := Tryd.zeroValue61
  t171 := Tryd.underlying91
  a171 := Tryd.isAgg91
  z171 := Tryd.sizeOf91
  v171 := Tryd.zeroValue91
  t173 := Tryd.underlying94
  a173 := Tryd.isAgg94
  z173 := Tryd.sizeOf94
  v173 := Tryd.zeroValue94
  t212 := Tryd.underlying110
  a212 := Tryd.isAgg110
  z212 := Tryd.sizeOf110
  v212 := Tryd.zeroValue110
  t213 := Tryd.underlying112
  a213 := Tryd.isAgg112
  z213 := Tryd.sizeOf112
  t232 := Tryd.underlying127
  a232 := Tryd.isAgg127
  z232 := Tryd.sizeOf127
  v232 := Tryd.zeroValue127
  t233 := Tryd.underlying128
  a233 := Tryd.isAgg128
  z233 := Tryd.sizeOf128
  v233 := Tryd.zeroValue128
  g17 := by kernel_rfl
  g18 := by kernel_rfl
  g19 := by kernel_rfl
  i0 := by kernel_rfl
  i2 := by kernel_rfl
  i3 := by kernel_rfl
  i4 := by kernel_rfl
  i5 := by kernel_rfl
  i9 := by kernel_rfl
  i20 := by kernel_rfl
  i37 := by kernel_rfl
  i46 := by kernel_rfl
  i51 := by kernel_rfl
  i53 := by kernel_rfl
  i171 := by kernel_rfl
  i173 := by kernel_rfl
  i212 := by kernel_rfl
  i232 := by kernel_rfl
  i233 := by kernel_rfl
  m17 := by kernel_rfl
  m18 := by kernel_rfl
  m19 := by kernel_rfl }
theorem strconv_Itoa.calls (a0 : Int) (r : ByteArray) (w : World) (hT : strconv_Itoa.Tab w) (h : strconv_Itoa.f a0 = some r) :
    Calls Tryd.prog 18 #[.int .i64 a0] w fun e w' => e = .returned (.string r) ∧ Below w.heap.size w w' := by
  unfold strconv_Itoa.f at h
  by_cases c : -9223372036854775808 ≤ a0 ∧ a0 ≤ 9223372036854775807
  · rw [if_pos c] at h
    obtain rfl := Option.some.inj h
    refine (Go.Proofs.Any.strconv_Itoa strconv_Itoa.lays a0 c.1 c.2 w hT).mono ?_
    rintro e w' ⟨rfl, k, os, rfl⟩
    exact ⟨rfl, Go.Lib.below_grow w.heap.size w (Nat.le_refl _) k os⟩
  · rw [if_neg c] at h; cases h

/-! ### strings_Builder_String: function 19 -/
/-- The text that a builder holds. -/
def strings_Builder_String.f (a0 : ByteArray) : Option (ByteArray) := some a0
def strings_Builder_String.ren : Go.Shelf.Ren := ⟨fun | 169 => 19 | n => n, fun | 0 => 0 | 3 => 3 | 9 => 9 | 37 => 41 | 70 => 40 | 72 => 43 | 127 => 67 | 5 => 5 | n => n, fun | n => n⟩
theorem strings_Builder_String.lays : Go.Proofs.Lays.n169 Tryd.prog strings_Builder_String.ren := {
  mixed := by kernel_rfl
  f169 := Tryd.func19.trans (congrArg some (by kernel_rfl))
  t0 := Tryd.underlying0
  a0 := Tryd.isAgg0
  z0 := Tryd.sizeOf0
  v0 := Tryd.zeroValue0
  t3 := Tryd.underlying3
  a3 := Tryd.isAgg3
  z3 := Tryd.sizeOf3
  v3 := Tryd.zeroValue3
  t9 := Tryd.underlying9
  a9 := Tryd.isAgg9
  z9 := Tryd.sizeOf9
  v9 := Tryd.zeroValue9
  t37 := Tryd.underlying41
  a37 := Tryd.isAgg41
  z37 := Tryd.sizeOf41
  v37 := Tryd.zeroValue41
  t70 := Tryd.underlying40
  a70 := Tryd.isAgg40
  z70 := Tryd.sizeOf40
  v70 := Tryd.zeroValue40
  t72 := Tryd.underlying43
  a72 := Tryd.isAgg43
  z72 := Tryd.sizeOf43
  v72 := Tryd.zeroValue43
  t127 := Tryd.underlying67
  a127 := Tryd.isAgg67
  z127 := Tryd.sizeOf67
  v127 := Tryd.zeroValue67 }
theorem strings_Builder_String.extra : Go.Proofs.Builder.Extra Tryd.prog strings_Builder_String.ren := { sizeBuilder := by kernel_rfl, liesBuilder := by kernel_rfl, t5 := Tryd.underlying5, a5 := Tryd.isAgg5, z5 := Tryd.sizeOf5, v5 := Tryd.zeroValue5, infoByte := by kernel_rfl, cellsByte := by kernel_rfl, sizeByte := by kernel_rfl, neB5 := by decide }
theorem strings_Builder_String.does (B b : Nat) (x r : ByteArray) (w : World) (hI : strings_Builder_WriteString.Is B b x w) (hBw : B ≤ w.heap.size) (h : strings_Builder_String.f x = some r) :
    Calls Tryd.prog 19 #[.pointer (some ⟨b, 0, none⟩)] w fun e w' => e = .returned (.string r) ∧ Below B w w' ∧ Go.Lib.OthersKept 5 (some b) w w' := by
  obtain rfl := Option.some.inj h
  refine (Go.Proofs.Any.Builder_String_any_k strings_Builder_String.lays strings_Builder_String.extra B b x.data.toList w hI hBw).mono ?_
  rintro e w' ⟨rfl, _, h2, h3⟩
  exact ⟨rfl, h2, h3⟩

/-! ### zonetext_Print: function 5 -/
def zonetext_Print.l0 : Nat → ByteArray → List (S50) → Int → Int → Option (ByteArray × Int)
  | 0, _, _, _, _ => none
  | k + 1, x5, x27, x28, x29 => if x29 < x28 then (if 0 ≤ x29 then (if x29 < (x27.length : Int) then ((line_Split.f k ((rd_T50 x27 x29).f0)).bind fun bt147 => ((strconv_Itoa.f bt147.1).bind fun t150 => (if 3 + t150.size ≤ 9223372036854775807 then (if ((⟨#[97, 116, 32]⟩ : ByteArray) ++ t150).size + 1 ≤ 9223372036854775807 then ((strconv_Itoa.f bt147.2.1).bind fun t151 => (if (((⟨#[97, 116, 32]⟩ : ByteArray) ++ t150) ++ (⟨#[32]⟩ : ByteArray)).size + t151.size ≤ 9223372036854775807 then (if ((((⟨#[97, 116, 32]⟩ : ByteArray) ++ t150) ++ (⟨#[32]⟩ : ByteArray)) ++ t151).size + 1 ≤ 9223372036854775807 then ((zonetext_offset.f ((rd_T50 x27 x29).f1)).bind fun t152 => (if (((((⟨#[97, 116, 32]⟩ : ByteArray) ++ t150) ++ (⟨#[32]⟩ : ByteArray)) ++ t151) ++ (⟨#[32]⟩ : ByteArray)).size + t152.size ≤ 9223372036854775807 then (if ((((((⟨#[97, 116, 32]⟩ : ByteArray) ++ t150) ++ (⟨#[32]⟩ : ByteArray)) ++ t151) ++ (⟨#[32]⟩ : ByteArray)) ++ t152).size + 1 ≤ 9223372036854775807 then (if (((((((⟨#[97, 116, 32]⟩ : ByteArray) ++ t150) ++ (⟨#[32]⟩ : ByteArray)) ++ t151) ++ (⟨#[32]⟩ : ByteArray)) ++ t152) ++ (⟨#[32]⟩ : ByteArray)).size + ((rd_T50 x27 x29).f2).size ≤ 9223372036854775807 then (if ((((((((⟨#[97, 116, 32]⟩ : ByteArray) ++ t150) ++ (⟨#[32]⟩ : ByteArray)) ++ t151) ++ (⟨#[32]⟩ : ByteArray)) ++ t152) ++ (⟨#[32]⟩ : ByteArray)) ++ ((rd_T50 x27 x29).f2)).size + 1 ≤ 9223372036854775807 then ((strings_Builder_WriteString.f x5 (((((((((⟨#[97, 116, 32]⟩ : ByteArray) ++ t150) ++ (⟨#[32]⟩ : ByteArray)) ++ t151) ++ (⟨#[32]⟩ : ByteArray)) ++ t152) ++ (⟨#[32]⟩ : ByteArray)) ++ ((rd_T50 x27 x29).f2)) ++ (⟨#[10]⟩ : ByteArray))).bind fun t153 => (zonetext_Print.l0 k t153 x27 x28 (wrap64 (x29 + 1)))) else (none)) else (none)) else (none)) else (none))) else (none)) else (none))) else (none)) else (none)))) else (none)) else (none)) else ((strings_Builder_String.f x5).bind fun t144 => (some (t144, 0)))
def zonetext_Print.f (k : Nat) (a0_0 : ByteArray) (a0_1 : Int) (l0_2 : List (S50)) : Option (ByteArray × Int) := (zone_Check.f k a0_0 a0_1 l0_2).bind fun t141 => (if t141 = 0 then (if 5 + a0_0.size ≤ 9223372036854775807 then (if ((⟨#[122, 111, 110, 101, 32]⟩ : ByteArray) ++ a0_0).size + 1 ≤ 9223372036854775807 then ((zonetext_offset.f a0_1).bind fun t142 => (if (((⟨#[122, 111, 110, 101, 32]⟩ : ByteArray) ++ a0_0) ++ (⟨#[32]⟩ : ByteArray)).size + t142.size ≤ 9223372036854775807 then (if ((((⟨#[122, 111, 110, 101, 32]⟩ : ByteArray) ++ a0_0) ++ (⟨#[32]⟩ : ByteArray)) ++ t142).size + 1 ≤ 9223372036854775807 then ((strings_Builder_WriteString.f (⟨#[]⟩ : ByteArray) (((((⟨#[122, 111, 110, 101, 32]⟩ : ByteArray) ++ a0_0) ++ (⟨#[32]⟩ : ByteArray)) ++ t142) ++ (⟨#[10]⟩ : ByteArray))).bind fun t143 => (zonetext_Print.l0 k t143 l0_2 (l0_2.length : Int) 0)) else (none)) else (none))) else (none)) else (none)) else (some ((⟨#[]⟩ : ByteArray), t141)))
theorem zonetext_Print.mono_l : ∀ k, (∀ y0 y1 y2 y3, LeO (zonetext_Print.l0 k y0 y1 y2 y3) (zonetext_Print.l0 (k + 1) y0 y1 y2 y3))
  | 0 => fun _ _ _ _ r h => by simp [zonetext_Print.l0] at h
  | k + 1 => by
    have ih0 := zonetext_Print.mono_l k
    · intro y0 y1 y2 y3
      unfold zonetext_Print.l0
      repeat' first
      | (with_reducible exact ih0 _ _ _ _)
      | (with_reducible exact line_Split.mono _ _)
      | (with_reducible exact zone_Check.mono _ _ _ _)
      | (with_reducible exact LeO.refl _)
      | (with_reducible exact LeO.none _)
      | (with_reducible refine LeO.ite ?_ ?_)
      | (with_reducible refine LeO.bind ?_ (fun _ => ?_))
      | exact ih0 _ _ _ _
      | exact line_Split.mono _ _
      | exact zone_Check.mono _ _ _ _
      | exact LeO.none _
      | refine LeO.ite ?_ ?_
      | refine LeO.bind ?_ (fun _ => ?_)
theorem zonetext_Print.mono : ∀ a0 a1 a2 k, LeO (zonetext_Print.f k a0 a1 a2) (zonetext_Print.f (k + 1) a0 a1 a2) := by
  intro a0 a1 a2 k
  have ih0 := zonetext_Print.mono_l k
  unfold zonetext_Print.f
  repeat' first
      | (with_reducible exact ih0 _ _ _ _)
      | (with_reducible exact line_Split.mono _ _)
      | (with_reducible exact zone_Check.mono _ _ _ _)
      | (with_reducible exact LeO.refl _)
      | (with_reducible exact LeO.none _)
      | (with_reducible refine LeO.ite ?_ ?_)
      | (with_reducible refine LeO.bind ?_ (fun _ => ?_))
      | exact ih0 _ _ _ _
      | exact line_Split.mono _ _
      | exact zone_Check.mono _ _ _ _
      | exact LeO.none _
      | refine LeO.ite ?_ ?_
      | refine LeO.bind ?_ (fun _ => ?_)
def zonetext_Print.T5 : Bool × List (List Nat × List Nat) := (true, [([], []), ([0], [0]), ([1], [1]), ([2], [2]), ([], []), ([4], [4]), ([5], [5]), ([3, 6], [3, 6]), ([7], [7]), ([8, 6], [8])])
def zonetext_Print.B5 : List Nat := [0, 1, 3, 7, 0, 16, 48, 127, 255, 511]
theorem zonetext_Print.tab5 : rtab .any (opsOf Tryd.f5 5) = zonetext_Print.T5 := by kernel_rfl
theorem zonetext_Print.bits5 : waitsOk zonetext_Print.T5.2 zonetext_Print.B5 = true := by kernel_rfl
def zonetext_Print.T10 : Bool × List (List Nat × List Nat) := (true, [([], []), ([0], [0]), ([1], [1]), ([2], [2]), ([], []), ([4, 1], [4]), ([3, 5], [3, 5]), ([6], [6]), ([], []), ([8], [8]), ([9, 5], [9]), ([7, 10], [7, 10]), ([11], [11]), ([], []), ([13], [13]), ([12, 14], [12, 14]), ([15], [15]), ([16, 10], [16])])
def zonetext_Print.B10 : List Nat := [0, 1, 3, 7, 0, 19, 63, 127, 0, 256, 819, 2047, 4095, 0, 8192, 32767, 65535, 131071]
theorem zonetext_Print.tab10 : rtab .any (opsOf Tryd.f5 10) = zonetext_Print.T10 := by kernel_rfl
theorem zonetext_Print.bits10 : waitsOk zonetext_Print.T10.2 zonetext_Print.B10 = true := by kernel_rfl
set_option maxHeartbeats 8000000 in
set_option maxRecDepth 100000 in
theorem zonetext_Print.calls (k : Nat) (a0_0 : ByteArray) (a0_1 : Int) (A0_2 : Option Addr) (c0_2 : Nat) (l0_2 : List (S50)) (r1 : ByteArray) (r2 : Int) (w : World) (hr0_2 : Kd.C k50 w A0_2 l0_2.length l0_2) (hc0_2 : l0_2.length ≤ c0_2) (hT : strconv_Itoa.Tab w) (h : zonetext_Print.f k a0_0 a0_1 l0_2 = some (r1, r2)) :
    Calls Tryd.prog 5 #[.agg #[.string a0_0, .int .i64 a0_1, .slice A0_2 l0_2.length c0_2]] w fun e w' => e = .returned (.tuple #[.string r1, .int .i64 r2]) ∧ Below w.heap.size w w' := by
  have hu24 := Tryd.underlying24
  have hu50 := Tryd.underlying50
  have HR0_2 := Aside0.mk hr0_2
  have HC0_2 := Aside0.mk hc0_2
  clear hr0_2 hc0_2
  have HB := Aside0.mk (Below.refl w.heap.size w)
  have H : ((zone_Check.f k a0_0 a0_1 l0_2).bind fun t141 => (if t141 = 0 then (if 5 + a0_0.size ≤ 9223372036854775807 then (if ((⟨#[122, 111, 110, 101, 32]⟩ : ByteArray) ++ a0_0).size + 1 ≤ 9223372036854775807 then ((zonetext_offset.f a0_1).bind fun t142 => (if (((⟨#[122, 111, 110, 101, 32]⟩ : ByteArray) ++ a0_0) ++ (⟨#[32]⟩ : ByteArray)).size + t142.size ≤ 9223372036854775807 then (if ((((⟨#[122, 111, 110, 101, 32]⟩ : ByteArray) ++ a0_0) ++ (⟨#[32]⟩ : ByteArray)) ++ t142).size + 1 ≤ 9223372036854775807 then ((strings_Builder_WriteString.f (⟨#[]⟩ : ByteArray) (((((⟨#[122, 111, 110, 101, 32]⟩ : ByteArray) ++ a0_0) ++ (⟨#[32]⟩ : ByteArray)) ++ t142) ++ (⟨#[10]⟩ : ByteArray))).bind fun t143 => (zonetext_Print.l0 k t143 l0_2 (l0_2.length : Int) 0)) else (none)) else (none))) else (none)) else (none)) else (some ((⟨#[]⟩ : ByteArray), t141)))) = some (r1, r2) := h
  clear h
  replace H := Option.bind_eq_some_iff.mp H
  obtain ⟨t141, A20, H⟩ := H
  replace H : (if t141 = 0 then (if 5 + a0_0.size ≤ 9223372036854775807 then (if ((⟨#[122, 111, 110, 101, 32]⟩ : ByteArray) ++ a0_0).size + 1 ≤ 9223372036854775807 then ((zonetext_offset.f a0_1).bind fun t142 => (if (((⟨#[122, 111, 110, 101, 32]⟩ : ByteArray) ++ a0_0) ++ (⟨#[32]⟩ : ByteArray)).size + t142.size ≤ 9223372036854775807 then (if ((((⟨#[122, 111, 110, 101, 32]⟩ : ByteArray) ++ a0_0) ++ (⟨#[32]⟩ : ByteArray)) ++ t142).size + 1 ≤ 9223372036854775807 then ((strings_Builder_WriteString.f (⟨#[]⟩ : ByteArray) (((((⟨#[122, 111, 110, 101, 32]⟩ : ByteArray) ++ a0_0) ++ (⟨#[32]⟩ : ByteArray)) ++ t142) ++ (⟨#[10]⟩ : ByteArray))).bind fun t143 => (zonetext_Print.l0 k t143 l0_2 (l0_2.length : Int) 0)) else (none)) else (none))) else (none)) else (none)) else (some ((⟨#[]⟩ : ByteArray), t141))) = some (r1, r2) := H
  have A2 := Aside0.mk A20
  clear A20
  by_cases c3 : t141 = 0
  · rw [if_pos c3] at H
    have c3b0 : (t141 == 0) = true := beq_iff_eq.mpr c3
    have c3b1 : (t141 != 0) = false := bne_eq_false_iff_eq.mpr c3
    clear c3
    by_cases c4 : 5 + a0_0.size ≤ 9223372036854775807
    · rw [if_pos c4] at H
      have c4b0 := eq_true c4
      have c4b1 : decide (5 + a0_0.size ≤ 9223372036854775807) = true := decide_eq_true c4
      try have c4b2 : (9223372036854775807 < 5 + a0_0.size) = False := eq_false (Nat.not_lt.2 c4)
      by_cases c5 : ((⟨#[122, 111, 110, 101, 32]⟩ : ByteArray) ++ a0_0).size + 1 ≤ 9223372036854775807
      · rw [if_pos c5] at H
        have c5b0 := eq_true c5
        have c5b1 : decide (((⟨#[122, 111, 110, 101, 32]⟩ : ByteArray) ++ a0_0).size + 1 ≤ 9223372036854775807) = true := decide_eq_true c5
        try have c5b2 : (9223372036854775807 < ((⟨#[122, 111, 110, 101, 32]⟩ : ByteArray) ++ a0_0).size + 1) = False := eq_false (Nat.not_lt.2 c5)
        have c5b3 : (9223372036854775807 < 5 + a0_0.size + 1) = False := eq_false (by have h_ := c5; have s0_ : (⟨#[122, 111, 110, 101, 32]⟩ : ByteArray).size = 5 := rfl; simp only [ByteArray.size_append, s0_] at h_; omega)
        replace H := Option.bind_eq_some_iff.mp H
        obtain ⟨t142, A60, H⟩ := H
        replace H : (if (((⟨#[122, 111, 110, 101, 32]⟩ : ByteArray) ++ a0_0) ++ (⟨#[32]⟩ : ByteArray)).size + t142.size ≤ 9223372036854775807 then (if ((((⟨#[122, 111, 110, 101, 32]⟩ : ByteArray) ++ a0_0) ++ (⟨#[32]⟩ : ByteArray)) ++ t142).size + 1 ≤ 9223372036854775807 then ((strings_Builder_WriteString.f (⟨#[]⟩ : ByteArray) (((((⟨#[122, 111, 110, 101, 32]⟩ : ByteArray) ++ a0_0) ++ (⟨#[32]⟩ : ByteArray)) ++ t142) ++ (⟨#[10]⟩ : ByteArray))).bind fun t143 => (zonetext_Print.l0 k t143 l0_2 (l0_2.length : Int) 0)) else (none)) else (none)) = some (r1, r2) := H
        have A6 := Aside0.mk A60
        clear A60
        by_cases c7 : (((⟨#[122, 111, 110, 101, 32]⟩ : ByteArray) ++ a0_0) ++ (⟨#[32]⟩ : ByteArray)).size + t142.size ≤ 9223372036854775807
        · rw [if_pos c7] at H
          have c7b0 := eq_true c7
          have c7b1 : decide ((((⟨#[122, 111, 110, 101, 32]⟩ : ByteArray) ++ a0_0) ++ (⟨#[32]⟩ : ByteArray)).size + t142.size ≤ 9223372036854775807) = true := decide_eq_true c7
          try have c7b2 : (9223372036854775807 < (((⟨#[122, 111, 110, 101, 32]⟩ : ByteArray) ++ a0_0) ++ (⟨#[32]⟩ : ByteArray)).size + t142.size) = False := eq_false (Nat.not_lt.2 c7)
          have c7b3 : (9223372036854775807 < 5 + a0_0.size + 1 + t142.size) = False := eq_false (by have h_ := c7; have s0_ : (⟨#[122, 111, 110, 101, 32]⟩ : ByteArray).size = 5 := rfl; have s1_ : (⟨#[32]⟩ : ByteArray).size = 1 := rfl; simp only [ByteArray.size_append, s0_, s1_] at h_; omega)
          by_cases c8 : ((((⟨#[122, 111, 110, 101, 32]⟩ : ByteArray) ++ a0_0) ++ (⟨#[32]⟩ : ByteArray)) ++ t142).size + 1 ≤ 9223372036854775807
          · rw [if_pos c8] at H
            have c8b0 := eq_true c8
            have c8b1 : decide (((((⟨#[122, 111, 110, 101, 32]⟩ : ByteArray) ++ a0_0) ++ (⟨#[32]⟩ : ByteArray)) ++ t142).size + 1 ≤ 9223372036854775807) = true := decide_eq_true c8
            try have c8b2 : (9223372036854775807 < ((((⟨#[122, 111, 110, 101, 32]⟩ : ByteArray) ++ a0_0) ++ (⟨#[32]⟩ : ByteArray)) ++ t142).size + 1) = False := eq_false (Nat.not_lt.2 c8)
            have c8b3 : (9223372036854775807 < 5 + a0_0.size + 1 + t142.size + 1) = False := eq_false (by have h_ := c8; have s0_ : (⟨#[122, 111, 110, 101, 32]⟩ : ByteArray).size = 5 := rfl; have s1_ : (⟨#[32]⟩ : ByteArray).size = 1 := rfl; simp only [ByteArray.size_append, s0_, s1_] at h_; omega)
            replace H := Option.bind_eq_some_iff.mp H
            obtain ⟨t143, A90, H⟩ := H
            replace H : (zonetext_Print.l0 k t143 l0_2 (l0_2.length : Int) 0) = some (r1, r2) := H
            have A9 := Aside0.mk A90
            clear A90
            have H' := Aside0.mk H
            clear H
            go_enter Tryd.func5, Tryd.ntmps5
            try go_wp2_with (first | ((with_reducible refine gate_dst (N := 1) rfl ?_); refine box_event ?hg (N := 1) ?hd (cs := #[.string a0_0, .int .i64 a0_1, .slice A0_2 l0_2.length c0_2]) (t := 24) ?hr ?_; (case hd => rfl); (case hg => rfl); (case hr => first | (go_simp; done) | (go_simp; rfl)); intro gb140 hg w10 hbox hb; have n0_ := Aside0.mk (below_step (by repeat (first | (with_reducible first | exact HB.out | apply below_alloc | apply pw_below_drewN | apply below_drew1) | exact HB.out)) hb); have n1_ := Aside0.mk (hbox); have n2_ := Aside0.mk ((by rw [hg]; exact (below_size (by repeat (first | (with_reducible first | exact HB.out | apply below_alloc | apply pw_below_drewN | apply below_drew1) | exact HB.out))) : w.heap.size ≤ gb140)); have n3_ := Aside0.mk ((by rw [hg]; exact (below_size (by repeat (first | (with_reducible first | exact HB.out | apply below_alloc | apply pw_below_drewN | apply below_drew1) | exact HB.out))) : w.heap.size ≤ gb140)); clear HB; have HB := n0_; have BK140 := n1_; have GW140 := n2_; have GE140 := n3_; clear n0_ n1_ n2_ n3_; clear hb hbox hg; have hcz11_0 : w10.cell? ⟨gb140, 0, none⟩ = some (.string a0_0) := (blk_cell BK140.out 0).trans rfl; have hcz11_1 : w10.cell? ⟨gb140, 1, none⟩ = some (.int .i64 a0_1) := (blk_cell BK140.out 1).trans rfl; have hcz11_2 : w10.cell? ⟨gb140, 2, none⟩ = some (.slice A0_2 l0_2.length c0_2) := (blk_cell BK140.out 2).trans rfl; have hfz11_0 := blk_frozen BK140.out 0; have hfz11_1 := blk_frozen BK140.out 1; have hfz11_2 := blk_frozen BK140.out 2) | ((with_reducible refine gate_callee (f := 14) rfl ?_); refine goesL_ (some 12) rfl rfl Tryd.func14 (by kernel_rfl) rfl #[.agg #[.string a0_0, .int .i64 a0_1, .slice A0_2 l0_2.length c0_2]] rfl (by (try simp only [List.map_toArray, List.map_cons, List.map_nil]); first | done | rfl | (simp only [List.length_drop, List.length_take]; rfl)) ?_; (with_reducible refine (zone_Check.calls k a0_0 a0_1 _ _ l0_2 t141 _ ?side1 ?side2 A2.out).mono ?_); (case side1 => repeat (first | exact (Kd.C_below HR0_2.out HB.out) | (with_reducible refine Kd.C_alloc ?_ _) | (with_reducible refine Kd.C_drewN ?_ _) | (with_reducible refine Kd.C_drew ?_))); (case side2 => exact HC0_2.out); rintro e w12 ⟨rfl, hb⟩; refine ⟨_, rfl, ?_⟩; have n0_ := Aside0.mk (blk_below (g := gb140) (o := .cells #[.string a0_0, .int .i64 a0_1, .slice A0_2 l0_2.length c0_2] 24 (0, 0)) (by (with_reducible repeat (first | refine blk_drewN ?_ _ | refine blk_drew ?_ | refine blk_alloc ?_ _)); exact BK140.out) hb); have n1_ := Aside0.mk (below_step (by repeat (first | (with_reducible first | exact HB.out | apply below_alloc | apply pw_below_drewN | apply below_drew1 | refine below_set ?_ GE140.out) | exact HB.out)) hb); clear BK140; clear HB; have BK140 := n0_; have HB := n1_; clear n0_ n1_; (try clear hb); (try clear hb2); (try clear hk); (try clear hi)) | ((with_reducible refine gate_dst (N := 5) rfl ?_); refine box_event ?hg (N := 5) ?hd (cs := #[.pointer none, .slice none 0 0]) (t := 43) ?hr ?_; (case hd => rfl); (case hg => rfl); (case hr => first | (go_simp; done) | (go_simp; rfl)); intro gbB hg wB hbox hb; have n0_ := Aside0.mk (blk_below (g := gb140) (o := .cells #[.string a0_0, .int .i64 a0_1, .slice A0_2 l0_2.length c0_2] 24 (0, 0)) (by (with_reducible repeat (first | refine blk_drewN ?_ _ | refine blk_drew ?_ | refine blk_alloc ?_ _)); exact BK140.out) hb); have n1_ := Aside0.mk (below_step (by repeat (first | (with_reducible first | exact HB.out | apply below_alloc | apply pw_below_drewN | apply below_drew1 | refine below_set ?_ GE140.out) | exact HB.out)) hb); have n2_ : w.heap.size ≤ gbB := (by rw [hg]; exact (below_size (by repeat (first | (with_reducible first | exact HB.out | apply below_alloc | apply pw_below_drewN | apply below_drew1 | refine below_set ?_ GE140.out) | exact HB.out)))); have NBX := Aside0.mk ((by rw [hg]; exact Nat.ne_of_gt (blk_lt (g := gb140) (o := .cells #[.string a0_0, .int .i64 a0_1, .slice A0_2 l0_2.length c0_2] 24 (0, 0)) (by (with_reducible repeat (first | refine blk_drewN ?_ _ | refine blk_drew ?_ | refine blk_alloc ?_ _)); exact BK140.out))) : gbB ≠ gb140); have HI := Aside0.mk (strings_Builder_WriteString.Is.fresh n2_ hbox); clear BK140; clear HB; have BK140 := n0_; have HB := n1_; clear n0_ n1_ n2_; clear hb hbox hg))
            have n0_ := Aside0.mk (blk_drew BK140.out)
            have n1_ := Aside0.mk (below_drew1 HB.out)
            have nI_ := Aside0.mk (strings_Builder_WriteString.Is.drew HI.out)
            clear BK140
            clear HB
            clear HI
            have BK140 := n0_
            have HB := n1_
            have HI := nI_
            clear nI_
            clear n0_ n1_
            refine start_ (n := 10) (S := fun w' => w'.cell? ⟨gb140, 0, none⟩ = some (.string a0_0) ∧ w'.cell? ⟨gb140, 1, none⟩ = some (.int .i64 a0_1) ∧ w'.cell? ⟨gb140, 2, none⟩ = some (.slice A0_2 l0_2.length c0_2)) (ds := []) #[false, false, false, false, false, false, false, false, false, false] (by kernel_rfl) rfl rfl ⟨(blk_cell BK140.out 0).trans rfl, (blk_cell BK140.out 1).trans rfl, (blk_cell BK140.out 2).trans rfl⟩ (fun hHeld => ?_); refine with_tabW zonetext_Print.tab5 zonetext_Print.bits5 (fun HT_ HW_ => ?_)
            generalize wB.drew = w13 at BK140 HB HI hHeld ⊢
            refine pure_ (i := 0) (N := some 16) (v := ?_) (a' := ?_) #[true, false, false, false, false, false, false, false, false, false] rfl rfl (any_of HT_.out (by kernel_rfl)) (fun _ _ _ h => h) (Or.inl ⟨by rfl, ?_⟩) ?_ ?_
            rotate_left
            · intro w'
              go_simp
              with_reducible rfl
            rotate_left
            · simp only [Act.put, List.setIfInBounds_toArray, List.set_cons_zero, List.set_cons_succ, i64_w, i32_w]
              rfl
            refine pure_ (i := 4) (N := some 20) (v := ?_) (a' := ?_) #[true, false, false, false, true, false, false, false, false, false] rfl rfl (any_of HT_.out (by kernel_rfl)) (fun _ _ _ h => h) (Or.inl ⟨by rfl, ?_⟩) ?_ ?_
            rotate_left
            · intro w'
              go_simp
              with_reducible rfl
            rotate_left
            · simp only [Act.put, List.setIfInBounds_toArray, List.set_cons_zero, List.set_cons_succ, i64_w, i32_w]
              rfl
            refine take_ (i := 1) (N := some 17) (v := ?_) (a' := ?_) #[true, true, false, false, true, false, false, false, false, false] rfl rfl (take_ofW HT_.out HW_.out (by kernel_rfl)) (fun _ _ _ h => h) (Or.inl ⟨by rfl, ?_⟩) hHeld ?_ ?_
            rotate_left
            · rintro w' ⟨s0, s1, s2⟩
              go_simp
              with_reducible rfl
            rotate_left
            · simp only [Act.put, List.setIfInBounds_toArray, List.set_cons_zero, List.set_cons_succ, i64_w, i32_w]
              rfl
            refine pure_ (i := 2) (N := some 18) (v := ?_) (a' := ?_) #[true, true, true, false, true, false, false, false, false, false] rfl rfl (any_of HT_.out (by kernel_rfl)) (fun _ _ _ h => h) (Or.inl ⟨by rfl, ?_⟩) ?_ ?_
            rotate_left
            · intro w'
              go_simp
              with_reducible rfl
            rotate_left
            · simp only [Act.put, List.setIfInBounds_toArray, List.set_cons_zero, List.set_cons_succ, i64_w, i32_w]
              rfl
            refine pure_ (i := 3) (N := some 19) (v := ?_) (a' := ?_) #[true, true, true, true, true, false, false, false, false, false] rfl rfl (any_of HT_.out (by kernel_rfl)) (fun _ _ _ h => h) (Or.inl ⟨by rfl, ?_⟩) ?_ ?_
            rotate_left
            · intro w'
              go_simp
              with_reducible rfl
            rotate_left
            · simp only [Act.put, List.setIfInBounds_toArray, List.set_cons_zero, List.set_cons_succ, i64_w, i32_w]
              rfl
            refine take_ (i := 5) (N := some 21) (v := ?_) (a' := ?_) #[true, true, true, true, true, true, false, false, false, false] rfl rfl (take_ofW HT_.out HW_.out (by kernel_rfl)) (fun _ _ _ h => h) (Or.inl ⟨by rfl, ?_⟩) hHeld ?_ ?_
            rotate_left
            · rintro w' ⟨s0, s1, s2⟩
              go_simp
              with_reducible rfl
            rotate_left
            · simp only [Act.put, List.setIfInBounds_toArray, List.set_cons_zero, List.set_cons_succ, i64_w, i32_w]
              rfl
            refine one_ (i := 6) (N := some 22) #[true, true, true, true, true, true, true, false, false, false] rfl rfl (one_of HT_.out (by kernel_rfl)) (by decide) (fun K hK => ?_)
            refine goes_ Tryd.func16 (by kernel_rfl) rfl #[.int .i64 a0_1] (by rfl) rfl rfl (by (try simp only [List.map_toArray, List.map_cons, List.map_nil]); first | done | rfl | (simp only [List.length_drop, List.length_take]; rfl)) ?_
            with_reducible refine (zonetext_offset.calls a0_1 t142 _ A6.out).mono ?_
            rintro e w14 ⟨rfl, hb⟩
            refine ⟨_, rfl, ?_⟩
            have n0_ := Aside0.mk (blk_below (g := gb140) (o := .cells #[.string a0_0, .int .i64 a0_1, .slice A0_2 l0_2.length c0_2] 24 (0, 0)) (by (with_reducible repeat (first | refine blk_drewN ?_ _ | refine blk_drew ?_ | refine blk_alloc ?_ _)); exact BK140.out) hb)
            have n1_ := Aside0.mk (below_step (by repeat (first | (with_reducible first | exact HB.out | apply below_alloc | apply pw_below_drewN | apply below_drew1 | refine below_set ?_ GE140.out) | exact HB.out)) hb)
            have nI_ := Aside0.mk (strings_Builder_WriteString.Is.below (by (with_reducible repeat (first | apply strings_Builder_WriteString.Is.alloc | apply strings_Builder_WriteString.Is.drewN | apply strings_Builder_WriteString.Is.drew)); exact HI.out) hb)
            clear BK140
            clear HB
            clear HI
            have BK140 := n0_
            have HB := n1_
            have HI := nI_
            clear nI_
            clear n0_ n1_
            (try clear hb)
            (try clear hb2)
            (try clear hk)
            (try clear hi)
            refine hK.out _ _ ⟨(blk_cell BK140.out 0).trans rfl, (blk_cell BK140.out 1).trans rfl, (blk_cell BK140.out 2).trans rfl⟩ (fun hHeld => ?_)
            clear hK K
            refine norm_ (a' := ?_) ?_ ?_
            rotate_left
            · show Act.put _ (some 22) _ = _
              simp only [Act.put, List.setIfInBounds_toArray, List.set_cons_zero, List.set_cons_succ, i64_w, i32_w]
              rfl
            refine pure_ (i := 7) (N := some 23) (v := ?_) (a' := ?_) #[true, true, true, true, true, true, true, true, false, false] rfl rfl (any_of HT_.out (by kernel_rfl)) (fun _ _ _ h => h) (Or.inl ⟨by rfl, ?_⟩) ?_ ?_
            rotate_left
            · intro w'
              go_simp
              with_reducible rfl
            rotate_left
            · simp only [Act.put, List.setIfInBounds_toArray, List.set_cons_zero, List.set_cons_succ, i64_w, i32_w]
              rfl
            refine pure_ (i := 8) (N := some 24) (v := ?_) (a' := ?_) #[true, true, true, true, true, true, true, true, true, false] rfl rfl (any_of HT_.out (by kernel_rfl)) (fun _ _ _ h => h) (Or.inl ⟨by rfl, ?_⟩) ?_ ?_
            rotate_left
            · intro w'
              go_simp
              with_reducible rfl
            rotate_left
            · simp only [Act.put, List.setIfInBounds_toArray, List.set_cons_zero, List.set_cons_succ, i64_w, i32_w]
              rfl
            refine one_ (i := 9) (N := some 25) #[true, true, true, true, true, true, true, true, true, true] rfl rfl (one_of HT_.out (by kernel_rfl)) (by decide) (fun K hK => ?_)
            refine goes_ Tryd.func15 (by kernel_rfl) rfl #[.pointer (some ⟨gbB, 0, none⟩), .string (((((⟨#[122, 111, 110, 101, 32]⟩ : ByteArray) ++ a0_0) ++ (⟨#[32]⟩ : ByteArray)) ++ t142) ++ (⟨#[10]⟩ : ByteArray))] (by rfl) rfl rfl (by (try simp only [List.map_toArray, List.map_cons, List.map_nil]); first | done | rfl | (simp only [List.length_drop, List.length_take]; rfl)) ?_
            with_reducible refine (strings_Builder_WriteString.does w.heap.size gbB (⟨#[]⟩ : ByteArray) (((((⟨#[122, 111, 110, 101, 32]⟩ : ByteArray) ++ a0_0) ++ (⟨#[32]⟩ : ByteArray)) ++ t142) ++ (⟨#[10]⟩ : ByteArray)) t143 _ (by (with_reducible repeat (first | apply strings_Builder_WriteString.Is.alloc | apply strings_Builder_WriteString.Is.drewN | apply strings_Builder_WriteString.Is.drew)); exact HI.out) (below_size (by repeat (first | (with_reducible first | exact HB.out | apply below_alloc | apply pw_below_drewN | apply below_drew1 | refine below_set ?_ GE140.out) | exact HB.out))) A9.out).mono ?_
            rintro e w15 ⟨⟨nB_, rfl⟩, hI, hb, hk⟩
            refine ⟨_, rfl, ?_⟩
            have n0_ := Aside0.mk (strings_Builder_WriteString.others hk (by (with_reducible repeat (first | refine blk_drewN ?_ _ | refine blk_drew ?_ | refine blk_alloc ?_ _)); exact BK140.out) NBX.out (by decide))
            have n1_ := Aside0.mk (Below.trans (show Below w.heap.size w _ from (by repeat (first | (with_reducible first | exact HB.out | apply below_alloc | apply pw_below_drewN | apply below_drew1 | refine below_set ?_ GE140.out) | exact HB.out))) hb)
            have nI_ := Aside0.mk hI
            clear BK140
            clear HB
            clear HI
            have BK140 := n0_
            have HB := n1_
            have HI := nI_
            clear nI_
            clear n0_ n1_
            (try clear hb)
            (try clear hb2)
            (try clear hk)
            (try clear hi)
            refine hK.out _ _ ⟨(blk_cell BK140.out 0).trans rfl, (blk_cell BK140.out 1).trans rfl, (blk_cell BK140.out 2).trans rfl⟩ (fun hHeld => ?_)
            clear hK K
            refine norm_ (a' := ?_) ?_ ?_
            rotate_left
            · show Act.put _ (some 25) _ = _
              simp only [Act.put, List.setIfInBounds_toArray, List.set_cons_zero, List.set_cons_succ, i64_w, i32_w]
              rfl
            refine done_ (done_of HT_.out (by kernel_rfl)) ?_
            have hcz16_0 : w15.cell? ⟨gb140, 0, none⟩ = some (.string a0_0) := (blk_cell BK140.out 0).trans rfl
            have hcz16_1 : w15.cell? ⟨gb140, 1, none⟩ = some (.int .i64 a0_1) := (blk_cell BK140.out 1).trans rfl
            have hcz16_2 : w15.cell? ⟨gb140, 2, none⟩ = some (.slice A0_2 l0_2.length c0_2) := (blk_cell BK140.out 2).trans rfl
            have hfz16_0 := blk_frozen BK140.out 0
            have hfz16_1 := blk_frozen BK140.out 1
            have hfz16_2 := blk_frozen BK140.out 2
            try go_wp2
            go_loopg [29] k (fun kq v29 w' => ∃ (x5_1 : ByteArray) (x29_1 : Int), v29 = .int .i64 x29_1 ∧ Aside0 (zonetext_Print.l0 kq x5_1 l0_2 (l0_2.length : Int) x29_1 = some (r1, r2)) ∧ Aside0 (kq ≤ k) ∧ Aside0 (w'.heap[gb140]? = some (.cells #[.string a0_0, .int .i64 a0_1, (.slice A0_2 l0_2.length c0_2)] 24 (0, 0))) ∧ Aside0 (Below w.heap.size w w') ∧ Aside0 (strings_Builder_WriteString.Is w.heap.size gbB x5_1 w'))
            case atStart => exact ⟨(t143), (0), (by first | rfl | (simp; done) | (simp [*]; done)), H', ⟨Nat.le_refl _⟩, ⟨by (with_reducible repeat (first | refine blk_drewN ?_ _ | refine blk_drew ?_ | refine blk_alloc ?_ _)); exact BK140.out⟩, ⟨by repeat (first | (with_reducible first | exact HB.out | apply below_alloc | apply pw_below_drewN | apply below_drew1 | refine below_set ?_ GE140.out) | exact HB.out)⟩, ⟨(by (with_reducible repeat (first | apply strings_Builder_WriteString.Is.alloc | apply strings_Builder_WriteString.Is.drewN | apply strings_Builder_WriteString.Is.drew)); exact HI.out)⟩⟩
            case round =>
              clear H'
              try clear c1
              try clear p2
              try clear c3
              try clear c3b0
              try clear c3b1
              try clear c4
              try clear c4b0
              try clear c4b1
              try clear c4b2
              try clear c5
              try clear c5b0
              try clear c5b1
              try clear c5b2
              try clear c7
              try clear c7b0
              try clear c7b1
              try clear c7b2
              try clear c8
              try clear c8b0
              try clear c8b1
              try clear c8b2
              try clear c14
              try clear c15
              try clear c16
              try clear hcz11_0
              try clear hcz11_1
              try clear hcz11_2
              try clear hcz16_0
              try clear hcz16_1
              try clear hcz16_2
              try clear hfz11_0
              try clear hfz11_1
              try clear hfz11_2
              try clear hfz16_0
              try clear hfz16_1
              try clear hfz16_2
              obtain ⟨x5_1, x29_1, rfl, HA, HK1, BK140, HB, HI⟩ := hrel
              cases gk with
              | zero => exact absurd HA.out (by simp [zonetext_Print.l0])
              | succ k1 =>
                have H := HA.out
                clear HA
                simp only [zonetext_Print.l0] at H
                by_cases c17 : x29_1 < (l0_2.length : Int)
                · rw [if_pos c17] at H
                  have c17b0 : decide (x29_1 < (l0_2.length : Int)) = true := decide_eq_true c17
                  clear c17
                  by_cases c18 : 0 ≤ x29_1
                  · rw [if_pos c18] at H
                    have c18b0 : decide (0 ≤ x29_1) = true := decide_eq_true c18
                    clear c18
                    by_cases c19 : x29_1 < (l0_2.length : Int)
                    · rw [if_pos c19] at H
                      have c19b0 : decide (x29_1 < (l0_2.length : Int)) = true := decide_eq_true c19
                      clear c19
                      replace H := Option.bind_eq_some_iff.mp H
                      obtain ⟨⟨t147, t148, t149⟩, A200, H⟩ := H
                      replace H : ((strconv_Itoa.f t147).bind fun t150 => (if 3 + t150.size ≤ 9223372036854775807 then (if ((⟨#[97, 116, 32]⟩ : ByteArray) ++ t150).size + 1 ≤ 9223372036854775807 then ((strconv_Itoa.f t148).bind fun t151 => (if (((⟨#[97, 116, 32]⟩ : ByteArray) ++ t150) ++ (⟨#[32]⟩ : ByteArray)).size + t151.size ≤ 9223372036854775807 then (if ((((⟨#[97, 116, 32]⟩ : ByteArray) ++ t150) ++ (⟨#[32]⟩ : ByteArray)) ++ t151).size + 1 ≤ 9223372036854775807 then ((zonetext_offset.f ((rd_T50 l0_2 x29_1).f1)).bind fun t152 => (if (((((⟨#[97, 116, 32]⟩ : ByteArray) ++ t150) ++ (⟨#[32]⟩ : ByteArray)) ++ t151) ++ (⟨#[32]⟩ : ByteArray)).size + t152.size ≤ 9223372036854775807 then (if ((((((⟨#[97, 116, 32]⟩ : ByteArray) ++ t150) ++ (⟨#[32]⟩ : ByteArray)) ++ t151) ++ (⟨#[32]⟩ : ByteArray)) ++ t152).size + 1 ≤ 9223372036854775807 then (if (((((((⟨#[97, 116, 32]⟩ : ByteArray) ++ t150) ++ (⟨#[32]⟩ : ByteArray)) ++ t151) ++ (⟨#[32]⟩ : ByteArray)) ++ t152) ++ (⟨#[32]⟩ : ByteArray)).size + ((rd_T50 l0_2 x29_1).f2).size ≤ 9223372036854775807 then (if ((((((((⟨#[97, 116, 32]⟩ : ByteArray) ++ t150) ++ (⟨#[32]⟩ : ByteArray)) ++ t151) ++ (⟨#[32]⟩ : ByteArray)) ++ t152) ++ (⟨#[32]⟩ : ByteArray)) ++ ((rd_T50 l0_2 x29_1).f2)).size + 1 ≤ 9223372036854775807 then ((strings_Builder_WriteString.f x5_1 (((((((((⟨#[97, 116, 32]⟩ : ByteArray) ++ t150) ++ (⟨#[32]⟩ : ByteArray)) ++ t151) ++ (⟨#[32]⟩ : ByteArray)) ++ t152) ++ (⟨#[32]⟩ : ByteArray)) ++ ((rd_T50 l0_2 x29_1).f2)) ++ (⟨#[10]⟩ : ByteArray))).bind fun t153 => (zonetext_Print.l0 k1 t153 l0_2 (l0_2.length : Int) (wrap64 (x29_1 + 1)))) else (none)) else (none)) else (none)) else (none))) else (none)) else (none))) else (none)) else (none))) = some (r1, r2) := H
                      have A20 := Aside0.mk A200
                      clear A200
                      replace H := Option.bind_eq_some_iff.mp H
                      obtain ⟨t150, A210, H⟩ := H
                      replace H : (if 3 + t150.size ≤ 9223372036854775807 then (if ((⟨#[97, 116, 32]⟩ : ByteArray) ++ t150).size + 1 ≤ 9223372036854775807 then ((strconv_Itoa.f t148).bind fun t151 => (if (((⟨#[97, 116, 32]⟩ : ByteArray) ++ t150) ++ (⟨#[32]⟩ : ByteArray)).size + t151.size ≤ 9223372036854775807 then (if ((((⟨#[97, 116, 32]⟩ : ByteArray) ++ t150) ++ (⟨#[32]⟩ : ByteArray)) ++ t151).size + 1 ≤ 9223372036854775807 then ((zonetext_offset.f ((rd_T50 l0_2 x29_1).f1)).bind fun t152 => (if (((((⟨#[97, 116, 32]⟩ : ByteArray) ++ t150) ++ (⟨#[32]⟩ : ByteArray)) ++ t151) ++ (⟨#[32]⟩ : ByteArray)).size + t152.size ≤ 9223372036854775807 then (if ((((((⟨#[97, 116, 32]⟩ : ByteArray) ++ t150) ++ (⟨#[32]⟩ : ByteArray)) ++ t151) ++ (⟨#[32]⟩ : ByteArray)) ++ t152).size + 1 ≤ 9223372036854775807 then (if (((((((⟨#[97, 116, 32]⟩ : ByteArray) ++ t150) ++ (⟨#[32]⟩ : ByteArray)) ++ t151) ++ (⟨#[32]⟩ : ByteArray)) ++ t152) ++ (⟨#[32]⟩ : ByteArray)).size + ((rd_T50 l0_2 x29_1).f2).size ≤ 9223372036854775807 then (if ((((((((⟨#[97, 116, 32]⟩ : ByteArray) ++ t150) ++ (⟨#[32]⟩ : ByteArray)) ++ t151) ++ (⟨#[32]⟩ : ByteArray)) ++ t152) ++ (⟨#[32]⟩ : ByteArray)) ++ ((rd_T50 l0_2 x29_1).f2)).size + 1 ≤ 9223372036854775807 then ((strings_Builder_WriteString.f x5_1 (((((((((⟨#[97, 116, 32]⟩ : ByteArray) ++ t150) ++ (⟨#[32]⟩ : ByteArray)) ++ t151) ++ (⟨#[32]⟩ : ByteArray)) ++ t152) ++ (⟨#[32]⟩ : ByteArray)) ++ ((rd_T50 l0_2 x29_1).f2)) ++ (⟨#[10]⟩ : ByteArray))).bind fun t153 => (zonetext_Print.l0 k1 t153 l0_2 (l0_2.length : Int) (wrap64 (x29_1 + 1)))) else (none)) else (none)) else (none)) else (none))) else (none)) else (none))) else (none)) else (none)) = some (r1, r2) := H
                      have A21 := Aside0.mk A210
                      clear A210
                      by_cases c22 : 3 + t150.size ≤ 9223372036854775807
                      · rw [if_pos c22] at H
                        have c22b0 := eq_true c22
                        have c22b1 : decide (3 + t150.size ≤ 9223372036854775807) = true := decide_eq_true c22
                        try have c22b2 : (9223372036854775807 < 3 + t150.size) = False := eq_false (Nat.not_lt.2 c22)
                        by_cases c23 : ((⟨#[97, 116, 32]⟩ : ByteArray) ++ t150).size + 1 ≤ 9223372036854775807
                        · rw [if_pos c23] at H
                          have c23b0 := eq_true c23
                          have c23b1 : decide (((⟨#[97, 116, 32]⟩ : ByteArray) ++ t150).size + 1 ≤ 9223372036854775807) = true := decide_eq_true c23
                          try have c23b2 : (9223372036854775807 < ((⟨#[97, 116, 32]⟩ : ByteArray) ++ t150).size + 1) = False := eq_false (Nat.not_lt.2 c23)
                          have c23b3 : (9223372036854775807 < 3 + t150.size + 1) = False := eq_false (by have h_ := c23; have s0_ : (⟨#[97, 116, 32]⟩ : ByteArray).size = 3 := rfl; simp only [ByteArray.size_append, s0_] at h_; omega)
                          replace H := Option.bind_eq_some_iff.mp H
                          obtain ⟨t151, A240, H⟩ := H
                          replace H : (if (((⟨#[97, 116, 32]⟩ : ByteArray) ++ t150) ++ (⟨#[32]⟩ : ByteArray)).size + t151.size ≤ 9223372036854775807 then (if ((((⟨#[97, 116, 32]⟩ : ByteArray) ++ t150) ++ (⟨#[32]⟩ : ByteArray)) ++ t151).size + 1 ≤ 9223372036854775807 then ((zonetext_offset.f ((rd_T50 l0_2 x29_1).f1)).bind fun t152 => (if (((((⟨#[97, 116, 32]⟩ : ByteArray) ++ t150) ++ (⟨#[32]⟩ : ByteArray)) ++ t151) ++ (⟨#[32]⟩ : ByteArray)).size + t152.size ≤ 9223372036854775807 then (if ((((((⟨#[97, 116, 32]⟩ : ByteArray) ++ t150) ++ (⟨#[32]⟩ : ByteArray)) ++ t151) ++ (⟨#[32]⟩ : ByteArray)) ++ t152).size + 1 ≤ 9223372036854775807 then (if (((((((⟨#[97, 116, 32]⟩ : ByteArray) ++ t150) ++ (⟨#[32]⟩ : ByteArray)) ++ t151) ++ (⟨#[32]⟩ : ByteArray)) ++ t152) ++ (⟨#[32]⟩ : ByteArray)).size + ((rd_T50 l0_2 x29_1).f2).size ≤ 9223372036854775807 then (if ((((((((⟨#[97, 116, 32]⟩ : ByteArray) ++ t150) ++ (⟨#[32]⟩ : ByteArray)) ++ t151) ++ (⟨#[32]⟩ : ByteArray)) ++ t152) ++ (⟨#[32]⟩ : ByteArray)) ++ ((rd_T50 l0_2 x29_1).f2)).size + 1 ≤ 9223372036854775807 then ((strings_Builder_WriteString.f x5_1 (((((((((⟨#[97, 116, 32]⟩ : ByteArray) ++ t150) ++ (⟨#[32]⟩ : ByteArray)) ++ t151) ++ (⟨#[32]⟩ : ByteArray)) ++ t152) ++ (⟨#[32]⟩ : ByteArray)) ++ ((rd_T50 l0_2 x29_1).f2)) ++ (⟨#[10]⟩ : ByteArray))).bind fun t153 => (zonetext_Print.l0 k1 t153 l0_2 (l0_2.length : Int) (wrap64 (x29_1 + 1)))) else (none)) else (none)) else (none)) else (none))) else (none)) else (none)) = some (r1, r2) := H
                          have A24 := Aside0.mk A240
                          clear A240
                          by_cases c25 : (((⟨#[97, 116, 32]⟩ : ByteArray) ++ t150) ++ (⟨#[32]⟩ : ByteArray)).size + t151.size ≤ 9223372036854775807
                          · rw [if_pos c25] at H
                            have c25b0 := eq_true c25
                            have c25b1 : decide ((((⟨#[97, 116, 32]⟩ : ByteArray) ++ t150) ++ (⟨#[32]⟩ : ByteArray)).size + t151.size ≤ 9223372036854775807) = true := decide_eq_true c25
                            try have c25b2 : (9223372036854775807 < (((⟨#[97, 116, 32]⟩ : ByteArray) ++ t150) ++ (⟨#[32]⟩ : ByteArray)).size + t151.size) = False := eq_false (Nat.not_lt.2 c25)
                            have c25b3 : (9223372036854775807 < 3 + t150.size + 1 + t151.size) = False := eq_false (by have h_ := c25; have s0_ : (⟨#[97, 116, 32]⟩ : ByteArray).size = 3 := rfl; have s1_ : (⟨#[32]⟩ : ByteArray).size = 1 := rfl; simp only [ByteArray.size_append, s0_, s1_] at h_; omega)
                            by_cases c26 : ((((⟨#[97, 116, 32]⟩ : ByteArray) ++ t150) ++ (⟨#[32]⟩ : ByteArray)) ++ t151).size + 1 ≤ 9223372036854775807
                            · rw [if_pos c26] at H
                              have c26b0 := eq_true c26
                              have c26b1 : decide (((((⟨#[97, 116, 32]⟩ : ByteArray) ++ t150) ++ (⟨#[32]⟩ : ByteArray)) ++ t151).size + 1 ≤ 9223372036854775807) = true := decide_eq_true c26
                              try have c26b2 : (9223372036854775807 < ((((⟨#[97, 116, 32]⟩ : ByteArray) ++ t150) ++ (⟨#[32]⟩ : ByteArray)) ++ t151).size + 1) = False := eq_false (Nat.not_lt.2 c26)
                              have c26b3 : (9223372036854775807 < 3 + t150.size + 1 + t151.size + 1) = False := eq_false (by have h_ := c26; have s0_ : (⟨#[97, 116, 32]⟩ : ByteArray).size = 3 := rfl; have s1_ : (⟨#[32]⟩ : ByteArray).size = 1 := rfl; simp only [ByteArray.size_append, s0_, s1_] at h_; omega)
                              replace H := Option.bind_eq_some_iff.mp H
                              obtain ⟨t152, A270, H⟩ := H
                              replace H : (if (((((⟨#[97, 116, 32]⟩ : ByteArray) ++ t150) ++ (⟨#[32]⟩ : ByteArray)) ++ t151) ++ (⟨#[32]⟩ : ByteArray)).size + t152.size ≤ 9223372036854775807 then (if ((((((⟨#[97, 116, 32]⟩ : ByteArray) ++ t150) ++ (⟨#[32]⟩ : ByteArray)) ++ t151) ++ (⟨#[32]⟩ : ByteArray)) ++ t152).size + 1 ≤ 9223372036854775807 then (if (((((((⟨#[97, 116, 32]⟩ : ByteArray) ++ t150) ++ (⟨#[32]⟩ : ByteArray)) ++ t151) ++ (⟨#[32]⟩ : ByteArray)) ++ t152) ++ (⟨#[32]⟩ : ByteArray)).size + ((rd_T50 l0_2 x29_1).f2).size ≤ 9223372036854775807 then (if ((((((((⟨#[97, 116, 32]⟩ : ByteArray) ++ t150) ++ (⟨#[32]⟩ : ByteArray)) ++ t151) ++ (⟨#[32]⟩ : ByteArray)) ++ t152) ++ (⟨#[32]⟩ : ByteArray)) ++ ((rd_T50 l0_2 x29_1).f2)).size + 1 ≤ 9223372036854775807 then ((strings_Builder_WriteString.f x5_1 (((((((((⟨#[97, 116, 32]⟩ : ByteArray) ++ t150) ++ (⟨#[32]⟩ : ByteArray)) ++ t151) ++ (⟨#[32]⟩ : ByteArray)) ++ t152) ++ (⟨#[32]⟩ : ByteArray)) ++ ((rd_T50 l0_2 x29_1).f2)) ++ (⟨#[10]⟩ : ByteArray))).bind fun t153 => (zonetext_Print.l0 k1 t153 l0_2 (l0_2.length : Int) (wrap64 (x29_1 + 1)))) else (none)) else (none)) else (none)) else (none)) = some (r1, r2) := H
                              have A27 := Aside0.mk A270
                              clear A270
                              by_cases c28 : (((((⟨#[97, 116, 32]⟩ : ByteArray) ++ t150) ++ (⟨#[32]⟩ : ByteArray)) ++ t151) ++ (⟨#[32]⟩ : ByteArray)).size + t152.size ≤ 9223372036854775807
                              · rw [if_pos c28] at H
                                have c28b0 := eq_true c28
                                have c28b1 : decide ((((((⟨#[97, 116, 32]⟩ : ByteArray) ++ t150) ++ (⟨#[32]⟩ : ByteArray)) ++ t151) ++ (⟨#[32]⟩ : ByteArray)).size + t152.size ≤ 9223372036854775807) = true := decide_eq_true c28
                                try have c28b2 : (9223372036854775807 < (((((⟨#[97, 116, 32]⟩ : ByteArray) ++ t150) ++ (⟨#[32]⟩ : ByteArray)) ++ t151) ++ (⟨#[32]⟩ : ByteArray)).size + t152.size) = False := eq_false (Nat.not_lt.2 c28)
                                have c28b3 : (9223372036854775807 < 3 + t150.size + 1 + t151.size + 1 + t152.size) = False := eq_false (by have h_ := c28; have s0_ : (⟨#[97, 116, 32]⟩ : ByteArray).size = 3 := rfl; have s1_ : (⟨#[32]⟩ : ByteArray).size = 1 := rfl; simp only [ByteArray.size_append, s0_, s1_] at h_; omega)
                                by_cases c29 : ((((((⟨#[97, 116, 32]⟩ : ByteArray) ++ t150) ++ (⟨#[32]⟩ : ByteArray)) ++ t151) ++ (⟨#[32]⟩ : ByteArray)) ++ t152).size + 1 ≤ 9223372036854775807
                                · rw [if_pos c29] at H
                                  have c29b0 := eq_true c29
                                  have c29b1 : decide (((((((⟨#[97, 116, 32]⟩ : ByteArray) ++ t150) ++ (⟨#[32]⟩ : ByteArray)) ++ t151) ++ (⟨#[32]⟩ : ByteArray)) ++ t152).size + 1 ≤ 9223372036854775807) = true := decide_eq_true c29
                                  try have c29b2 : (9223372036854775807 < ((((((⟨#[97, 116, 32]⟩ : ByteArray) ++ t150) ++ (⟨#[32]⟩ : ByteArray)) ++ t151) ++ (⟨#[32]⟩ : ByteArray)) ++ t152).size + 1) = False := eq_false (Nat.not_lt.2 c29)
                                  have c29b3 : (9223372036854775807 < 3 + t150.size + 1 + t151.size + 1 + t152.size + 1) = False := eq_false (by have h_ := c29; have s0_ : (⟨#[97, 116, 32]⟩ : ByteArray).size = 3 := rfl; have s1_ : (⟨#[32]⟩ : ByteArray).size = 1 := rfl; simp only [ByteArray.size_append, s0_, s1_] at h_; omega)
                                  by_cases c30 : (((((((⟨#[97, 116, 32]⟩ : ByteArray) ++ t150) ++ (⟨#[32]⟩ : ByteArray)) ++ t151) ++ (⟨#[32]⟩ : ByteArray)) ++ t152) ++ (⟨#[32]⟩ : ByteArray)).size + ((rd_T50 l0_2 x29_1).f2).size ≤ 9223372036854775807
                                  · rw [if_pos c30] at H
                                    have c30b0 := eq_true c30
                                    have c30b1 : decide ((((((((⟨#[97, 116, 32]⟩ : ByteArray) ++ t150) ++ (⟨#[32]⟩ : ByteArray)) ++ t151) ++ (⟨#[32]⟩ : ByteArray)) ++ t152) ++ (⟨#[32]⟩ : ByteArray)).size + ((rd_T50 l0_2 x29_1).f2).size ≤ 9223372036854775807) = true := decide_eq_true c30
                                    try have c30b2 : (9223372036854775807 < (((((((⟨#[97, 116, 32]⟩ : ByteArray) ++ t150) ++ (⟨#[32]⟩ : ByteArray)) ++ t151) ++ (⟨#[32]⟩ : ByteArray)) ++ t152) ++ (⟨#[32]⟩ : ByteArray)).size + ((rd_T50 l0_2 x29_1).f2).size) = False := eq_false (Nat.not_lt.2 c30)
                                    have c30b3 : (9223372036854775807 < 3 + t150.size + 1 + t151.size + 1 + t152.size + 1 + ((rd_T50 l0_2 x29_1).f2).size) = False := eq_false (by have h_ := c30; have s0_ : (⟨#[97, 116, 32]⟩ : ByteArray).size = 3 := rfl; have s1_ : (⟨#[32]⟩ : ByteArray).size = 1 := rfl; simp only [ByteArray.size_append, s0_, s1_] at h_; omega)
                                    by_cases c31 : ((((((((⟨#[97, 116, 32]⟩ : ByteArray) ++ t150) ++ (⟨#[32]⟩ : ByteArray)) ++ t151) ++ (⟨#[32]⟩ : ByteArray)) ++ t152) ++ (⟨#[32]⟩ : ByteArray)) ++ ((rd_T50 l0_2 x29_1).f2)).size + 1 ≤ 9223372036854775807
                                    · rw [if_pos c31] at H
                                      have c31b0 := eq_true c31
                                      have c31b1 : decide (((((((((⟨#[97, 116, 32]⟩ : ByteArray) ++ t150) ++ (⟨#[32]⟩ : ByteArray)) ++ t151) ++ (⟨#[32]⟩ : ByteArray)) ++ t152) ++ (⟨#[32]⟩ : ByteArray)) ++ ((rd_T50 l0_2 x29_1).f2)).size + 1 ≤ 9223372036854775807) = true := decide_eq_true c31
                                      try have c31b2 : (9223372036854775807 < ((((((((⟨#[97, 116, 32]⟩ : ByteArray) ++ t150) ++ (⟨#[32]⟩ : ByteArray)) ++ t151) ++ (⟨#[32]⟩ : ByteArray)) ++ t152) ++ (⟨#[32]⟩ : ByteArray)) ++ ((rd_T50 l0_2 x29_1).f2)).size + 1) = False := eq_false (Nat.not_lt.2 c31)
                                      have c31b3 : (9223372036854775807 < 3 + t150.size + 1 + t151.size + 1 + t152.size + 1 + ((rd_T50 l0_2 x29_1).f2).size + 1) = False := eq_false (by have h_ := c31; have s0_ : (⟨#[97, 116, 32]⟩ : ByteArray).size = 3 := rfl; have s1_ : (⟨#[32]⟩ : ByteArray).size = 1 := rfl; simp only [ByteArray.size_append, s0_, s1_] at h_; omega)
                                      replace H := Option.bind_eq_some_iff.mp H
                                      obtain ⟨t153, A320, H⟩ := H
                                      replace H : (zonetext_Print.l0 k1 t153 l0_2 (l0_2.length : Int) (wrap64 (x29_1 + 1))) = some (r1, r2) := H
                                      have A32 := Aside0.mk A320
                                      clear A320
                                      have H' := Aside0.mk H
                                      clear H
                                      have p145 : 0 ≤ (x29_1 : Int) := of_decide_eq_true (by first | (with_reducible assumption) | assumption)
                                      have q145 : x29_1 < (l0_2.length : Int) := of_decide_eq_true (by first | (with_reducible assumption) | assumption)
                                      obtain ⟨ad145, e145, hx145_0, hx145_1, hx145_2⟩ := at_T50 HR0_2.out x29_1 p145 q145
                                      cases e145
                                      replace hx145_0 := (HB.out.cell (World.block_lt_of_cell? w _ hx145_0)).trans hx145_0
                                      replace hx145_1 := (HB.out.cell (World.block_lt_of_cell? w _ hx145_1)).trans hx145_1
                                      replace hx145_2 := (HB.out.cell (World.block_lt_of_cell? w _ hx145_2)).trans hx145_2
                                      replace p145 := eq_true p145
                                      replace q145 := eq_true q145
                                      try go_wp2_with (first | ((with_reducible refine gate_dst (N := 7) rfl ?_); refine box_event ?hg (N := 7) ?hd (cs := #[.int .i64 0, .int .i64 0, .string (⟨#[]⟩ : ByteArray)]) (t := 50) ?hr ?_; (case hd => rfl); (case hg => rfl); (case hr => first | (go_simp; done) | (go_simp; rfl)); intro gb146 hg w33 hbox hb; have n0_ := Aside0.mk (blk_below (g := gb140) (o := .cells #[.string a0_0, .int .i64 a0_1, .slice (some ad145) l0_2.length c0_2] 24 (0, 0)) (by (with_reducible repeat (first | refine blk_drewN ?_ _ | refine blk_drew ?_ | refine blk_alloc ?_ _)); exact BK140.out) hb); have n1_ := Aside0.mk (below_step (by repeat (first | (with_reducible first | exact HB.out | apply below_alloc | apply pw_below_drewN | apply below_drew1 | refine below_set ?_ GE140.out) | exact HB.out)) hb); have nI_ := Aside0.mk (strings_Builder_WriteString.Is.below (by (with_reducible repeat (first | apply strings_Builder_WriteString.Is.alloc | apply strings_Builder_WriteString.Is.drewN | apply strings_Builder_WriteString.Is.drew)); exact HI.out) hb); have n2_ := Aside0.mk (hbox); have n3_ := Aside0.mk ((by rw [hg]; exact (below_size (by repeat (first | (with_reducible first | exact HB.out | apply below_alloc | apply pw_below_drewN | apply below_drew1 | refine below_set ?_ GE140.out) | exact HB.out))) : w.heap.size ≤ gb146)); have n4_ := Aside0.mk ((by rw [hg]; exact (below_size (by repeat (first | (with_reducible first | exact HB.out | apply below_alloc | apply pw_below_drewN | apply below_drew1 | refine below_set ?_ GE140.out) | exact HB.out))) : w.heap.size ≤ gb146)); have NBB := Aside0.mk ((by rw [hg]; exact Nat.ne_of_lt (strings_Builder_WriteString.Is.lt (by (with_reducible repeat (first | apply strings_Builder_WriteString.Is.alloc | apply strings_Builder_WriteString.Is.drewN | apply strings_Builder_WriteString.Is.drew)); exact HI.out))) : gbB ≠ gb146); have n5_ := Aside0.mk ((by rw [hg]; exact Nat.ne_of_lt (blk_lt (g := gb140) (o := .cells #[.string a0_0, .int .i64 a0_1, .slice (some ad145) l0_2.length c0_2] 24 (0, 0)) (by (with_reducible repeat (first | refine blk_drewN ?_ _ | refine blk_drew ?_ | refine blk_alloc ?_ _)); exact BK140.out)) : gb140 ≠ gb146)); have n6_ := Aside0.mk ((by rw [hg]; exact Nat.ne_of_gt (blk_lt (g := gb140) (o := .cells #[.string a0_0, .int .i64 a0_1, .slice (some ad145) l0_2.length c0_2] 24 (0, 0)) (by (with_reducible repeat (first | refine blk_drewN ?_ _ | refine blk_drew ?_ | refine blk_alloc ?_ _)); exact BK140.out)) : gb146 ≠ gb140)); clear BK140; clear HB; clear HI; have BK140 := n0_; have HB := n1_; have HI := nI_; clear nI_; have BK146 := n2_; have GW146 := n3_; have GE146 := n4_; have NB140_146 := n5_; have NB146_140 := n6_; clear n0_ n1_ n2_ n3_ n4_ n5_ n6_; clear hb hbox hg; have hnb34 := NB146_140.out; have hnc34 := NB140_146.out; have hcz35_0 : w33.cell? ⟨gb146, 0, none⟩ = some (.int .i64 0) := (blk_cell BK146.out 0).trans rfl; have hcz35_1 : w33.cell? ⟨gb146, 1, none⟩ = some (.int .i64 0) := (blk_cell BK146.out 1).trans rfl; have hcz35_2 : w33.cell? ⟨gb146, 2, none⟩ = some (.string (⟨#[]⟩ : ByteArray)) := (blk_cell BK146.out 2).trans rfl; have hfz35_0 := blk_frozen BK146.out 0; have hfz35_1 := blk_frozen BK146.out 1; have hfz35_2 := blk_frozen BK146.out 2) | ((with_reducible refine gate_callee (f := 17) rfl ?_); refine goesL_ (some 36) rfl rfl Tryd.func17 (by kernel_rfl) rfl #[.int .i64 ((rd_T50 l0_2 x29_1).f0)] rfl (by (try simp only [List.map_toArray, List.map_cons, List.map_nil]); first | done | rfl | (simp only [List.length_drop, List.length_take]; rfl)) ?_; (with_reducible refine (line_Split.calls k1 ((rd_T50 l0_2 x29_1).f0) t147 t148 t149 _ A20.out).mono ?_); rintro e w' ⟨rfl, ⟨nd, rfl⟩⟩; refine ⟨_, rfl, ?_⟩))
                                      have n0_ : Aside0 ((((w33.setCell ⟨gb146, 0, none⟩ (.int .i64 ((rd_T50 l0_2 x29_1).f0))).setCell ⟨gb146, 1, none⟩ (.int .i64 ((rd_T50 l0_2 x29_1).f1))).setCell ⟨gb146, 2, none⟩ (.string ((rd_T50 l0_2 x29_1).f2))).heap[gb140]? = some (.cells #[.string a0_0, .int .i64 a0_1, .slice (some ad145) l0_2.length c0_2] 24 (0, 0))) := ⟨by (with_reducible repeat (first | refine blk_drewN ?_ _ | refine blk_drew ?_ | refine blk_alloc ?_ _)); refine blk_far ?_ NB140_146.out _; (with_reducible repeat (first | refine blk_drewN ?_ _ | refine blk_drew ?_ | refine blk_alloc ?_ _)); refine blk_far ?_ NB140_146.out _; (with_reducible repeat (first | refine blk_drewN ?_ _ | refine blk_drew ?_ | refine blk_alloc ?_ _)); refine blk_far ?_ NB140_146.out _; (with_reducible repeat (first | refine blk_drewN ?_ _ | refine blk_drew ?_ | refine blk_alloc ?_ _)); exact BK140.out⟩
                                      have n1_ : Aside0 ((((w33.setCell ⟨gb146, 0, none⟩ (.int .i64 ((rd_T50 l0_2 x29_1).f0))).setCell ⟨gb146, 1, none⟩ (.int .i64 ((rd_T50 l0_2 x29_1).f1))).setCell ⟨gb146, 2, none⟩ (.string ((rd_T50 l0_2 x29_1).f2))).heap[gb146]? = some (.cells #[.int .i64 ((rd_T50 l0_2 x29_1).f0), .int .i64 ((rd_T50 l0_2 x29_1).f1), .string ((rd_T50 l0_2 x29_1).f2)] 50 (0, 0))) := ⟨by (with_reducible repeat (first | refine blk_drewN ?_ _ | refine blk_drew ?_ | refine blk_alloc ?_ _)); refine blk_put (cs := #[.int .i64 ((rd_T50 l0_2 x29_1).f0), .int .i64 ((rd_T50 l0_2 x29_1).f1), .string (⟨#[]⟩ : ByteArray)]) ?_ 2 _ rfl; (with_reducible repeat (first | refine blk_drewN ?_ _ | refine blk_drew ?_ | refine blk_alloc ?_ _)); refine blk_put (cs := #[.int .i64 ((rd_T50 l0_2 x29_1).f0), .int .i64 0, .string (⟨#[]⟩ : ByteArray)]) ?_ 1 _ rfl; (with_reducible repeat (first | refine blk_drewN ?_ _ | refine blk_drew ?_ | refine blk_alloc ?_ _)); refine blk_put (cs := #[.int .i64 0, .int .i64 0, .string (⟨#[]⟩ : ByteArray)]) ?_ 0 _ rfl; (with_reducible repeat (first | refine blk_drewN ?_ _ | refine blk_drew ?_ | refine blk_alloc ?_ _)); exact BK146.out⟩
                                      have n2_ : Aside0 (Below w.heap.size w (((w33.setCell ⟨gb146, 0, none⟩ (.int .i64 ((rd_T50 l0_2 x29_1).f0))).setCell ⟨gb146, 1, none⟩ (.int .i64 ((rd_T50 l0_2 x29_1).f1))).setCell ⟨gb146, 2, none⟩ (.string ((rd_T50 l0_2 x29_1).f2)))) := ⟨by repeat (first | (with_reducible first | exact HB.out | apply below_alloc | apply pw_below_drewN | apply below_drew1 | refine below_set ?_ GE140.out | refine below_set ?_ GE146.out) | exact HB.out)⟩
                                      have h0_ : strings_Builder_WriteString.Oth gb146 w33 := ⟨_, _, _, BK146.out, by decide⟩
                                      have nI_ : Aside0 (strings_Builder_WriteString.Is w.heap.size gbB x5_1 (((w33.setCell ⟨gb146, 0, none⟩ (.int .i64 ((rd_T50 l0_2 x29_1).f0))).setCell ⟨gb146, 1, none⟩ (.int .i64 ((rd_T50 l0_2 x29_1).f1))).setCell ⟨gb146, 2, none⟩ (.string ((rd_T50 l0_2 x29_1).f2)))) := ⟨(strings_Builder_WriteString.Is.set (strings_Builder_WriteString.Is.set (strings_Builder_WriteString.Is.set (by (with_reducible repeat (first | apply strings_Builder_WriteString.Is.alloc | apply strings_Builder_WriteString.Is.drewN | apply strings_Builder_WriteString.Is.drew)); exact HI.out) h0_ NBB.out) (strings_Builder_WriteString.Oth.set h0_) NBB.out) (strings_Builder_WriteString.Oth.set (strings_Builder_WriteString.Oth.set h0_)) NBB.out)⟩
                                      clear h0_
                                      (try clear BK140)
                                      (try clear BK146)
                                      (try clear HB)
                                      generalize (((w33.setCell ⟨gb146, 0, none⟩ (.int .i64 ((rd_T50 l0_2 x29_1).f0))).setCell ⟨gb146, 1, none⟩ (.int .i64 ((rd_T50 l0_2 x29_1).f1))).setCell ⟨gb146, 2, none⟩ (.string ((rd_T50 l0_2 x29_1).f2))) = w36 at n0_ n1_ n2_ nI_ ⊢
                                      have BK140 := n0_
                                      have BK146 := n1_
                                      have HB := n2_
                                      have HI := nI_
                                      clear nI_
                                      clear n0_ n1_ n2_
                                      (try (rw [drewN_self w36]; generalize hq_ : World.drewN w36 _ = w36; have n0_ : Aside0 (w36.heap[gb140]? = some (.cells #[.string a0_0, .int .i64 a0_1, .slice (some ad145) l0_2.length c0_2] 24 (0, 0))) := ⟨by rw [← hq_]; exact (by (with_reducible repeat (first | refine blk_drewN ?_ _ | refine blk_drew ?_ | refine blk_alloc ?_ _)); exact BK140.out)⟩; have n1_ : Aside0 (w36.heap[gb146]? = some (.cells #[.int .i64 ((rd_T50 l0_2 x29_1).f0), .int .i64 ((rd_T50 l0_2 x29_1).f1), .string ((rd_T50 l0_2 x29_1).f2)] 50 (0, 0))) := ⟨by rw [← hq_]; exact (by (with_reducible repeat (first | refine blk_drewN ?_ _ | refine blk_drew ?_ | refine blk_alloc ?_ _)); exact BK146.out)⟩; have n2_ : Aside0 (Below w.heap.size w w36) := ⟨by rw [← hq_]; exact (by repeat (first | (with_reducible first | exact HB.out | apply below_alloc | apply pw_below_drewN | apply below_drew1 | refine below_set ?_ GE140.out | refine below_set ?_ GE146.out) | exact HB.out))⟩; have nI_ : Aside0 (strings_Builder_WriteString.Is w.heap.size gbB x5_1 w36) := ⟨by rw [← hq_]; exact (by (with_reducible repeat (first | apply strings_Builder_WriteString.Is.alloc | apply strings_Builder_WriteString.Is.drewN | apply strings_Builder_WriteString.Is.drew)); exact HI.out)⟩; clear BK140 BK146 HB HI hq_; have HI := nI_; clear nI_; have BK140 := n0_; have BK146 := n1_; have HB := n2_; clear n0_ n1_ n2_))
                                      have n0_ := Aside0.mk (blk_drew BK140.out)
                                      have n1_ := Aside0.mk (blk_drew BK146.out)
                                      have n2_ := Aside0.mk (below_drew1 HB.out)
                                      have nI_ := Aside0.mk (strings_Builder_WriteString.Is.drew HI.out)
                                      clear BK140
                                      clear BK146
                                      clear HB
                                      clear HI
                                      have BK140 := n0_
                                      have BK146 := n1_
                                      have HB := n2_
                                      have HI := nI_
                                      clear nI_
                                      clear n0_ n1_ n2_
                                      refine start_ (n := 18) (S := fun w' => w'.cell? ⟨gb146, 0, none⟩ = some (.int .i64 ((rd_T50 l0_2 x29_1).f0)) ∧ w'.cell? ⟨gb146, 1, none⟩ = some (.int .i64 ((rd_T50 l0_2 x29_1).f1)) ∧ w'.cell? ⟨gb146, 2, none⟩ = some (.string ((rd_T50 l0_2 x29_1).f2))) (ds := []) #[false, false, false, false, false, false, false, false, false, false, false, false, false, false, false, false, false, false] (by kernel_rfl) rfl rfl ⟨(blk_cell BK146.out 0).trans rfl, (blk_cell BK146.out 1).trans rfl, (blk_cell BK146.out 2).trans rfl⟩ (fun hHeld => ?_); refine with_tabW zonetext_Print.tab10 zonetext_Print.bits10 (fun HT_ HW_ => ?_)
                                      generalize w36.drew = w37 at BK140 BK146 HB HI hHeld ⊢
                                      refine pure_ (i := 0) (N := some 40) (v := ?_) (a' := ?_) #[true, false, false, false, false, false, false, false, false, false, false, false, false, false, false, false, false, false] rfl rfl (any_of HT_.out (by kernel_rfl)) (fun _ _ _ h => h) (Or.inl ⟨by rfl, ?_⟩) ?_ ?_
                                      rotate_left
                                      · intro w'
                                        go_simp
                                        with_reducible rfl
                                      rotate_left
                                      · simp only [Act.put, List.setIfInBounds_toArray, List.set_cons_zero, List.set_cons_succ, i64_w, i32_w]
                                        rfl
                                      refine pure_ (i := 4) (N := some 44) (v := ?_) (a' := ?_) #[true, false, false, false, true, false, false, false, false, false, false, false, false, false, false, false, false, false] rfl rfl (any_of HT_.out (by kernel_rfl)) (fun _ _ _ h => h) (Or.inl ⟨by rfl, ?_⟩) ?_ ?_
                                      rotate_left
                                      · intro w'
                                        go_simp
                                        with_reducible rfl
                                      rotate_left
                                      · simp only [Act.put, List.setIfInBounds_toArray, List.set_cons_zero, List.set_cons_succ, i64_w, i32_w]
                                        rfl
                                      refine pure_ (i := 8) (N := some 48) (v := ?_) (a' := ?_) #[true, false, false, false, true, false, false, false, true, false, false, false, false, false, false, false, false, false] rfl rfl (any_of HT_.out (by kernel_rfl)) (fun _ _ _ h => h) (Or.inl ⟨by rfl, ?_⟩) ?_ ?_
                                      rotate_left
                                      · intro w'
                                        go_simp
                                        with_reducible rfl
                                      rotate_left
                                      · simp only [Act.put, List.setIfInBounds_toArray, List.set_cons_zero, List.set_cons_succ, i64_w, i32_w]
                                        rfl
                                      refine pure_ (i := 13) (N := some 53) (v := ?_) (a' := ?_) #[true, false, false, false, true, false, false, false, true, false, false, false, false, true, false, false, false, false] rfl rfl (any_of HT_.out (by kernel_rfl)) (fun _ _ _ h => h) (Or.inl ⟨by rfl, ?_⟩) ?_ ?_
                                      rotate_left
                                      · intro w'
                                        go_simp
                                        with_reducible rfl
                                      rotate_left
                                      · simp only [Act.put, List.setIfInBounds_toArray, List.set_cons_zero, List.set_cons_succ, i64_w, i32_w]
                                        rfl
                                      refine take_ (i := 9) (N := some 49) (v := ?_) (a' := ?_) #[true, false, false, false, true, false, false, false, true, true, false, false, false, true, false, false, false, false] rfl rfl (take_ofW HT_.out HW_.out (by kernel_rfl)) (fun _ _ _ h => h) (Or.inl ⟨by rfl, ?_⟩) hHeld ?_ ?_
                                      rotate_left
                                      · rintro w' ⟨s0, s1, s2⟩
                                        go_simp
                                        with_reducible rfl
                                      rotate_left
                                      · simp only [Act.put, List.setIfInBounds_toArray, List.set_cons_zero, List.set_cons_succ, i64_w, i32_w]
                                        rfl
                                      refine take_ (i := 14) (N := some 54) (v := ?_) (a' := ?_) #[true, false, false, false, true, false, false, false, true, true, false, false, false, true, true, false, false, false] rfl rfl (take_ofW HT_.out HW_.out (by kernel_rfl)) (fun _ _ _ h => h) (Or.inl ⟨by rfl, ?_⟩) hHeld ?_ ?_
                                      rotate_left
                                      · rintro w' ⟨s0, s1, s2⟩
                                        go_simp
                                        with_reducible rfl
                                      rotate_left
                                      · simp only [Act.put, List.setIfInBounds_toArray, List.set_cons_zero, List.set_cons_succ, i64_w, i32_w]
                                        rfl
                                      refine one_ (i := 1) (N := some 41) #[true, true, false, false, true, false, false, false, true, true, false, false, false, true, true, false, false, false] rfl rfl (one_of HT_.out (by kernel_rfl)) (by decide) (fun K hK => ?_)
                                      refine goes_ Tryd.func18 (by kernel_rfl) rfl #[.int .i64 t147] (by rfl) rfl rfl (by (try simp only [List.map_toArray, List.map_cons, List.map_nil]); first | done | rfl | (simp only [List.length_drop, List.length_take]; rfl)) ?_
                                      with_reducible refine (strconv_Itoa.calls t147 t150 _ (hT.below (by repeat (first | (with_reducible first | exact HB.out | apply below_alloc | apply pw_below_drewN | apply below_drew1) | exact HB.out)) (Nat.le_refl _)) A21.out).mono ?_
                                      rintro e w38 ⟨rfl, hb⟩
                                      refine ⟨_, rfl, ?_⟩
                                      have n0_ := Aside0.mk (blk_below (g := gb140) (o := .cells #[.string a0_0, .int .i64 a0_1, .slice (some ad145) l0_2.length c0_2] 24 (0, 0)) (by (with_reducible repeat (first | refine blk_drewN ?_ _ | refine blk_drew ?_ | refine blk_alloc ?_ _)); exact BK140.out) hb)
                                      have n1_ := Aside0.mk (blk_below (g := gb146) (o := .cells #[.int .i64 ((rd_T50 l0_2 x29_1).f0), .int .i64 ((rd_T50 l0_2 x29_1).f1), .string ((rd_T50 l0_2 x29_1).f2)] 50 (0, 0)) (by (with_reducible repeat (first | refine blk_drewN ?_ _ | refine blk_drew ?_ | refine blk_alloc ?_ _)); exact BK146.out) hb)
                                      have n2_ := Aside0.mk (below_step (by repeat (first | (with_reducible first | exact HB.out | apply below_alloc | apply pw_below_drewN | apply below_drew1 | refine below_set ?_ GE140.out | refine below_set ?_ GE146.out) | exact HB.out)) hb)
                                      have nI_ := Aside0.mk (strings_Builder_WriteString.Is.below (by (with_reducible repeat (first | apply strings_Builder_WriteString.Is.alloc | apply strings_Builder_WriteString.Is.drewN | apply strings_Builder_WriteString.Is.drew)); exact HI.out) hb)
                                      clear BK140
                                      clear BK146
                                      clear HB
                                      clear HI
                                      have BK140 := n0_
                                      have BK146 := n1_
                                      have HB := n2_
                                      have HI := nI_
                                      clear nI_
                                      clear n0_ n1_ n2_
                                      (try clear hb)
                                      (try clear hb2)
                                      (try clear hk)
                                      (try clear hi)
                                      refine hK.out _ _ ⟨(blk_cell BK146.out 0).trans rfl, (blk_cell BK146.out 1).trans rfl, (blk_cell BK146.out 2).trans rfl⟩ (fun hHeld => ?_)
                                      clear hK K
                                      refine norm_ (a' := ?_) ?_ ?_
                                      rotate_left
                                      · show Act.put _ (some 41) _ = _
                                        simp only [Act.put, List.setIfInBounds_toArray, List.set_cons_zero, List.set_cons_succ, i64_w, i32_w]
                                        rfl
                                      refine pure_ (i := 2) (N := some 42) (v := ?_) (a' := ?_) #[true, true, true, false, true, false, false, false, true, true, false, false, false, true, true, false, false, false] rfl rfl (any_of HT_.out (by kernel_rfl)) (fun _ _ _ h => h) (Or.inl ⟨by rfl, ?_⟩) ?_ ?_
                                      rotate_left
                                      · intro w'
                                        go_simp
                                        with_reducible rfl
                                      rotate_left
                                      · simp only [Act.put, List.setIfInBounds_toArray, List.set_cons_zero, List.set_cons_succ, i64_w, i32_w]
                                        rfl
                                      refine pure_ (i := 3) (N := some 43) (v := ?_) (a' := ?_) #[true, true, true, true, true, false, false, false, true, true, false, false, false, true, true, false, false, false] rfl rfl (any_of HT_.out (by kernel_rfl)) (fun _ _ _ h => h) (Or.inl ⟨by rfl, ?_⟩) ?_ ?_
                                      rotate_left
                                      · intro w'
                                        go_simp
                                        with_reducible rfl
                                      rotate_left
                                      · simp only [Act.put, List.setIfInBounds_toArray, List.set_cons_zero, List.set_cons_succ, i64_w, i32_w]
                                        rfl
                                      refine one_ (i := 5) (N := some 45) #[true, true, true, true, true, true, false, false, true, true, false, false, false, true, true, false, false, false] rfl rfl (one_of HT_.out (by kernel_rfl)) (by decide) (fun K hK => ?_)
                                      refine goes_ Tryd.func18 (by kernel_rfl) rfl #[.int .i64 t148] (by rfl) rfl rfl (by (try simp only [List.map_toArray, List.map_cons, List.map_nil]); first | done | rfl | (simp only [List.length_drop, List.length_take]; rfl)) ?_
                                      with_reducible refine (strconv_Itoa.calls t148 t151 _ (hT.below (by repeat (first | (with_reducible first | exact HB.out | apply below_alloc | apply pw_below_drewN | apply below_drew1) | exact HB.out)) (Nat.le_refl _)) A24.out).mono ?_
                                      rintro e w39 ⟨rfl, hb⟩
                                      refine ⟨_, rfl, ?_⟩
                                      have n0_ := Aside0.mk (blk_below (g := gb140) (o := .cells #[.string a0_0, .int .i64 a0_1, .slice (some ad145) l0_2.length c0_2] 24 (0, 0)) (by (with_reducible repeat (first | refine blk_drewN ?_ _ | refine blk_drew ?_ | refine blk_alloc ?_ _)); exact BK140.out) hb)
                                      have n1_ := Aside0.mk (blk_below (g := gb146) (o := .cells #[.int .i64 ((rd_T50 l0_2 x29_1).f0), .int .i64 ((rd_T50 l0_2 x29_1).f1), .string ((rd_T50 l0_2 x29_1).f2)] 50 (0, 0)) (by (with_reducible repeat (first | refine blk_drewN ?_ _ | refine blk_drew ?_ | refine blk_alloc ?_ _)); exact BK146.out) hb)
                                      have n2_ := Aside0.mk (below_step (by repeat (first | (with_reducible first | exact HB.out | apply below_alloc | apply pw_below_drewN | apply below_drew1 | refine below_set ?_ GE140.out | refine below_set ?_ GE146.out) | exact HB.out)) hb)
                                      have nI_ := Aside0.mk (strings_Builder_WriteString.Is.below (by (with_reducible repeat (first | apply strings_Builder_WriteString.Is.alloc | apply strings_Builder_WriteString.Is.drewN | apply strings_Builder_WriteString.Is.drew)); exact HI.out) hb)
                                      clear BK140
                                      clear BK146
                                      clear HB
                                      clear HI
                                      have BK140 := n0_
                                      have BK146 := n1_
                                      have HB := n2_
                                      have HI := nI_
                                      clear nI_
                                      clear n0_ n1_ n2_
                                      (try clear hb)
                                      (try clear hb2)
                                      (try clear hk)
                                      (try clear hi)
                                      refine hK.out _ _ ⟨(blk_cell BK146.out 0).trans rfl, (blk_cell BK146.out 1).trans rfl, (blk_cell BK146.out 2).trans rfl⟩ (fun hHeld => ?_)
                                      clear hK K
                                      refine norm_ (a' := ?_) ?_ ?_
                                      rotate_left
                                      · show Act.put _ (some 45) _ = _
                                        simp only [Act.put, List.setIfInBounds_toArray, List.set_cons_zero, List.set_cons_succ, i64_w, i32_w]
                                        rfl
                                      refine pure_ (i := 6) (N := some 46) (v := ?_) (a' := ?_) #[true, true, true, true, true, true, true, false, true, true, false, false, false, true, true, false, false, false] rfl rfl (any_of HT_.out (by kernel_rfl)) (fun _ _ _ h => h) (Or.inl ⟨by rfl, ?_⟩) ?_ ?_
                                      rotate_left
                                      · intro w'
                                        go_simp
                                        with_reducible rfl
                                      rotate_left
                                      · simp only [Act.put, List.setIfInBounds_toArray, List.set_cons_zero, List.set_cons_succ, i64_w, i32_w]
                                        rfl
                                      refine pure_ (i := 7) (N := some 47) (v := ?_) (a' := ?_) #[true, true, true, true, true, true, true, true, true, true, false, false, false, true, true, false, false, false] rfl rfl (any_of HT_.out (by kernel_rfl)) (fun _ _ _ h => h) (Or.inl ⟨by rfl, ?_⟩) ?_ ?_
                                      rotate_left
                                      · intro w'
                                        go_simp
                                        with_reducible rfl
                                      rotate_left
                                      · simp only [Act.put, List.setIfInBounds_toArray, List.set_cons_zero, List.set_cons_succ, i64_w, i32_w]
                                        rfl
                                      refine one_ (i := 10) (N := some 50) #[true, true, true, true, true, true, true, true, true, true, true, false, false, true, true, false, false, false] rfl rfl (one_of HT_.out (by kernel_rfl)) (by decide) (fun K hK => ?_)
                                      refine goes_ Tryd.func16 (by kernel_rfl) rfl #[.int .i64 ((rd_T50 l0_2 x29_1).f1)] (by rfl) rfl rfl (by (try simp only [List.map_toArray, List.map_cons, List.map_nil]); first | done | rfl | (simp only [List.length_drop, List.length_take]; rfl)) ?_
                                      with_reducible refine (zonetext_offset.calls ((rd_T50 l0_2 x29_1).f1) t152 _ A27.out).mono ?_
                                      rintro e w40 ⟨rfl, hb⟩
                                      refine ⟨_, rfl, ?_⟩
                                      have n0_ := Aside0.mk (blk_below (g := gb140) (o := .cells #[.string a0_0, .int .i64 a0_1, .slice (some ad145) l0_2.length c0_2] 24 (0, 0)) (by (with_reducible repeat (first | refine blk_drewN ?_ _ | refine blk_drew ?_ | refine blk_alloc ?_ _)); exact BK140.out) hb)
                                      have n1_ := Aside0.mk (blk_below (g := gb146) (o := .cells #[.int .i64 ((rd_T50 l0_2 x29_1).f0), .int .i64 ((rd_T50 l0_2 x29_1).f1), .string ((rd_T50 l0_2 x29_1).f2)] 50 (0, 0)) (by (with_reducible repeat (first | refine blk_drewN ?_ _ | refine blk_drew ?_ | refine blk_alloc ?_ _)); exact BK146.out) hb)
                                      have n2_ := Aside0.mk (below_step (by repeat (first | (with_reducible first | exact HB.out | apply below_alloc | apply pw_below_drewN | apply below_drew1 | refine below_set ?_ GE140.out | refine below_set ?_ GE146.out) | exact HB.out)) hb)
                                      have nI_ := Aside0.mk (strings_Builder_WriteString.Is.below (by (with_reducible repeat (first | apply strings_Builder_WriteString.Is.alloc | apply strings_Builder_WriteString.Is.drewN | apply strings_Builder_WriteString.Is.drew)); exact HI.out) hb)
                                      clear BK140
                                      clear BK146
                                      clear HB
                                      clear HI
                                      have BK140 := n0_
                                      have BK146 := n1_
                                      have HB := n2_
                                      have HI := nI_
                                      clear nI_
                                      clear n0_ n1_ n2_
                                      (try clear hb)
                                      (try clear hb2)
                                      (try clear hk)
                                      (try clear hi)
                                      refine hK.out _ _ ⟨(blk_cell BK146.out 0).trans rfl, (blk_cell BK146.out 1).trans rfl, (blk_cell BK146.out 2).trans rfl⟩ (fun hHeld => ?_)
                                      clear hK K
                                      refine norm_ (a' := ?_) ?_ ?_
                                      rotate_left
                                      · show Act.put _ (some 50) _ = _
                                        simp only [Act.put, List.setIfInBounds_toArray, List.set_cons_zero, List.set_cons_succ, i64_w, i32_w]
                                        rfl
                                      refine pure_ (i := 11) (N := some 51) (v := ?_) (a' := ?_) #[true, true, true, true, true, true, true, true, true, true, true, true, false, true, true, false, false, false] rfl rfl (any_of HT_.out (by kernel_rfl)) (fun _ _ _ h => h) (Or.inl ⟨by rfl, ?_⟩) ?_ ?_
                                      rotate_left
                                      · intro w'
                                        go_simp
                                        with_reducible rfl
                                      rotate_left
                                      · simp only [Act.put, List.setIfInBounds_toArray, List.set_cons_zero, List.set_cons_succ, i64_w, i32_w]
                                        rfl
                                      refine pure_ (i := 12) (N := some 52) (v := ?_) (a' := ?_) #[true, true, true, true, true, true, true, true, true, true, true, true, true, true, true, false, false, false] rfl rfl (any_of HT_.out (by kernel_rfl)) (fun _ _ _ h => h) (Or.inl ⟨by rfl, ?_⟩) ?_ ?_
                                      rotate_left
                                      · intro w'
                                        go_simp
                                        with_reducible rfl
                                      rotate_left
                                      · simp only [Act.put, List.setIfInBounds_toArray, List.set_cons_zero, List.set_cons_succ, i64_w, i32_w]
                                        rfl
                                      refine pure_ (i := 15) (N := some 55) (v := ?_) (a' := ?_) #[true, true, true, true, true, true, true, true, true, true, true, true, true, true, true, true, false, false] rfl rfl (any_of HT_.out (by kernel_rfl)) (fun _ _ _ h => h) (Or.inl ⟨by rfl, ?_⟩) ?_ ?_
                                      rotate_left
                                      · intro w'
                                        go_simp
                                        with_reducible rfl
                                      rotate_left
                                      · simp only [Act.put, List.setIfInBounds_toArray, List.set_cons_zero, List.set_cons_succ, i64_w, i32_w]
                                        rfl
                                      refine pure_ (i := 16) (N := some 56) (v := ?_) (a' := ?_) #[true, true, true, true, true, true, true, true, true, true, true, true, true, true, true, true, true, false] rfl rfl (any_of HT_.out (by kernel_rfl)) (fun _ _ _ h => h) (Or.inl ⟨by rfl, ?_⟩) ?_ ?_
                                      rotate_left
                                      · intro w'
                                        go_simp
                                        with_reducible rfl
                                      rotate_left
                                      · simp only [Act.put, List.setIfInBounds_toArray, List.set_cons_zero, List.set_cons_succ, i64_w, i32_w]
                                        rfl
                                      refine one_ (i := 17) (N := some 57) #[true, true, true, true, true, true, true, true, true, true, true, true, true, true, true, true, true, true] rfl rfl (one_of HT_.out (by kernel_rfl)) (by decide) (fun K hK => ?_)
                                      refine goes_ Tryd.func15 (by kernel_rfl) rfl #[.pointer (some ⟨gbB, 0, none⟩), .string (((((((((⟨#[97, 116, 32]⟩ : ByteArray) ++ t150) ++ (⟨#[32]⟩ : ByteArray)) ++ t151) ++ (⟨#[32]⟩ : ByteArray)) ++ t152) ++ (⟨#[32]⟩ : ByteArray)) ++ ((rd_T50 l0_2 x29_1).f2)) ++ (⟨#[10]⟩ : ByteArray))] (by rfl) rfl rfl (by (try simp only [List.map_toArray, List.map_cons, List.map_nil]); first | done | rfl | (simp only [List.length_drop, List.length_take]; rfl)) ?_
                                      with_reducible refine (strings_Builder_WriteString.does w.heap.size gbB x5_1 (((((((((⟨#[97, 116, 32]⟩ : ByteArray) ++ t150) ++ (⟨#[32]⟩ : ByteArray)) ++ t151) ++ (⟨#[32]⟩ : ByteArray)) ++ t152) ++ (⟨#[32]⟩ : ByteArray)) ++ ((rd_T50 l0_2 x29_1).f2)) ++ (⟨#[10]⟩ : ByteArray)) t153 _ (by (with_reducible repeat (first | apply strings_Builder_WriteString.Is.alloc | apply strings_Builder_WriteString.Is.drewN | apply strings_Builder_WriteString.Is.drew)); exact HI.out) (below_size (by repeat (first | (with_reducible first | exact HB.out | apply below_alloc | apply pw_below_drewN | apply below_drew1 | refine below_set ?_ GE140.out | refine below_set ?_ GE146.out) | exact HB.out))) A32.out).mono ?_
                                      rintro e w41 ⟨⟨nB_, rfl⟩, hI, hb, hk⟩
                                      refine ⟨_, rfl, ?_⟩
                                      have n0_ := Aside0.mk (strings_Builder_WriteString.others hk (by (with_reducible repeat (first | refine blk_drewN ?_ _ | refine blk_drew ?_ | refine blk_alloc ?_ _)); exact BK140.out) NBX.out (by decide))
                                      have n1_ := Aside0.mk (strings_Builder_WriteString.others hk (by (with_reducible repeat (first | refine blk_drewN ?_ _ | refine blk_drew ?_ | refine blk_alloc ?_ _)); exact BK146.out) NBB.out (by decide))
                                      have n2_ := Aside0.mk (Below.trans (show Below w.heap.size w _ from (by repeat (first | (with_reducible first | exact HB.out | apply below_alloc | apply pw_below_drewN | apply below_drew1 | refine below_set ?_ GE140.out | refine below_set ?_ GE146.out) | exact HB.out))) hb)
                                      have nI_ := Aside0.mk hI
                                      clear BK140
                                      clear BK146
                                      clear HB
                                      clear HI
                                      have BK140 := n0_
                                      have BK146 := n1_
                                      have HB := n2_
                                      have HI := nI_
                                      clear nI_
                                      clear n0_ n1_ n2_
                                      (try clear hb)
                                      (try clear hb2)
                                      (try clear hk)
                                      (try clear hi)
                                      refine hK.out _ _ ⟨(blk_cell BK146.out 0).trans rfl, (blk_cell BK146.out 1).trans rfl, (blk_cell BK146.out 2).trans rfl⟩ (fun hHeld => ?_)
                                      clear hK K
                                      refine norm_ (a' := ?_) ?_ ?_
                                      rotate_left
                                      · show Act.put _ (some 57) _ = _
                                        simp only [Act.put, List.setIfInBounds_toArray, List.set_cons_zero, List.set_cons_succ, i64_w, i32_w]
                                        rfl
                                      refine done_ (done_of HT_.out (by kernel_rfl)) ?_
                                      try go_wp2
                                      go_roundg k1
                                      case measure => have := HK1.out; omega
                                      case rel => exact ⟨(t153), (wrap64 (x29_1 + 1)), (by first | rfl | (simp; done) | (simp [*]; done)), H', ⟨by have := HK1.out; omega⟩, ⟨by (with_reducible repeat (first | refine blk_drewN ?_ _ | refine blk_drew ?_ | refine blk_alloc ?_ _)); exact BK140.out⟩, ⟨by repeat (first | (with_reducible first | exact HB.out | apply below_alloc | apply pw_below_drewN | apply below_drew1 | refine below_set ?_ GE140.out | refine below_set ?_ GE146.out) | exact HB.out)⟩, ⟨(by (with_reducible repeat (first | apply strings_Builder_WriteString.Is.alloc | apply strings_Builder_WriteString.Is.drewN | apply strings_Builder_WriteString.Is.drew)); exact HI.out)⟩⟩
                                    · rw [if_neg c31] at H
                                      exact absurd H (by simp)
                                  · rw [if_neg c30] at H
                                    exact absurd H (by simp)
                                · rw [if_neg c29] at H
                                  exact absurd H (by simp)
                              · rw [if_neg c28] at H
                                exact absurd H (by simp)
                            · rw [if_neg c26] at H
                              exact absurd H (by simp)
                          · rw [if_neg c25] at H
                            exact absurd H (by simp)
                        · rw [if_neg c23] at H
                          exact absurd H (by simp)
                      · rw [if_neg c22] at H
                        exact absurd H (by simp)
                    · rw [if_neg c19] at H
                      exact absurd H (by simp)
                  · rw [if_neg c18] at H
                    exact absurd H (by simp)
                · rw [if_neg c17] at H
                  have c17b0 : decide (x29_1 < (l0_2.length : Int)) = false := decide_eq_false c17
                  clear c17
                  replace H := Option.bind_eq_some_iff.mp H
                  obtain ⟨t144, A420, H⟩ := H
                  replace H : (some (t144, 0)) = some (r1, r2) := H
                  have A42 := Aside0.mk A420
                  clear A420
                  simp only [Option.some.injEq, Prod.mk.injEq] at H
                  obtain ⟨rfl, rfl⟩ := H
                  go_wp2_with (first | ((with_reducible refine gate_callee (f := 19) rfl ?_); refine goesL_ (some 59) rfl rfl Tryd.func19 (by kernel_rfl) rfl #[.pointer (some ⟨gbB, 0, none⟩)] rfl (by (try simp only [List.map_toArray, List.map_cons, List.map_nil]); first | done | rfl | (simp only [List.length_drop, List.length_take]; rfl)) ?_; (with_reducible refine (strings_Builder_String.does w.heap.size gbB x5_1 t144 _ (by (with_reducible repeat (first | apply strings_Builder_WriteString.Is.alloc | apply strings_Builder_WriteString.Is.drewN | apply strings_Builder_WriteString.Is.drew)); exact HI.out) (below_size (by repeat (first | (with_reducible first | exact HB.out | apply below_alloc | apply pw_below_drewN | apply below_drew1 | refine below_set ?_ GE140.out) | exact HB.out))) A42.out).mono ?_); rintro e w43 ⟨rfl, hb, hk⟩; refine ⟨_, rfl, ?_⟩; have n0_ := Aside0.mk (strings_Builder_WriteString.others hk (by (with_reducible repeat (first | refine blk_drewN ?_ _ | refine blk_drew ?_ | refine blk_alloc ?_ _)); exact BK140.out) NBX.out (by decide)); have n1_ := Aside0.mk (Below.trans (show Below w.heap.size w _ from (by repeat (first | (with_reducible first | exact HB.out | apply below_alloc | apply pw_below_drewN | apply below_drew1 | refine below_set ?_ GE140.out) | exact HB.out))) hb); clear BK140; clear HB; have BK140 := n0_; have HB := n1_; clear n0_ n1_; (try clear hb); (try clear hb2); (try clear hk); (try clear hi)))
                  go_ret2
                  exact ⟨by first | rfl | (simp [errW_none, errW_some] <;> rfl) | (simp [*, errW_none, errW_some] <;> rfl), by repeat (first | (with_reducible first | exact HB.out | apply below_alloc | apply pw_below_drewN | apply below_drew1 | refine below_set ?_ GE140.out) | exact HB.out)⟩
          · rw [if_neg c8] at H
            exact absurd H (by simp)
        · rw [if_neg c7] at H
          exact absurd H (by simp)
      · rw [if_neg c5] at H
        exact absurd H (by simp)
    · rw [if_neg c4] at H
      exact absurd H (by simp)
  · rw [if_neg c3] at H
    have c3b0 : (t141 == 0) = false := beq_eq_false_iff_ne.mpr c3
    have c3b1 : (t141 != 0) = true := bne_iff_ne.mpr c3
    simp only [Option.some.injEq, Prod.mk.injEq] at H
    obtain ⟨rfl, rfl⟩ := H
    go_enter Tryd.func5, Tryd.ntmps5
    go_wp2_with (first | ((with_reducible refine gate_dst (N := 1) rfl ?_); refine box_event ?hg (N := 1) ?hd (cs := #[.string a0_0, .int .i64 a0_1, .slice A0_2 l0_2.length c0_2]) (t := 24) ?hr ?_; (case hd => rfl); (case hg => rfl); (case hr => first | (go_simp; done) | (go_simp; rfl)); intro gb140 hg w44 hbox hb; have n0_ := Aside0.mk (below_step (by repeat (first | (with_reducible first | exact HB.out | apply below_alloc | apply pw_below_drewN | apply below_drew1) | exact HB.out)) hb); have n1_ := Aside0.mk (hbox); have n2_ := Aside0.mk ((by rw [hg]; exact (below_size (by repeat (first | (with_reducible first | exact HB.out | apply below_alloc | apply pw_below_drewN | apply below_drew1) | exact HB.out))) : w.heap.size ≤ gb140)); have n3_ := Aside0.mk ((by rw [hg]; exact (below_size (by repeat (first | (with_reducible first | exact HB.out | apply below_alloc | apply pw_below_drewN | apply below_drew1) | exact HB.out))) : w.heap.size ≤ gb140)); clear HB; have HB := n0_; have BK140 := n1_; have GW140 := n2_; have GE140 := n3_; clear n0_ n1_ n2_ n3_; clear hb hbox hg; have hcz45_0 : w44.cell? ⟨gb140, 0, none⟩ = some (.string a0_0) := (blk_cell BK140.out 0).trans rfl; have hcz45_1 : w44.cell? ⟨gb140, 1, none⟩ = some (.int .i64 a0_1) := (blk_cell BK140.out 1).trans rfl; have hcz45_2 : w44.cell? ⟨gb140, 2, none⟩ = some (.slice A0_2 l0_2.length c0_2) := (blk_cell BK140.out 2).trans rfl; have hfz45_0 := blk_frozen BK140.out 0; have hfz45_1 := blk_frozen BK140.out 1; have hfz45_2 := blk_frozen BK140.out 2) | ((with_reducible refine gate_callee (f := 14) rfl ?_); refine goesL_ (some 12) rfl rfl Tryd.func14 (by kernel_rfl) rfl #[.agg #[.string a0_0, .int .i64 a0_1, .slice A0_2 l0_2.length c0_2]] rfl (by (try simp only [List.map_toArray, List.map_cons, List.map_nil]); first | done | rfl | (simp only [List.length_drop, List.length_take]; rfl)) ?_; (with_reducible refine (zone_Check.calls k a0_0 a0_1 _ _ l0_2 t141 _ ?side1 ?side2 A2.out).mono ?_); (case side1 => repeat (first | exact (Kd.C_below HR0_2.out HB.out) | (with_reducible refine Kd.C_alloc ?_ _) | (with_reducible refine Kd.C_drewN ?_ _) | (with_reducible refine Kd.C_drew ?_))); (case side2 => exact HC0_2.out); rintro e w46 ⟨rfl, hb⟩; refine ⟨_, rfl, ?_⟩; have n0_ := Aside0.mk (blk_below (g := gb140) (o := .cells #[.string a0_0, .int .i64 a0_1, .slice A0_2 l0_2.length c0_2] 24 (0, 0)) (by (with_reducible repeat (first | refine blk_drewN ?_ _ | refine blk_drew ?_ | refine blk_alloc ?_ _)); exact BK140.out) hb); have n1_ := Aside0.mk (below_step (by repeat (first | (with_reducible first | exact HB.out | apply below_alloc | apply pw_below_drewN | apply below_drew1 | refine below_set ?_ GE140.out) | exact HB.out)) hb); clear BK140; clear HB; have BK140 := n0_; have HB := n1_; clear n0_ n1_; (try clear hb); (try clear hb2); (try clear hk); (try clear hi)))
    go_ret2
    exact ⟨by first | rfl | (simp [errW_none, errW_some] <;> rfl) | (simp [*, errW_none, errW_some] <;> rfl), by repeat (first | (with_reducible first | exact HB.out | apply below_alloc | apply pw_below_drewN | apply below_drew1 | refine below_set ?_ GE140.out) | exact HB.out)⟩

/-! ### ephemerislaw1_base: function 6 -/
def ephemerislaw1_base.f  : Option (ByteArray × Int × (List (S50))) := some ((⟨#[98, 97, 115, 101]⟩ : ByteArray), 3600000, (([(⟨0, 7200000, (⟨#[83, 85, 77]⟩ : ByteArray)⟩ : S50)] : List (S50))))
set_option maxHeartbeats 8000000 in
set_option maxRecDepth 100000 in
theorem ephemerislaw1_base.calls  (r1 : ByteArray) (r2 : Int) (r3 : List (S50)) (w : World) (h : ephemerislaw1_base.f  = some (r1, r2, r3)) :
    Calls Tryd.prog 6 #[] w fun e w' => ∃ v2_ : Value, e = .returned (.agg #[.string r1, .int .i64 r2, v2_]) ∧ Kd.R k50 50 w' w.heap.size (fun _ => True) v2_ r3 ∧ Below w.heap.size w w' := by
  have hu24 := Tryd.underlying24
  have hu50 := Tryd.underlying50
  have HB := Aside0.mk (Below.refl w.heap.size w)
  have H : (some ((⟨#[98, 97, 115, 101]⟩ : ByteArray), 3600000, (([(⟨0, 7200000, (⟨#[83, 85, 77]⟩ : ByteArray)⟩ : S50)] : List (S50))))) = some (r1, r2, r3) := h
  clear h
  obtain ⟨y155, hy155⟩ : ∃ y_ : List (S50), y_ = (([(⟨0, 7200000, (⟨#[83, 85, 77]⟩ : ByteArray)⟩ : S50)] : List (S50))) := ⟨_, rfl⟩
  replace H : (some ((⟨#[98, 97, 115, 101]⟩ : ByteArray), 3600000, y155)) = some (r1, r2, r3) := by first | (rw [hy155]; with_reducible exact H) | (have H2_ := (Option.bind_some _ _).symm.trans H; rw [hy155]; with_reducible exact H2_) | (have H2_ := (Option.bind_some _ _).symm.trans H; with_reducible exact H2_) | with_reducible exact H | (rw [hy155]; exact H) | exact H
  have Ny155 := Aside0.mk hy155
  clear hy155
  simp only [Option.some.injEq, Prod.mk.injEq] at H
  obtain ⟨rfl, rfl, rfl⟩ := H
  go_enter Tryd.func6, Tryd.ntmps6
  go_wp2_with (first | ((with_reducible refine gate_dst (N := 0) rfl ?_); refine box_event ?hg (N := 0) ?hd (cs := #[.string (⟨#[]⟩ : ByteArray), .int .i64 0, .slice none 0 0]) (t := 24) ?hr ?_; (case hd => rfl); (case hg => rfl); (case hr => first | (go_simp; done) | (go_simp; rfl)); intro gb154 hg w1 hbox hb; have n0_ := Aside0.mk (below_step (by repeat (first | (with_reducible first | exact HB.out | apply below_alloc | apply pw_below_drewN | apply below_drew1) | exact HB.out)) hb); have n1_ := Aside0.mk (hbox); have n2_ := Aside0.mk ((by rw [hg]; exact (below_size (by repeat (first | (with_reducible first | exact HB.out | apply below_alloc | apply pw_below_drewN | apply below_drew1) | exact HB.out))) : w.heap.size ≤ gb154)); have n3_ := Aside0.mk ((by rw [hg]; exact (below_size (by repeat (first | (with_reducible first | exact HB.out | apply below_alloc | apply pw_below_drewN | apply below_drew1) | exact HB.out))) : w.heap.size ≤ gb154)); clear HB; have HB := n0_; have BK154 := n1_; have GW154 := n2_; have GE154 := n3_; clear n0_ n1_ n2_ n3_; clear hb hbox hg) | ((with_reducible refine gate_dst (N := 2) rfl ?_); refine Kd.R_lit k50 _ 50 ?hg (N := 2) ?hd (xs := ([(⟨0, 7200000, (⟨#[83, 85, 77]⟩ : ByteArray)⟩ : S50)] : List (S50))) (inner := [.int .i64 0, .int .i64 7200000, .string (⟨#[83, 85, 77]⟩ : ByteArray)]) (ok := fun _ => True) (okp := fun _ => True) ?hr ?hp (fun _ hk => hk) trivial (Below.refl _ _) (Nat.le_refl _) (by simp) ?_; (case hd => rfl); (case hg => rfl); (case hr => first | (go_simp; done) | (go_simp; rfl)); (case hp => exact (Reps.c3 (show Kd.M k50 _ _ _ (⟨0, 7200000, (⟨#[83, 85, 77]⟩ : ByteArray)⟩ : S50) [.int .i64 0, .int .i64 7200000, .string (⟨#[83, 85, 77]⟩ : ByteArray)] from (k50_mkM _ _ _ (⟨0, 7200000, (⟨#[83, 85, 77]⟩ : ByteArray)⟩ : S50) )) (Reps.none _ _))); intro v156 w2 ho3 hb hg_ hnew_; clear hg_ hnew_; (first | rw [← Ny155.out] at ho3 | (simp only [Int.reduceToNat] at ho3; rw [← Ny155.out] at ho3)); have n0_ := Aside0.mk (Kd.R_lower ho3 (below_size (by repeat (first | (with_reducible first | exact HB.out | apply below_alloc | apply pw_below_drewN | apply below_drew1 | refine below_set ?_ GE154.out) | exact HB.out)))); have n1_ := Aside0.mk (blk_below (g := gb154) (o := .cells #[.string (⟨#[]⟩ : ByteArray), .int .i64 0, .slice none 0 0] 24 (0, 0)) (by (with_reducible repeat (first | refine blk_drewN ?_ _ | refine blk_drew ?_ | refine blk_alloc ?_ _)); exact BK154.out) hb); have n2_ := Aside0.mk (below_step (by repeat (first | (with_reducible first | exact HB.out | apply below_alloc | apply pw_below_drewN | apply below_drew1 | refine below_set ?_ GE154.out) | exact HB.out)) hb); clear BK154; clear HB; have HO157 := n0_; have BK154 := n1_; have HB := n2_; clear n0_ n1_ n2_; clear hb ho3; obtain ⟨Ao4, co4, eo4⟩ := Kd.R_slice HO157.out; subst eo4; have hcz5_0 : w2.cell? ⟨gb154, 0, none⟩ = some (.string (⟨#[]⟩ : ByteArray)) := (blk_cell BK154.out 0).trans rfl; have hcz5_1 : w2.cell? ⟨gb154, 1, none⟩ = some (.int .i64 0) := (blk_cell BK154.out 1).trans rfl; have hcz5_2 : w2.cell? ⟨gb154, 2, none⟩ = some (.slice none 0 0) := (blk_cell BK154.out 2).trans rfl; have hfz5_0 := blk_frozen BK154.out 0; have hfz5_1 := blk_frozen BK154.out 1; have hfz5_2 := blk_frozen BK154.out 2))
  refine bodyPost_ret (results_cell_row rfl _ _ gb154 24 #[.string (⟨#[98, 97, 115, 101]⟩ : ByteArray), .int .i64 3600000, .slice Ao4 y155.length co4] (0, 0) _ rfl (by (with_reducible repeat (first | refine blk_drewN ?_ _ | refine blk_drew ?_ | refine blk_alloc ?_ _)); refine blk_put (cs := #[.string (⟨#[98, 97, 115, 101]⟩ : ByteArray), .int .i64 3600000, .slice none 0 0]) ?_ 2 _ rfl; (with_reducible repeat (first | refine blk_drewN ?_ _ | refine blk_drew ?_ | refine blk_alloc ?_ _)); refine blk_put (cs := #[.string (⟨#[98, 97, 115, 101]⟩ : ByteArray), .int .i64 0, .slice none 0 0]) ?_ 1 _ rfl; (with_reducible repeat (first | refine blk_drewN ?_ _ | refine blk_drew ?_ | refine blk_alloc ?_ _)); refine blk_put (cs := #[.string (⟨#[]⟩ : ByteArray), .int .i64 0, .slice none 0 0]) ?_ 0 _ rfl; (with_reducible repeat (first | refine blk_drewN ?_ _ | refine blk_drew ?_ | refine blk_alloc ?_ _)); exact BK154.out) Tryd.underlying24 rfl (by kernel_rfl)) rfl ?_
  exact ⟨_, by first | rfl | (simp [errW_none, errW_some] <;> rfl) | (simp [*, errW_none, errW_some] <;> rfl), by (with_reducible repeat (first | apply Kd.R_alloc | apply Kd.R_drewN | apply Kd.R_drew)); exact Kd.R_mono (Kd.R_far (p := ⟨gb154, 2, none⟩) (Kd.R_far (p := ⟨gb154, 1, none⟩) (Kd.R_far (p := ⟨gb154, 0, none⟩) (Kd.R_types HO157.out BK154.out (by decide)) (fun _ hk => hk.2) (.string (⟨#[98, 97, 115, 101]⟩ : ByteArray))) (fun _ hk => hk.2) (.int .i64 3600000)) (fun _ hk => hk.2) (.slice Ao4 y155.length co4)) (fun _ hk => trivial), by repeat (first | (with_reducible first | exact HB.out | apply below_alloc | apply pw_below_drewN | apply below_drew1 | refine below_set ?_ GE154.out) | exact HB.out)⟩

end Go.Proofs.YtmiieommlhbbdaaDoor.PZonetextPrints
