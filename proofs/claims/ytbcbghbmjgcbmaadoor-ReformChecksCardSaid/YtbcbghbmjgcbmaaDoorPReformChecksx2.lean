/- The walks of the functions of this part. The proof of catalog_Text (the builder), catalog_Text (in part) is written by hand; the other ones are as the kit's print tells them. -/
-- The walks of the law's functions, told by a program.
import Derived.Test.YtbcbghbmjgcbmaaDoorPReformChecksx0
import Derived.Test.YtbcbghbmjgcbmaaDoorPReformChecksx1
namespace Go.Proofs.YtbcbghbmjgcbmaaDoor.PReformChecks
open Go.RowKit Go.Proofs.YtbcbghbmjgcbmaaDoorW.PrintWords Go.Proofs.YtbcbghbmjgcbmaaDoorW.PrintLast Go.Proofs.YtbcbghbmjgcbmaaDoorW.PrintMore
attribute [local go_sem] max2_int min2_int max_two min_two max_three min_three max_four min_four   -- for this text's walks alone
set_option linter.unusedVariables false
set_option linter.unusedSimpArgs false

/-! ### catalog_Text: function 9 -/
mutual
def catalog_Text.l0 : Nat → ByteArray → List (S42) → Int → Int → Option (ByteArray × Int)
  | 0, _, _, _, _ => none
  | k + 1, x0, x9, x10, x11 => if x11 < x10 then (if 0 ≤ x11 then (if x11 < (x9.length : Int) then (if ((rd_T42 x9 x11).f0).toList = x0.toList then ((runtime_PanicNilError_RuntimeError.f (⟨#[]⟩ : ByteArray)).bind fun t129 => (if 9 + x0.size ≤ 9223372036854775807 then (if ((⟨#[99, 97, 108, 101, 110, 100, 97, 114, 32]⟩ : ByteArray) ++ x0).size + 7 ≤ 9223372036854775807 then ((strconv_Itoa.f ((rd_T42 x9 x11).f1)).bind fun t131 => (if (((⟨#[99, 97, 108, 101, 110, 100, 97, 114, 32]⟩ : ByteArray) ++ x0) ++ (⟨#[10, 101, 112, 111, 99, 104, 32]⟩ : ByteArray)).size + t131.size ≤ 9223372036854775807 then (if ((((⟨#[99, 97, 108, 101, 110, 100, 97, 114, 32]⟩ : ByteArray) ++ x0) ++ (⟨#[10, 101, 112, 111, 99, 104, 32]⟩ : ByteArray)) ++ t131).size + 7 ≤ 9223372036854775807 then ((strconv_Itoa.f ((rd_T42 x9 x11).f2)).bind fun t132 => (if (((((⟨#[99, 97, 108, 101, 110, 100, 97, 114, 32]⟩ : ByteArray) ++ x0) ++ (⟨#[10, 101, 112, 111, 99, 104, 32]⟩ : ByteArray)) ++ t131) ++ (⟨#[10, 99, 121, 99, 108, 101, 32]⟩ : ByteArray)).size + t132.size ≤ 9223372036854775807 then (if ((((((⟨#[99, 97, 108, 101, 110, 100, 97, 114, 32]⟩ : ByteArray) ++ x0) ++ (⟨#[10, 101, 112, 111, 99, 104, 32]⟩ : ByteArray)) ++ t131) ++ (⟨#[10, 99, 121, 99, 108, 101, 32]⟩ : ByteArray)) ++ t132).size + 6 ≤ 9223372036854775807 then (if (((((((⟨#[99, 97, 108, 101, 110, 100, 97, 114, 32]⟩ : ByteArray) ++ x0) ++ (⟨#[10, 101, 112, 111, 99, 104, 32]⟩ : ByteArray)) ++ t131) ++ (⟨#[10, 99, 121, 99, 108, 101, 32]⟩ : ByteArray)) ++ t132) ++ (⟨#[10, 108, 101, 97, 112, 32]⟩ : ByteArray)).size + ((rd_T42 x9 x11).f3).size ≤ 9223372036854775807 then (if ((((((((⟨#[99, 97, 108, 101, 110, 100, 97, 114, 32]⟩ : ByteArray) ++ x0) ++ (⟨#[10, 101, 112, 111, 99, 104, 32]⟩ : ByteArray)) ++ t131) ++ (⟨#[10, 99, 121, 99, 108, 101, 32]⟩ : ByteArray)) ++ t132) ++ (⟨#[10, 108, 101, 97, 112, 32]⟩ : ByteArray)) ++ ((rd_T42 x9 x11).f3)).size + 1 ≤ 9223372036854775807 then ((strings_Builder_WriteString.f t129 (((((((((⟨#[99, 97, 108, 101, 110, 100, 97, 114, 32]⟩ : ByteArray) ++ x0) ++ (⟨#[10, 101, 112, 111, 99, 104, 32]⟩ : ByteArray)) ++ t131) ++ (⟨#[10, 99, 121, 99, 108, 101, 32]⟩ : ByteArray)) ++ t132) ++ (⟨#[10, 108, 101, 97, 112, 32]⟩ : ByteArray)) ++ ((rd_T42 x9 x11).f3)) ++ (⟨#[10]⟩ : ByteArray))).bind fun bt133 => ((catalog_months.f).bind fun t136 => (if 0 ≤ ((((rd_T42 x9 x11).f4) - 65) % 256) then (if ((((rd_T42 x9 x11).f4) - 65) % 256) < (t136.length : Int) then ((strings_Fields.f (rdOf ByteArray.empty t136 ((((rd_T42 x9 x11).f4) - 65) % 256))).bind fun t140 => (catalog_Text.l1 k t140 0 bt133.2.2)) else (none)) else (none)))) else (none)) else (none)) else (none)) else (none))) else (none)) else (none))) else (none)) else (none))) else (catalog_Text.l0 k x0 x9 x10 (wrap64 (x11 + 1)))) else (none)) else (none)) else (some ((⟨#[]⟩ : ByteArray), 5))
def catalog_Text.l1 : Nat → List ByteArray → Int → ByteArray → Option (ByteArray × Int)
  | 0, _, _, _ => none
  | k + 1, x7, x8, x131000 => if (wrap64 (x8 + 1)) < (x7.length : Int) then (if 0 ≤ x8 then (if x8 < (x7.length : Int) then (if 6 + (rdOf ByteArray.empty x7 x8).size ≤ 9223372036854775807 then (if ((⟨#[109, 111, 110, 116, 104, 32]⟩ : ByteArray) ++ (rdOf ByteArray.empty x7 x8)).size + 1 ≤ 9223372036854775807 then (if 0 ≤ (wrap64 (x8 + 1)) then ((strings_ReplaceAll.f (rdOf ByteArray.empty x7 (wrap64 (x8 + 1))) (⟨#[47]⟩ : ByteArray) (⟨#[32]⟩ : ByteArray)).bind fun t145 => (if (((⟨#[109, 111, 110, 116, 104, 32]⟩ : ByteArray) ++ (rdOf ByteArray.empty x7 x8)) ++ (⟨#[32]⟩ : ByteArray)).size + t145.size ≤ 9223372036854775807 then (if ((((⟨#[109, 111, 110, 116, 104, 32]⟩ : ByteArray) ++ (rdOf ByteArray.empty x7 x8)) ++ (⟨#[32]⟩ : ByteArray)) ++ t145).size + 1 ≤ 9223372036854775807 then ((strings_Builder_WriteString.f x131000 (((((⟨#[109, 111, 110, 116, 104, 32]⟩ : ByteArray) ++ (rdOf ByteArray.empty x7 x8)) ++ (⟨#[32]⟩ : ByteArray)) ++ t145) ++ (⟨#[10]⟩ : ByteArray))).bind fun bt146 => (catalog_Text.l1 k x7 (wrap64 (x8 + 2)) bt146.2.2)) else (none)) else (none))) else (none)) else (none)) else (none)) else (none)) else (none)) else ((strings_Builder_String.f x131000).bind fun bt149 => (some (bt149.1, 0)))
end
def catalog_Text.f (k : Nat) (a0 : ByteArray) : Option (ByteArray × Int) := (catalog_table.f).bind fun t124 => (catalog_Text.l0 k a0 t124 (t124.length : Int) 0)
theorem catalog_Text.mono_l : ∀ k, (∀ y0 y1 y2 y3, LeO (catalog_Text.l0 k y0 y1 y2 y3) (catalog_Text.l0 (k + 1) y0 y1 y2 y3)) ∧ (∀ y0 y1 y2, LeO (catalog_Text.l1 k y0 y1 y2) (catalog_Text.l1 (k + 1) y0 y1 y2))
  | 0 => ⟨fun _ _ _ _ r h => by simp [catalog_Text.l0] at h, fun _ _ _ r h => by simp [catalog_Text.l1] at h⟩
  | k + 1 => by
    obtain ⟨ih0, ih1⟩ := catalog_Text.mono_l k
    refine ⟨?_, ?_⟩
    · intro y0 y1 y2 y3
      unfold catalog_Text.l0
      repeat' first
      | (with_reducible exact ih0 _ _ _ _)
      | (with_reducible exact ih1 _ _ _)
      | (with_reducible exact LeO.refl _)
      | (with_reducible exact LeO.none _)
      | (with_reducible refine LeO.ite ?_ ?_)
      | (with_reducible refine LeO.bind ?_ (fun _ => ?_))
      | exact ih0 _ _ _ _
      | exact ih1 _ _ _
      | exact LeO.none _
      | refine LeO.ite ?_ ?_
      | refine LeO.bind ?_ (fun _ => ?_)
    · intro y0 y1 y2
      unfold catalog_Text.l1
      repeat' first
      | (with_reducible exact ih0 _ _ _ _)
      | (with_reducible exact ih1 _ _ _)
      | (with_reducible exact LeO.refl _)
      | (with_reducible exact LeO.none _)
      | (with_reducible refine LeO.ite ?_ ?_)
      | (with_reducible refine LeO.bind ?_ (fun _ => ?_))
      | exact ih0 _ _ _ _
      | exact ih1 _ _ _
      | exact LeO.none _
      | refine LeO.ite ?_ ?_
      | refine LeO.bind ?_ (fun _ => ?_)
theorem catalog_Text.mono : ∀ a0 k, LeO (catalog_Text.f k a0) (catalog_Text.f (k + 1) a0) := by
  intro a0 k
  obtain ⟨ih0, ih1⟩ := catalog_Text.mono_l k
  unfold catalog_Text.f
  repeat' first
      | (with_reducible exact ih0 _ _ _ _)
      | (with_reducible exact ih1 _ _ _)
      | (with_reducible exact LeO.refl _)
      | (with_reducible exact LeO.none _)
      | (with_reducible refine LeO.ite ?_ ?_)
      | (with_reducible refine LeO.bind ?_ (fun _ => ?_))
      | exact ih0 _ _ _ _
      | exact ih1 _ _ _
      | exact LeO.none _
      | refine LeO.ite ?_ ?_
      | refine LeO.bind ?_ (fun _ => ?_)
def catalog_Text.T6 : Bool × List (List Nat × List Nat) := (true, [([], []), ([0], [0]), ([1], [1]), ([], []), ([3], [3]), ([4], [4]), ([2, 5], [2, 5]), ([6], [6]), ([], []), ([8], [8]), ([9, 5], [9]), ([7, 10], [7, 10]), ([11], [11]), ([], []), ([13], [13]), ([12, 14], [12, 14]), ([15], [15]), ([16, 10], [16])])
def catalog_Text.B6 : List Nat := [0, 1, 3, 0, 8, 24, 63, 127, 0, 256, 824, 2047, 4095, 0, 8192, 32767, 65535, 131071]
theorem catalog_Text.tab6 : rtab .any (opsOf Tryd.f9 6) = catalog_Text.T6 := by kernel_rfl
theorem catalog_Text.bits6 : waitsOk catalog_Text.T6.2 catalog_Text.B6 = true := by kernel_rfl
def catalog_Text.T7 : Bool × List (List Nat × List Nat) := (true, [([], []), ([], []), ([1], [1]), ([2], [2]), ([0, 3], [0, 3]), ([4], [4]), ([5, 0], [5]), ([6, 6, 0, 1, 2, 3, 4, 5, 6], [6])])
def catalog_Text.B7 : List Nat := [0, 0, 2, 6, 15, 31, 63, 127]
theorem catalog_Text.tab7 : rtab .any (opsOf Tryd.f9 7) = catalog_Text.T7 := by kernel_rfl
theorem catalog_Text.bits7 : waitsOk catalog_Text.T7.2 catalog_Text.B7 = true := by kernel_rfl
def catalog_Text.T11 : Bool × List (List Nat × List Nat) := (true, [([], []), ([], []), ([0, 1], [0, 1]), ([2], [2]), ([3], [3]), ([4], [4]), ([], []), ([], []), ([7], [7]), ([6, 8], [6, 8]), ([9], [9]), ([10], [10]), ([5, 11], [5, 11]), ([12], [12]), ([13, 11], [13])])
def catalog_Text.B11 : List Nat := [0, 0, 3, 7, 15, 31, 0, 0, 128, 448, 960, 1984, 4095, 8191, 16383]
theorem catalog_Text.tab11 : rtab .any (opsOf Tryd.f9 11) = catalog_Text.T11 := by kernel_rfl
theorem catalog_Text.bits11 : waitsOk catalog_Text.T11.2 catalog_Text.B11 = true := by kernel_rfl
set_option maxHeartbeats 8000000 in
set_option maxRecDepth 100000 in
theorem catalog_Text.calls (k : Nat) (a0 : ByteArray) (r1 : ByteArray) (r2 : Int) (w : World) (hT : strconv_Itoa.Tab w) (hF : strings_Fields.Tab w) (hM : strings_Split.Tab w) (h : catalog_Text.f k a0 = some (r1, r2)) :
    Calls Tryd.prog 9 #[.string a0] w fun e w' => e = .returned (.tuple #[.string r1, .int .i64 r2]) ∧ Below w.heap.size w w' := by
  have hu42 := Tryd.underlying42
  have HB := Aside0.mk (Below.refl w.heap.size w)
  have H : ((catalog_table.f).bind fun t124 => (catalog_Text.l0 k a0 t124 (t124.length : Int) 0)) = some (r1, r2) := h
  clear h
  replace H := Option.bind_eq_some_iff.mp H
  obtain ⟨t124, A20, H⟩ := H
  replace H : (catalog_Text.l0 k a0 t124 (t124.length : Int) 0) = some (r1, r2) := H
  have A2 := Aside0.mk A20
  clear A20
  have H' := Aside0.mk H
  clear H
  go_enter Tryd.func9, Tryd.ntmps9
  go_wp2_with (first | ((with_reducible refine gate_callee (f := 14) rfl ?_); refine goesL_ (some 9) rfl rfl Tryd.func14 (by kernel_rfl) rfl #[] rfl (by (try simp only [List.map_toArray, List.map_cons, List.map_nil]); first | done | rfl | (simp only [List.length_drop, List.length_take]; rfl)) ?_; (with_reducible refine (catalog_table.calls  t124 _ A2.out).mono ?_); rintro e w3 ⟨v125, rfl, ho0, hb⟩; refine ⟨_, rfl, ?_⟩; have n0_ := Aside0.mk (Kd.R_lower ho0 (below_size (by repeat (first | (with_reducible first | exact HB.out | apply below_alloc | apply pw_below_drewN | apply below_drew1) | exact HB.out)))); have n1_ := Aside0.mk (below_step (by repeat (first | (with_reducible first | exact HB.out | apply below_alloc | apply pw_below_drewN | apply below_drew1) | exact HB.out)) hb); clear HB; have HO126 := n0_; have HB := n1_; clear n0_ n1_; (try clear hb); (try clear hb2); (try clear hk); (try clear hi); (try clear ho0); obtain ⟨Ao4, co4, eo4⟩ := Kd.R_slice HO126.out; subst eo4))
  go_loopg [11] k (fun kq v11 w' => ∃ (x11_1 : Int), v11 = .int .i64 x11_1 ∧ Aside0 (catalog_Text.l0 kq a0 t124 (t124.length : Int) x11_1 = some (r1, r2)) ∧ Aside0 (kq ≤ k) ∧ Aside0 (Kd.R k42 42 w' w.heap.size (fun _ => True) (.slice Ao4 t124.length co4) t124) ∧ Aside0 (Below w.heap.size w w'))
  case atStart => exact ⟨(0), (by first | rfl | (simp; done) | (simp [*]; done)), H', ⟨Nat.le_refl _⟩, ⟨by (with_reducible repeat (first | apply Kd.R_alloc | apply Kd.R_drewN | apply Kd.R_drew)); exact HO126.out⟩, ⟨by repeat (first | (with_reducible first | exact HB.out | apply below_alloc | apply pw_below_drewN | apply below_drew1) | exact HB.out)⟩⟩
  case round =>
    clear H'
    try clear c1
    try clear p2
    obtain ⟨x11_1, rfl, HA, HK1, HO_9, HB⟩ := hrel
    cases gk with
    | zero => exact absurd HA.out (by simp [catalog_Text.l0])
    | succ k1 =>
      have H := HA.out
      clear HA
      simp only [catalog_Text.l0] at H
      by_cases c5 : x11_1 < (t124.length : Int)
      · rw [if_pos c5] at H
        have c5b0 : decide (x11_1 < (t124.length : Int)) = true := decide_eq_true c5
        clear c5
        by_cases c6 : 0 ≤ x11_1
        · rw [if_pos c6] at H
          have c6b0 : decide (0 ≤ x11_1) = true := decide_eq_true c6
          clear c6
          by_cases c7 : x11_1 < (t124.length : Int)
          · rw [if_pos c7] at H
            have c7b0 : decide (x11_1 < (t124.length : Int)) = true := decide_eq_true c7
            clear c7
            by_cases c8 : ((rd_T42 t124 x11_1).f0).toList = a0.toList
            · rw [if_pos c8] at H
              have c8b0 : (((rd_T42 t124 x11_1).f0).toList == a0.toList) = true := beq_iff_eq.mpr c8
              have c8b1 : (((rd_T42 t124 x11_1).f0).toList != a0.toList) = false := bne_eq_false_iff_eq.mpr c8
              clear c8
              replace H := Option.bind_eq_some_iff.mp H
              obtain ⟨t129, A90, H⟩ := H
              obtain rfl : (⟨#[]⟩ : ByteArray) = t129 := Option.some.inj A90
              replace H : (if 9 + a0.size ≤ 9223372036854775807 then (if ((⟨#[99, 97, 108, 101, 110, 100, 97, 114, 32]⟩ : ByteArray) ++ a0).size + 7 ≤ 9223372036854775807 then ((strconv_Itoa.f ((rd_T42 t124 x11_1).f1)).bind fun t131 => (if (((⟨#[99, 97, 108, 101, 110, 100, 97, 114, 32]⟩ : ByteArray) ++ a0) ++ (⟨#[10, 101, 112, 111, 99, 104, 32]⟩ : ByteArray)).size + t131.size ≤ 9223372036854775807 then (if ((((⟨#[99, 97, 108, 101, 110, 100, 97, 114, 32]⟩ : ByteArray) ++ a0) ++ (⟨#[10, 101, 112, 111, 99, 104, 32]⟩ : ByteArray)) ++ t131).size + 7 ≤ 9223372036854775807 then ((strconv_Itoa.f ((rd_T42 t124 x11_1).f2)).bind fun t132 => (if (((((⟨#[99, 97, 108, 101, 110, 100, 97, 114, 32]⟩ : ByteArray) ++ a0) ++ (⟨#[10, 101, 112, 111, 99, 104, 32]⟩ : ByteArray)) ++ t131) ++ (⟨#[10, 99, 121, 99, 108, 101, 32]⟩ : ByteArray)).size + t132.size ≤ 9223372036854775807 then (if ((((((⟨#[99, 97, 108, 101, 110, 100, 97, 114, 32]⟩ : ByteArray) ++ a0) ++ (⟨#[10, 101, 112, 111, 99, 104, 32]⟩ : ByteArray)) ++ t131) ++ (⟨#[10, 99, 121, 99, 108, 101, 32]⟩ : ByteArray)) ++ t132).size + 6 ≤ 9223372036854775807 then (if (((((((⟨#[99, 97, 108, 101, 110, 100, 97, 114, 32]⟩ : ByteArray) ++ a0) ++ (⟨#[10, 101, 112, 111, 99, 104, 32]⟩ : ByteArray)) ++ t131) ++ (⟨#[10, 99, 121, 99, 108, 101, 32]⟩ : ByteArray)) ++ t132) ++ (⟨#[10, 108, 101, 97, 112, 32]⟩ : ByteArray)).size + ((rd_T42 t124 x11_1).f3).size ≤ 9223372036854775807 then (if ((((((((⟨#[99, 97, 108, 101, 110, 100, 97, 114, 32]⟩ : ByteArray) ++ a0) ++ (⟨#[10, 101, 112, 111, 99, 104, 32]⟩ : ByteArray)) ++ t131) ++ (⟨#[10, 99, 121, 99, 108, 101, 32]⟩ : ByteArray)) ++ t132) ++ (⟨#[10, 108, 101, 97, 112, 32]⟩ : ByteArray)) ++ ((rd_T42 t124 x11_1).f3)).size + 1 ≤ 9223372036854775807 then ((strings_Builder_WriteString.f (⟨#[]⟩ : ByteArray) (((((((((⟨#[99, 97, 108, 101, 110, 100, 97, 114, 32]⟩ : ByteArray) ++ a0) ++ (⟨#[10, 101, 112, 111, 99, 104, 32]⟩ : ByteArray)) ++ t131) ++ (⟨#[10, 99, 121, 99, 108, 101, 32]⟩ : ByteArray)) ++ t132) ++ (⟨#[10, 108, 101, 97, 112, 32]⟩ : ByteArray)) ++ ((rd_T42 t124 x11_1).f3)) ++ (⟨#[10]⟩ : ByteArray))).bind fun bt133 => ((catalog_months.f).bind fun t136 => (if 0 ≤ ((((rd_T42 t124 x11_1).f4) - 65) % 256) then (if ((((rd_T42 t124 x11_1).f4) - 65) % 256) < (t136.length : Int) then ((strings_Fields.f (rdOf ByteArray.empty t136 ((((rd_T42 t124 x11_1).f4) - 65) % 256))).bind fun t140 => (catalog_Text.l1 k1 t140 0 bt133.2.2)) else (none)) else (none)))) else (none)) else (none)) else (none)) else (none))) else (none)) else (none))) else (none)) else (none)) = some (r1, r2) := H
              have A9 := Aside0.mk A90
              clear A90
              by_cases c10 : 9 + a0.size ≤ 9223372036854775807
              · rw [if_pos c10] at H
                have c10b0 := eq_true c10
                have c10b1 : decide (9 + a0.size ≤ 9223372036854775807) = true := decide_eq_true c10
                try have c10b2 : (9223372036854775807 < 9 + a0.size) = False := eq_false (Nat.not_lt.2 c10)
                by_cases c11 : ((⟨#[99, 97, 108, 101, 110, 100, 97, 114, 32]⟩ : ByteArray) ++ a0).size + 7 ≤ 9223372036854775807
                · rw [if_pos c11] at H
                  have c11b0 := eq_true c11
                  have c11b1 : decide (((⟨#[99, 97, 108, 101, 110, 100, 97, 114, 32]⟩ : ByteArray) ++ a0).size + 7 ≤ 9223372036854775807) = true := decide_eq_true c11
                  try have c11b2 : (9223372036854775807 < ((⟨#[99, 97, 108, 101, 110, 100, 97, 114, 32]⟩ : ByteArray) ++ a0).size + 7) = False := eq_false (Nat.not_lt.2 c11)
                  have c11b3 : (9223372036854775807 < 9 + a0.size + 7) = False := eq_false (by have h_ := c11; have s0_ : (⟨#[99, 97, 108, 101, 110, 100, 97, 114, 32]⟩ : ByteArray).size = 9 := rfl; simp only [ByteArray.size_append, s0_] at h_; omega)
                  replace H := Option.bind_eq_some_iff.mp H
                  obtain ⟨t131, A120, H⟩ := H
                  replace H : (if (((⟨#[99, 97, 108, 101, 110, 100, 97, 114, 32]⟩ : ByteArray) ++ a0) ++ (⟨#[10, 101, 112, 111, 99, 104, 32]⟩ : ByteArray)).size + t131.size ≤ 9223372036854775807 then (if ((((⟨#[99, 97, 108, 101, 110, 100, 97, 114, 32]⟩ : ByteArray) ++ a0) ++ (⟨#[10, 101, 112, 111, 99, 104, 32]⟩ : ByteArray)) ++ t131).size + 7 ≤ 9223372036854775807 then ((strconv_Itoa.f ((rd_T42 t124 x11_1).f2)).bind fun t132 => (if (((((⟨#[99, 97, 108, 101, 110, 100, 97, 114, 32]⟩ : ByteArray) ++ a0) ++ (⟨#[10, 101, 112, 111, 99, 104, 32]⟩ : ByteArray)) ++ t131) ++ (⟨#[10, 99, 121, 99, 108, 101, 32]⟩ : ByteArray)).size + t132.size ≤ 9223372036854775807 then (if ((((((⟨#[99, 97, 108, 101, 110, 100, 97, 114, 32]⟩ : ByteArray) ++ a0) ++ (⟨#[10, 101, 112, 111, 99, 104, 32]⟩ : ByteArray)) ++ t131) ++ (⟨#[10, 99, 121, 99, 108, 101, 32]⟩ : ByteArray)) ++ t132).size + 6 ≤ 9223372036854775807 then (if (((((((⟨#[99, 97, 108, 101, 110, 100, 97, 114, 32]⟩ : ByteArray) ++ a0) ++ (⟨#[10, 101, 112, 111, 99, 104, 32]⟩ : ByteArray)) ++ t131) ++ (⟨#[10, 99, 121, 99, 108, 101, 32]⟩ : ByteArray)) ++ t132) ++ (⟨#[10, 108, 101, 97, 112, 32]⟩ : ByteArray)).size + ((rd_T42 t124 x11_1).f3).size ≤ 9223372036854775807 then (if ((((((((⟨#[99, 97, 108, 101, 110, 100, 97, 114, 32]⟩ : ByteArray) ++ a0) ++ (⟨#[10, 101, 112, 111, 99, 104, 32]⟩ : ByteArray)) ++ t131) ++ (⟨#[10, 99, 121, 99, 108, 101, 32]⟩ : ByteArray)) ++ t132) ++ (⟨#[10, 108, 101, 97, 112, 32]⟩ : ByteArray)) ++ ((rd_T42 t124 x11_1).f3)).size + 1 ≤ 9223372036854775807 then ((strings_Builder_WriteString.f (⟨#[]⟩ : ByteArray) (((((((((⟨#[99, 97, 108, 101, 110, 100, 97, 114, 32]⟩ : ByteArray) ++ a0) ++ (⟨#[10, 101, 112, 111, 99, 104, 32]⟩ : ByteArray)) ++ t131) ++ (⟨#[10, 99, 121, 99, 108, 101, 32]⟩ : ByteArray)) ++ t132) ++ (⟨#[10, 108, 101, 97, 112, 32]⟩ : ByteArray)) ++ ((rd_T42 t124 x11_1).f3)) ++ (⟨#[10]⟩ : ByteArray))).bind fun bt133 => ((catalog_months.f).bind fun t136 => (if 0 ≤ ((((rd_T42 t124 x11_1).f4) - 65) % 256) then (if ((((rd_T42 t124 x11_1).f4) - 65) % 256) < (t136.length : Int) then ((strings_Fields.f (rdOf ByteArray.empty t136 ((((rd_T42 t124 x11_1).f4) - 65) % 256))).bind fun t140 => (catalog_Text.l1 k1 t140 0 bt133.2.2)) else (none)) else (none)))) else (none)) else (none)) else (none)) else (none))) else (none)) else (none)) = some (r1, r2) := H
                  have A12 := Aside0.mk A120
                  clear A120
                  by_cases c13 : (((⟨#[99, 97, 108, 101, 110, 100, 97, 114, 32]⟩ : ByteArray) ++ a0) ++ (⟨#[10, 101, 112, 111, 99, 104, 32]⟩ : ByteArray)).size + t131.size ≤ 9223372036854775807
                  · rw [if_pos c13] at H
                    have c13b0 := eq_true c13
                    have c13b1 : decide ((((⟨#[99, 97, 108, 101, 110, 100, 97, 114, 32]⟩ : ByteArray) ++ a0) ++ (⟨#[10, 101, 112, 111, 99, 104, 32]⟩ : ByteArray)).size + t131.size ≤ 9223372036854775807) = true := decide_eq_true c13
                    try have c13b2 : (9223372036854775807 < (((⟨#[99, 97, 108, 101, 110, 100, 97, 114, 32]⟩ : ByteArray) ++ a0) ++ (⟨#[10, 101, 112, 111, 99, 104, 32]⟩ : ByteArray)).size + t131.size) = False := eq_false (Nat.not_lt.2 c13)
                    have c13b3 : (9223372036854775807 < 9 + a0.size + 7 + t131.size) = False := eq_false (by have h_ := c13; have s0_ : (⟨#[99, 97, 108, 101, 110, 100, 97, 114, 32]⟩ : ByteArray).size = 9 := rfl; have s1_ : (⟨#[10, 101, 112, 111, 99, 104, 32]⟩ : ByteArray).size = 7 := rfl; simp only [ByteArray.size_append, s0_, s1_] at h_; omega)
                    by_cases c14 : ((((⟨#[99, 97, 108, 101, 110, 100, 97, 114, 32]⟩ : ByteArray) ++ a0) ++ (⟨#[10, 101, 112, 111, 99, 104, 32]⟩ : ByteArray)) ++ t131).size + 7 ≤ 9223372036854775807
                    · rw [if_pos c14] at H
                      have c14b0 := eq_true c14
                      have c14b1 : decide (((((⟨#[99, 97, 108, 101, 110, 100, 97, 114, 32]⟩ : ByteArray) ++ a0) ++ (⟨#[10, 101, 112, 111, 99, 104, 32]⟩ : ByteArray)) ++ t131).size + 7 ≤ 9223372036854775807) = true := decide_eq_true c14
                      try have c14b2 : (9223372036854775807 < ((((⟨#[99, 97, 108, 101, 110, 100, 97, 114, 32]⟩ : ByteArray) ++ a0) ++ (⟨#[10, 101, 112, 111, 99, 104, 32]⟩ : ByteArray)) ++ t131).size + 7) = False := eq_false (Nat.not_lt.2 c14)
                      have c14b3 : (9223372036854775807 < 9 + a0.size + 7 + t131.size + 7) = False := eq_false (by have h_ := c14; have s0_ : (⟨#[99, 97, 108, 101, 110, 100, 97, 114, 32]⟩ : ByteArray).size = 9 := rfl; have s1_ : (⟨#[10, 101, 112, 111, 99, 104, 32]⟩ : ByteArray).size = 7 := rfl; simp only [ByteArray.size_append, s0_, s1_] at h_; omega)
                      replace H := Option.bind_eq_some_iff.mp H
                      obtain ⟨t132, A150, H⟩ := H
                      replace H : (if (((((⟨#[99, 97, 108, 101, 110, 100, 97, 114, 32]⟩ : ByteArray) ++ a0) ++ (⟨#[10, 101, 112, 111, 99, 104, 32]⟩ : ByteArray)) ++ t131) ++ (⟨#[10, 99, 121, 99, 108, 101, 32]⟩ : ByteArray)).size + t132.size ≤ 9223372036854775807 then (if ((((((⟨#[99, 97, 108, 101, 110, 100, 97, 114, 32]⟩ : ByteArray) ++ a0) ++ (⟨#[10, 101, 112, 111, 99, 104, 32]⟩ : ByteArray)) ++ t131) ++ (⟨#[10, 99, 121, 99, 108, 101, 32]⟩ : ByteArray)) ++ t132).size + 6 ≤ 9223372036854775807 then (if (((((((⟨#[99, 97, 108, 101, 110, 100, 97, 114, 32]⟩ : ByteArray) ++ a0) ++ (⟨#[10, 101, 112, 111, 99, 104, 32]⟩ : ByteArray)) ++ t131) ++ (⟨#[10, 99, 121, 99, 108, 101, 32]⟩ : ByteArray)) ++ t132) ++ (⟨#[10, 108, 101, 97, 112, 32]⟩ : ByteArray)).size + ((rd_T42 t124 x11_1).f3).size ≤ 9223372036854775807 then (if ((((((((⟨#[99, 97, 108, 101, 110, 100, 97, 114, 32]⟩ : ByteArray) ++ a0) ++ (⟨#[10, 101, 112, 111, 99, 104, 32]⟩ : ByteArray)) ++ t131) ++ (⟨#[10, 99, 121, 99, 108, 101, 32]⟩ : ByteArray)) ++ t132) ++ (⟨#[10, 108, 101, 97, 112, 32]⟩ : ByteArray)) ++ ((rd_T42 t124 x11_1).f3)).size + 1 ≤ 9223372036854775807 then ((strings_Builder_WriteString.f (⟨#[]⟩ : ByteArray) (((((((((⟨#[99, 97, 108, 101, 110, 100, 97, 114, 32]⟩ : ByteArray) ++ a0) ++ (⟨#[10, 101, 112, 111, 99, 104, 32]⟩ : ByteArray)) ++ t131) ++ (⟨#[10, 99, 121, 99, 108, 101, 32]⟩ : ByteArray)) ++ t132) ++ (⟨#[10, 108, 101, 97, 112, 32]⟩ : ByteArray)) ++ ((rd_T42 t124 x11_1).f3)) ++ (⟨#[10]⟩ : ByteArray))).bind fun bt133 => ((catalog_months.f).bind fun t136 => (if 0 ≤ ((((rd_T42 t124 x11_1).f4) - 65) % 256) then (if ((((rd_T42 t124 x11_1).f4) - 65) % 256) < (t136.length : Int) then ((strings_Fields.f (rdOf ByteArray.empty t136 ((((rd_T42 t124 x11_1).f4) - 65) % 256))).bind fun t140 => (catalog_Text.l1 k1 t140 0 bt133.2.2)) else (none)) else (none)))) else (none)) else (none)) else (none)) else (none)) = some (r1, r2) := H
                      have A15 := Aside0.mk A150
                      clear A150
                      by_cases c16 : (((((⟨#[99, 97, 108, 101, 110, 100, 97, 114, 32]⟩ : ByteArray) ++ a0) ++ (⟨#[10, 101, 112, 111, 99, 104, 32]⟩ : ByteArray)) ++ t131) ++ (⟨#[10, 99, 121, 99, 108, 101, 32]⟩ : ByteArray)).size + t132.size ≤ 9223372036854775807
                      · rw [if_pos c16] at H
                        have c16b0 := eq_true c16
                        have c16b1 : decide ((((((⟨#[99, 97, 108, 101, 110, 100, 97, 114, 32]⟩ : ByteArray) ++ a0) ++ (⟨#[10, 101, 112, 111, 99, 104, 32]⟩ : ByteArray)) ++ t131) ++ (⟨#[10, 99, 121, 99, 108, 101, 32]⟩ : ByteArray)).size + t132.size ≤ 9223372036854775807) = true := decide_eq_true c16
                        try have c16b2 : (9223372036854775807 < (((((⟨#[99, 97, 108, 101, 110, 100, 97, 114, 32]⟩ : ByteArray) ++ a0) ++ (⟨#[10, 101, 112, 111, 99, 104, 32]⟩ : ByteArray)) ++ t131) ++ (⟨#[10, 99, 121, 99, 108, 101, 32]⟩ : ByteArray)).size + t132.size) = False := eq_false (Nat.not_lt.2 c16)
                        have c16b3 : (9223372036854775807 < 9 + a0.size + 7 + t131.size + 7 + t132.size) = False := eq_false (by have h_ := c16; have s0_ : (⟨#[99, 97, 108, 101, 110, 100, 97, 114, 32]⟩ : ByteArray).size = 9 := rfl; have s1_ : (⟨#[10, 101, 112, 111, 99, 104, 32]⟩ : ByteArray).size = 7 := rfl; have s2_ : (⟨#[10, 99, 121, 99, 108, 101, 32]⟩ : ByteArray).size = 7 := rfl; simp only [ByteArray.size_append, s0_, s1_, s2_] at h_; omega)
                        by_cases c17 : ((((((⟨#[99, 97, 108, 101, 110, 100, 97, 114, 32]⟩ : ByteArray) ++ a0) ++ (⟨#[10, 101, 112, 111, 99, 104, 32]⟩ : ByteArray)) ++ t131) ++ (⟨#[10, 99, 121, 99, 108, 101, 32]⟩ : ByteArray)) ++ t132).size + 6 ≤ 9223372036854775807
                        · rw [if_pos c17] at H
                          have c17b0 := eq_true c17
                          have c17b1 : decide (((((((⟨#[99, 97, 108, 101, 110, 100, 97, 114, 32]⟩ : ByteArray) ++ a0) ++ (⟨#[10, 101, 112, 111, 99, 104, 32]⟩ : ByteArray)) ++ t131) ++ (⟨#[10, 99, 121, 99, 108, 101, 32]⟩ : ByteArray)) ++ t132).size + 6 ≤ 9223372036854775807) = true := decide_eq_true c17
                          try have c17b2 : (9223372036854775807 < ((((((⟨#[99, 97, 108, 101, 110, 100, 97, 114, 32]⟩ : ByteArray) ++ a0) ++ (⟨#[10, 101, 112, 111, 99, 104, 32]⟩ : ByteArray)) ++ t131) ++ (⟨#[10, 99, 121, 99, 108, 101, 32]⟩ : ByteArray)) ++ t132).size + 6) = False := eq_false (Nat.not_lt.2 c17)
                          have c17b3 : (9223372036854775807 < 9 + a0.size + 7 + t131.size + 7 + t132.size + 6) = False := eq_false (by have h_ := c17; have s0_ : (⟨#[99, 97, 108, 101, 110, 100, 97, 114, 32]⟩ : ByteArray).size = 9 := rfl; have s1_ : (⟨#[10, 101, 112, 111, 99, 104, 32]⟩ : ByteArray).size = 7 := rfl; have s2_ : (⟨#[10, 99, 121, 99, 108, 101, 32]⟩ : ByteArray).size = 7 := rfl; simp only [ByteArray.size_append, s0_, s1_, s2_] at h_; omega)
                          by_cases c18 : (((((((⟨#[99, 97, 108, 101, 110, 100, 97, 114, 32]⟩ : ByteArray) ++ a0) ++ (⟨#[10, 101, 112, 111, 99, 104, 32]⟩ : ByteArray)) ++ t131) ++ (⟨#[10, 99, 121, 99, 108, 101, 32]⟩ : ByteArray)) ++ t132) ++ (⟨#[10, 108, 101, 97, 112, 32]⟩ : ByteArray)).size + ((rd_T42 t124 x11_1).f3).size ≤ 9223372036854775807
                          · rw [if_pos c18] at H
                            have c18b0 := eq_true c18
                            have c18b1 : decide ((((((((⟨#[99, 97, 108, 101, 110, 100, 97, 114, 32]⟩ : ByteArray) ++ a0) ++ (⟨#[10, 101, 112, 111, 99, 104, 32]⟩ : ByteArray)) ++ t131) ++ (⟨#[10, 99, 121, 99, 108, 101, 32]⟩ : ByteArray)) ++ t132) ++ (⟨#[10, 108, 101, 97, 112, 32]⟩ : ByteArray)).size + ((rd_T42 t124 x11_1).f3).size ≤ 9223372036854775807) = true := decide_eq_true c18
                            try have c18b2 : (9223372036854775807 < (((((((⟨#[99, 97, 108, 101, 110, 100, 97, 114, 32]⟩ : ByteArray) ++ a0) ++ (⟨#[10, 101, 112, 111, 99, 104, 32]⟩ : ByteArray)) ++ t131) ++ (⟨#[10, 99, 121, 99, 108, 101, 32]⟩ : ByteArray)) ++ t132) ++ (⟨#[10, 108, 101, 97, 112, 32]⟩ : ByteArray)).size + ((rd_T42 t124 x11_1).f3).size) = False := eq_false (Nat.not_lt.2 c18)
                            have c18b3 : (9223372036854775807 < 9 + a0.size + 7 + t131.size + 7 + t132.size + 6 + ((rd_T42 t124 x11_1).f3).size) = False := eq_false (by have h_ := c18; have s0_ : (⟨#[99, 97, 108, 101, 110, 100, 97, 114, 32]⟩ : ByteArray).size = 9 := rfl; have s1_ : (⟨#[10, 101, 112, 111, 99, 104, 32]⟩ : ByteArray).size = 7 := rfl; have s2_ : (⟨#[10, 99, 121, 99, 108, 101, 32]⟩ : ByteArray).size = 7 := rfl; have s3_ : (⟨#[10, 108, 101, 97, 112, 32]⟩ : ByteArray).size = 6 := rfl; simp only [ByteArray.size_append, s0_, s1_, s2_, s3_] at h_; omega)
                            by_cases c19 : ((((((((⟨#[99, 97, 108, 101, 110, 100, 97, 114, 32]⟩ : ByteArray) ++ a0) ++ (⟨#[10, 101, 112, 111, 99, 104, 32]⟩ : ByteArray)) ++ t131) ++ (⟨#[10, 99, 121, 99, 108, 101, 32]⟩ : ByteArray)) ++ t132) ++ (⟨#[10, 108, 101, 97, 112, 32]⟩ : ByteArray)) ++ ((rd_T42 t124 x11_1).f3)).size + 1 ≤ 9223372036854775807
                            · rw [if_pos c19] at H
                              have c19b0 := eq_true c19
                              have c19b1 : decide (((((((((⟨#[99, 97, 108, 101, 110, 100, 97, 114, 32]⟩ : ByteArray) ++ a0) ++ (⟨#[10, 101, 112, 111, 99, 104, 32]⟩ : ByteArray)) ++ t131) ++ (⟨#[10, 99, 121, 99, 108, 101, 32]⟩ : ByteArray)) ++ t132) ++ (⟨#[10, 108, 101, 97, 112, 32]⟩ : ByteArray)) ++ ((rd_T42 t124 x11_1).f3)).size + 1 ≤ 9223372036854775807) = true := decide_eq_true c19
                              try have c19b2 : (9223372036854775807 < ((((((((⟨#[99, 97, 108, 101, 110, 100, 97, 114, 32]⟩ : ByteArray) ++ a0) ++ (⟨#[10, 101, 112, 111, 99, 104, 32]⟩ : ByteArray)) ++ t131) ++ (⟨#[10, 99, 121, 99, 108, 101, 32]⟩ : ByteArray)) ++ t132) ++ (⟨#[10, 108, 101, 97, 112, 32]⟩ : ByteArray)) ++ ((rd_T42 t124 x11_1).f3)).size + 1) = False := eq_false (Nat.not_lt.2 c19)
                              have c19b3 : (9223372036854775807 < 9 + a0.size + 7 + t131.size + 7 + t132.size + 6 + ((rd_T42 t124 x11_1).f3).size + 1) = False := eq_false (by have h_ := c19; have s0_ : (⟨#[99, 97, 108, 101, 110, 100, 97, 114, 32]⟩ : ByteArray).size = 9 := rfl; have s1_ : (⟨#[10, 101, 112, 111, 99, 104, 32]⟩ : ByteArray).size = 7 := rfl; have s2_ : (⟨#[10, 99, 121, 99, 108, 101, 32]⟩ : ByteArray).size = 7 := rfl; have s3_ : (⟨#[10, 108, 101, 97, 112, 32]⟩ : ByteArray).size = 6 := rfl; simp only [ByteArray.size_append, s0_, s1_, s2_, s3_] at h_; omega)
                              replace H := Option.bind_eq_some_iff.mp H
                              obtain ⟨⟨t133, t134, t135⟩, A200, H⟩ := H
                              replace H : ((catalog_months.f).bind fun t136 => (if 0 ≤ ((((rd_T42 t124 x11_1).f4) - 65) % 256) then (if ((((rd_T42 t124 x11_1).f4) - 65) % 256) < (t136.length : Int) then ((strings_Fields.f (rdOf ByteArray.empty t136 ((((rd_T42 t124 x11_1).f4) - 65) % 256))).bind fun t140 => (catalog_Text.l1 k1 t140 0 t135)) else (none)) else (none))) = some (r1, r2) := H
                              have A20 := Aside0.mk A200
                              clear A200
                              replace H := Option.bind_eq_some_iff.mp H
                              obtain ⟨t136, A210, H⟩ := H
                              replace H : (if 0 ≤ ((((rd_T42 t124 x11_1).f4) - 65) % 256) then (if ((((rd_T42 t124 x11_1).f4) - 65) % 256) < (t136.length : Int) then ((strings_Fields.f (rdOf ByteArray.empty t136 ((((rd_T42 t124 x11_1).f4) - 65) % 256))).bind fun t140 => (catalog_Text.l1 k1 t140 0 t135)) else (none)) else (none)) = some (r1, r2) := H
                              have A21 := Aside0.mk A210
                              clear A210
                              obtain ⟨ji22, hji22⟩ : ∃ j_ : Int, ((((rd_T42 t124 x11_1).f4) - 65) % 256) = j_ := ⟨_, rfl⟩
                              have ji22w_ : IntKind.u8.wrap (((rd_T42 t124 x11_1).f4) - 65) = ji22 := by rw [IntKind.wrap_u8]; exact hji22
                              replace H : (if 0 ≤ (ji22) then (if (ji22) < (t136.length : Int) then ((strings_Fields.f (rdOf ByteArray.empty t136 (ji22))).bind fun t140 => (catalog_Text.l1 k1 t140 0 t135)) else (none)) else (none)) = some (r1, r2) := by first | (rw [hji22] at H; exact H) | (simp only [hji22] at H ⊢; exact H)
                              (try rw [hji22] at A9)
                              (try rw [hji22] at A12)
                              (try rw [hji22] at A15)
                              (try rw [hji22] at A20)
                              (try rw [hji22] at A21)
                              by_cases c23 : 0 ≤ (ji22)
                              · rw [if_pos c23] at H
                                have c23b0 : decide (0 ≤ (ji22)) = true := decide_eq_true c23
                                clear c23
                                by_cases c24 : (ji22) < (t136.length : Int)
                                · rw [if_pos c24] at H
                                  have c24b0 : decide ((ji22) < (t136.length : Int)) = true := decide_eq_true c24
                                  clear c24
                                  replace H := Option.bind_eq_some_iff.mp H
                                  obtain ⟨t140, A250, H⟩ := H
                                  replace H : (catalog_Text.l1 k1 t140 0 t135) = some (r1, r2) := H
                                  have A25 := Aside0.mk A250
                                  clear A250
                                  have H' := Aside0.mk H
                                  clear H
                                  have p127 : 0 ≤ (x11_1 : Int) := of_decide_eq_true (by first | (with_reducible assumption) | assumption)
                                  have q127 : x11_1 < (t124.length : Int) := of_decide_eq_true (by first | (with_reducible assumption) | assumption)
                                  obtain ⟨ad127, e127, hx127_0, hx127_1, hx127_2, hx127_3, hx127_4⟩ := at_T42 (Kd.R_reads' HO_9.out).2.2 x11_1 p127 q127
                                  cases e127
                                  replace p127 := eq_true p127
                                  replace q127 := eq_true q127
                                  try go_wp2_with (first | ((with_reducible refine gate_dst (N := 5) rfl ?_); refine box_event ?hg (N := 5) ?hd (cs := #[.string (⟨#[]⟩ : ByteArray), .int .i64 0, .int .i64 0, .string (⟨#[]⟩ : ByteArray), .int .u8 0]) (t := 42) ?hr ?_; (case hd => rfl); (case hg => rfl); (case hr => first | (go_simp; done) | (go_simp; rfl)); intro gb128 hg w26 hbox hb; have n0_ := Aside0.mk (Kd.R_below (Kd.R_elderB (by (with_reducible repeat (first | apply Kd.R_alloc | apply Kd.R_drewN | apply Kd.R_drew)); exact HO_9.out) gb128 (Nat.le_of_eq hg.symm)) hb); have n1_ := Aside0.mk (below_step (by repeat (first | (with_reducible first | exact HB.out | apply below_alloc | apply pw_below_drewN | apply below_drew1) | exact HB.out)) hb); have n2_ := Aside0.mk (hbox); have n3_ := Aside0.mk ((by rw [hg]; exact (below_size (by repeat (first | (with_reducible first | exact HB.out | apply below_alloc | apply pw_below_drewN | apply below_drew1) | exact HB.out))) : w.heap.size ≤ gb128)); have n4_ := Aside0.mk ((by rw [hg]; exact (below_size (by repeat (first | (with_reducible first | exact HB.out | apply below_alloc | apply pw_below_drewN | apply below_drew1) | exact HB.out))) : w.heap.size ≤ gb128)); clear HO_9; clear HB; have HO_9 := n0_; have HB := n1_; have BK128 := n2_; have GW128 := n3_; have GE128 := n4_; clear n0_ n1_ n2_ n3_ n4_; clear hb hbox hg; have hcz27_0 : w26.cell? ⟨gb128, 0, none⟩ = some (.string (⟨#[]⟩ : ByteArray)) := (blk_cell BK128.out 0).trans rfl; have hcz27_1 : w26.cell? ⟨gb128, 1, none⟩ = some (.int .i64 0) := (blk_cell BK128.out 1).trans rfl; have hcz27_2 : w26.cell? ⟨gb128, 2, none⟩ = some (.int .i64 0) := (blk_cell BK128.out 2).trans rfl; have hcz27_3 : w26.cell? ⟨gb128, 3, none⟩ = some (.string (⟨#[]⟩ : ByteArray)) := (blk_cell BK128.out 3).trans rfl; have hcz27_4 : w26.cell? ⟨gb128, 4, none⟩ = some (.int .u8 0) := (blk_cell BK128.out 4).trans rfl; have hfz27_0 := blk_frozen BK128.out 0; have hfz27_1 := blk_frozen BK128.out 1; have hfz27_2 := blk_frozen BK128.out 2; have hfz27_3 := blk_frozen BK128.out 3; have hfz27_4 := blk_frozen BK128.out 4) | ((with_reducible refine gate_dst (N := 6) rfl ?_); (try (refine gate_guard (by rfl) ?_; dsimp only)); refine box_event ?hg (N := 6) ?hd (cs := #[.pointer none, .slice none 0 0]) (t := 45) ?hr ?_; (case hd => rfl); (case hg => rfl); (case hr => first | (go_simp; done) | (go_simp; rfl)); intro g130 hg w28 hbox hb2; have hb := below_step (by repeat (first | (with_reducible first | exact HB.out | apply below_alloc | apply pw_below_drewN | apply below_drew1 | refine below_set ?_ GE128.out) | exact HB.out)) hb2; have hi : IsS133 w w28 g130 (⟨#[]⟩ : ByteArray) := IsS133.new (by rw [hg]; exact (show Below w.heap.size w _ from (by repeat (first | (with_reducible first | exact HB.out | apply below_alloc | apply pw_below_drewN | apply below_drew1 | refine below_set ?_ GE128.out) | exact HB.out))).size) hbox; have hczn0_ : w28.cell? ⟨g130, 0, none⟩ = some (.pointer none) := (blk_cell hbox 0).trans rfl; have hfzn0_ := blk_frozen hbox 0; have hczn1_ : w28.cell? ⟨g130, 1, none⟩ = some (.slice none 0 0) := (blk_cell hbox 1).trans rfl; have hfzn1_ := blk_frozen hbox 1; clear hg hbox; have n0_ := Aside0.mk (Kd.R_below (by (with_reducible repeat (first | apply Kd.R_alloc | apply Kd.R_drewN | apply Kd.R_drew)); exact (Kd.R_mono (Kd.R_far (p := ⟨gb128, 4, none⟩) (Kd.R_far (p := ⟨gb128, 3, none⟩) (Kd.R_far (p := ⟨gb128, 2, none⟩) (Kd.R_far (p := ⟨gb128, 1, none⟩) (Kd.R_far (p := ⟨gb128, 0, none⟩) (Kd.R_mono HO_9.out (fun k_ hk => (⟨hk, hk.2⟩ : _ ∧ k_ ≠ gb128))) (fun _ hk => hk.2) (.string ((rd_T42 t124 x11_1).f0))) (fun _ hk => hk.2) (.int .i64 ((rd_T42 t124 x11_1).f1))) (fun _ hk => hk.2) (.int .i64 ((rd_T42 t124 x11_1).f2))) (fun _ hk => hk.2) (.string ((rd_T42 t124 x11_1).f3))) (fun _ hk => hk.2) (.int .u8 ((rd_T42 t124 x11_1).f4))) (fun _ h_ => h_.1))) hb2); have n1_ := Aside0.mk (blk_below (g := gb128) (o := .cells #[.string ((rd_T42 t124 x11_1).f0), .int .i64 ((rd_T42 t124 x11_1).f1), .int .i64 ((rd_T42 t124 x11_1).f2), .string ((rd_T42 t124 x11_1).f3), .int .u8 ((rd_T42 t124 x11_1).f4)] 42 (0, 0)) (by (with_reducible repeat (first | refine blk_drewN ?_ _ | refine blk_drew ?_ | refine blk_alloc ?_ _)); refine blk_put (cs := #[.string ((rd_T42 t124 x11_1).f0), .int .i64 ((rd_T42 t124 x11_1).f1), .int .i64 ((rd_T42 t124 x11_1).f2), .string ((rd_T42 t124 x11_1).f3), .int .u8 0]) ?_ 4 _ rfl; (with_reducible repeat (first | refine blk_drewN ?_ _ | refine blk_drew ?_ | refine blk_alloc ?_ _)); refine blk_put (cs := #[.string ((rd_T42 t124 x11_1).f0), .int .i64 ((rd_T42 t124 x11_1).f1), .int .i64 ((rd_T42 t124 x11_1).f2), .string (⟨#[]⟩ : ByteArray), .int .u8 0]) ?_ 3 _ rfl; (with_reducible repeat (first | refine blk_drewN ?_ _ | refine blk_drew ?_ | refine blk_alloc ?_ _)); refine blk_put (cs := #[.string ((rd_T42 t124 x11_1).f0), .int .i64 ((rd_T42 t124 x11_1).f1), .int .i64 0, .string (⟨#[]⟩ : ByteArray), .int .u8 0]) ?_ 2 _ rfl; (with_reducible repeat (first | refine blk_drewN ?_ _ | refine blk_drew ?_ | refine blk_alloc ?_ _)); refine blk_put (cs := #[.string ((rd_T42 t124 x11_1).f0), .int .i64 0, .int .i64 0, .string (⟨#[]⟩ : ByteArray), .int .u8 0]) ?_ 1 _ rfl; (with_reducible repeat (first | refine blk_drewN ?_ _ | refine blk_drew ?_ | refine blk_alloc ?_ _)); refine blk_put (cs := #[.string (⟨#[]⟩ : ByteArray), .int .i64 0, .int .i64 0, .string (⟨#[]⟩ : ByteArray), .int .u8 0]) ?_ 0 _ rfl; (with_reducible repeat (first | refine blk_drewN ?_ _ | refine blk_drew ?_ | refine blk_alloc ?_ _)); exact BK128.out) hb2); have n2_ := Aside0.mk (hb); have n3_ := Aside0.mk (hi); have n4_ := Aside0.mk (IsS133.ne_blk hi (blk_below (g := gb128) (o := .cells #[.string ((rd_T42 t124 x11_1).f0), .int .i64 ((rd_T42 t124 x11_1).f1), .int .i64 ((rd_T42 t124 x11_1).f2), .string ((rd_T42 t124 x11_1).f3), .int .u8 ((rd_T42 t124 x11_1).f4)] 42 (0, 0)) (by (with_reducible repeat (first | refine blk_drewN ?_ _ | refine blk_drew ?_ | refine blk_alloc ?_ _)); refine blk_put (cs := #[.string ((rd_T42 t124 x11_1).f0), .int .i64 ((rd_T42 t124 x11_1).f1), .int .i64 ((rd_T42 t124 x11_1).f2), .string ((rd_T42 t124 x11_1).f3), .int .u8 0]) ?_ 4 _ rfl; (with_reducible repeat (first | refine blk_drewN ?_ _ | refine blk_drew ?_ | refine blk_alloc ?_ _)); refine blk_put (cs := #[.string ((rd_T42 t124 x11_1).f0), .int .i64 ((rd_T42 t124 x11_1).f1), .int .i64 ((rd_T42 t124 x11_1).f2), .string (⟨#[]⟩ : ByteArray), .int .u8 0]) ?_ 3 _ rfl; (with_reducible repeat (first | refine blk_drewN ?_ _ | refine blk_drew ?_ | refine blk_alloc ?_ _)); refine blk_put (cs := #[.string ((rd_T42 t124 x11_1).f0), .int .i64 ((rd_T42 t124 x11_1).f1), .int .i64 0, .string (⟨#[]⟩ : ByteArray), .int .u8 0]) ?_ 2 _ rfl; (with_reducible repeat (first | refine blk_drewN ?_ _ | refine blk_drew ?_ | refine blk_alloc ?_ _)); refine blk_put (cs := #[.string ((rd_T42 t124 x11_1).f0), .int .i64 0, .int .i64 0, .string (⟨#[]⟩ : ByteArray), .int .u8 0]) ?_ 1 _ rfl; (with_reducible repeat (first | refine blk_drewN ?_ _ | refine blk_drew ?_ | refine blk_alloc ?_ _)); refine blk_put (cs := #[.string (⟨#[]⟩ : ByteArray), .int .i64 0, .int .i64 0, .string (⟨#[]⟩ : ByteArray), .int .u8 0]) ?_ 0 _ rfl; (with_reducible repeat (first | refine blk_drewN ?_ _ | refine blk_drew ?_ | refine blk_alloc ?_ _)); exact BK128.out) hb2) (by decide)); have n5_ := Aside0.mk (Ne.symm (IsS133.ne_blk hi (blk_below (g := gb128) (o := .cells #[.string ((rd_T42 t124 x11_1).f0), .int .i64 ((rd_T42 t124 x11_1).f1), .int .i64 ((rd_T42 t124 x11_1).f2), .string ((rd_T42 t124 x11_1).f3), .int .u8 ((rd_T42 t124 x11_1).f4)] 42 (0, 0)) (by (with_reducible repeat (first | refine blk_drewN ?_ _ | refine blk_drew ?_ | refine blk_alloc ?_ _)); refine blk_put (cs := #[.string ((rd_T42 t124 x11_1).f0), .int .i64 ((rd_T42 t124 x11_1).f1), .int .i64 ((rd_T42 t124 x11_1).f2), .string ((rd_T42 t124 x11_1).f3), .int .u8 0]) ?_ 4 _ rfl; (with_reducible repeat (first | refine blk_drewN ?_ _ | refine blk_drew ?_ | refine blk_alloc ?_ _)); refine blk_put (cs := #[.string ((rd_T42 t124 x11_1).f0), .int .i64 ((rd_T42 t124 x11_1).f1), .int .i64 ((rd_T42 t124 x11_1).f2), .string (⟨#[]⟩ : ByteArray), .int .u8 0]) ?_ 3 _ rfl; (with_reducible repeat (first | refine blk_drewN ?_ _ | refine blk_drew ?_ | refine blk_alloc ?_ _)); refine blk_put (cs := #[.string ((rd_T42 t124 x11_1).f0), .int .i64 ((rd_T42 t124 x11_1).f1), .int .i64 0, .string (⟨#[]⟩ : ByteArray), .int .u8 0]) ?_ 2 _ rfl; (with_reducible repeat (first | refine blk_drewN ?_ _ | refine blk_drew ?_ | refine blk_alloc ?_ _)); refine blk_put (cs := #[.string ((rd_T42 t124 x11_1).f0), .int .i64 0, .int .i64 0, .string (⟨#[]⟩ : ByteArray), .int .u8 0]) ?_ 1 _ rfl; (with_reducible repeat (first | refine blk_drewN ?_ _ | refine blk_drew ?_ | refine blk_alloc ?_ _)); refine blk_put (cs := #[.string (⟨#[]⟩ : ByteArray), .int .i64 0, .int .i64 0, .string (⟨#[]⟩ : ByteArray), .int .u8 0]) ?_ 0 _ rfl; (with_reducible repeat (first | refine blk_drewN ?_ _ | refine blk_drew ?_ | refine blk_alloc ?_ _)); exact BK128.out) hb2) (by decide))); clear HO_9; clear BK128; clear HB; have HO_9 := n0_; have BK128 := n1_; have HB := n2_; have HI130 := n3_; have NB130_128 := n4_; have NB128_130 := n5_; clear n0_ n1_ n2_ n3_ n4_ n5_; (try clear hb); (try clear hb2); (try clear hk); (try clear hi)))
                                  have n0_ := Aside0.mk (Kd.R_drew HO_9.out)
                                  have n1_ := Aside0.mk (blk_drew BK128.out)
                                  have n2_ := Aside0.mk (IsS133.drew HI130.out)
                                  have n3_ := Aside0.mk (below_drew1 HB.out)
                                  clear HO_9
                                  clear BK128
                                  clear HI130
                                  clear HB
                                  have HO_9 := n0_
                                  have BK128 := n1_
                                  have HI130 := n2_
                                  have HB := n3_
                                  clear n0_ n1_ n2_ n3_
                                  refine start_ (n := 18) (S := fun w' => w'.cell? ⟨gb128, 0, none⟩ = some (.string ((rd_T42 t124 x11_1).f0)) ∧ w'.cell? ⟨gb128, 1, none⟩ = some (.int .i64 ((rd_T42 t124 x11_1).f1)) ∧ w'.cell? ⟨gb128, 2, none⟩ = some (.int .i64 ((rd_T42 t124 x11_1).f2)) ∧ w'.cell? ⟨gb128, 3, none⟩ = some (.string ((rd_T42 t124 x11_1).f3)) ∧ w'.cell? ⟨gb128, 4, none⟩ = some (.int .u8 ((rd_T42 t124 x11_1).f4))) (ds := []) #[false, false, false, false, false, false, false, false, false, false, false, false, false, false, false, false, false, false] (by kernel_rfl) rfl rfl ⟨(blk_cell BK128.out 0).trans rfl, (blk_cell BK128.out 1).trans rfl, (blk_cell BK128.out 2).trans rfl, (blk_cell BK128.out 3).trans rfl, (blk_cell BK128.out 4).trans rfl⟩ (fun hHeld => ?_); refine with_tabW catalog_Text.tab6 catalog_Text.bits6 (fun HT_ HW_ => ?_)
                                  generalize w28.drew = w29 at HO_9 BK128 HI130 HB hHeld ⊢
                                  refine pure_ (i := 0) (N := some 19) (v := ?_) (a' := ?_) #[true, false, false, false, false, false, false, false, false, false, false, false, false, false, false, false, false, false] rfl rfl (any_of HT_.out (by kernel_rfl)) (fun _ _ _ h => h) (Or.inl ⟨by rfl, ?_⟩) ?_ ?_
                                  rotate_left
                                  · intro w'
                                    go_simp
                                    with_reducible rfl
                                  rotate_left
                                  · simp only [Act.put, List.setIfInBounds_toArray, List.set_cons_zero, List.set_cons_succ, i64_w, i32_w]
                                    rfl
                                  refine pure_ (i := 1) (N := some 20) (v := ?_) (a' := ?_) #[true, true, false, false, false, false, false, false, false, false, false, false, false, false, false, false, false, false] rfl rfl (any_of HT_.out (by kernel_rfl)) (fun _ _ _ h => h) (Or.inl ⟨by rfl, ?_⟩) ?_ ?_
                                  rotate_left
                                  · intro w'
                                    go_simp
                                    with_reducible rfl
                                  rotate_left
                                  · simp only [Act.put, List.setIfInBounds_toArray, List.set_cons_zero, List.set_cons_succ, i64_w, i32_w]
                                    rfl
                                  refine pure_ (i := 2) (N := some 21) (v := ?_) (a' := ?_) #[true, true, true, false, false, false, false, false, false, false, false, false, false, false, false, false, false, false] rfl rfl (any_of HT_.out (by kernel_rfl)) (fun _ _ _ h => h) (Or.inl ⟨by rfl, ?_⟩) ?_ ?_
                                  rotate_left
                                  · intro w'
                                    go_simp
                                    with_reducible rfl
                                  rotate_left
                                  · simp only [Act.put, List.setIfInBounds_toArray, List.set_cons_zero, List.set_cons_succ, i64_w, i32_w]
                                    rfl
                                  refine pure_ (i := 3) (N := some 22) (v := ?_) (a' := ?_) #[true, true, true, true, false, false, false, false, false, false, false, false, false, false, false, false, false, false] rfl rfl (any_of HT_.out (by kernel_rfl)) (fun _ _ _ h => h) (Or.inl ⟨by rfl, ?_⟩) ?_ ?_
                                  rotate_left
                                  · intro w'
                                    go_simp
                                    with_reducible rfl
                                  rotate_left
                                  · simp only [Act.put, List.setIfInBounds_toArray, List.set_cons_zero, List.set_cons_succ, i64_w, i32_w]
                                    rfl
                                  refine pure_ (i := 8) (N := some 27) (v := ?_) (a' := ?_) #[true, true, true, true, false, false, false, false, true, false, false, false, false, false, false, false, false, false] rfl rfl (any_of HT_.out (by kernel_rfl)) (fun _ _ _ h => h) (Or.inl ⟨by rfl, ?_⟩) ?_ ?_
                                  rotate_left
                                  · intro w'
                                    go_simp
                                    with_reducible rfl
                                  rotate_left
                                  · simp only [Act.put, List.setIfInBounds_toArray, List.set_cons_zero, List.set_cons_succ, i64_w, i32_w]
                                    rfl
                                  refine pure_ (i := 13) (N := some 32) (v := ?_) (a' := ?_) #[true, true, true, true, false, false, false, false, true, false, false, false, false, true, false, false, false, false] rfl rfl (any_of HT_.out (by kernel_rfl)) (fun _ _ _ h => h) (Or.inl ⟨by rfl, ?_⟩) ?_ ?_
                                  rotate_left
                                  · intro w'
                                    go_simp
                                    with_reducible rfl
                                  rotate_left
                                  · simp only [Act.put, List.setIfInBounds_toArray, List.set_cons_zero, List.set_cons_succ, i64_w, i32_w]
                                    rfl
                                  refine take_ (i := 4) (N := some 23) (v := ?_) (a' := ?_) #[true, true, true, true, true, false, false, false, true, false, false, false, false, true, false, false, false, false] rfl rfl (take_ofW HT_.out HW_.out (by kernel_rfl)) (fun _ _ _ h => h) (Or.inl ⟨by rfl, ?_⟩) hHeld ?_ ?_
                                  rotate_left
                                  · rintro w' ⟨s0, s1, s2, s3, s4⟩
                                    go_simp
                                    with_reducible rfl
                                  rotate_left
                                  · simp only [Act.put, List.setIfInBounds_toArray, List.set_cons_zero, List.set_cons_succ, i64_w, i32_w]
                                    rfl
                                  refine take_ (i := 9) (N := some 28) (v := ?_) (a' := ?_) #[true, true, true, true, true, false, false, false, true, true, false, false, false, true, false, false, false, false] rfl rfl (take_ofW HT_.out HW_.out (by kernel_rfl)) (fun _ _ _ h => h) (Or.inl ⟨by rfl, ?_⟩) hHeld ?_ ?_
                                  rotate_left
                                  · rintro w' ⟨s0, s1, s2, s3, s4⟩
                                    go_simp
                                    with_reducible rfl
                                  rotate_left
                                  · simp only [Act.put, List.setIfInBounds_toArray, List.set_cons_zero, List.set_cons_succ, i64_w, i32_w]
                                    rfl
                                  refine take_ (i := 14) (N := some 33) (v := ?_) (a' := ?_) #[true, true, true, true, true, false, false, false, true, true, false, false, false, true, true, false, false, false] rfl rfl (take_ofW HT_.out HW_.out (by kernel_rfl)) (fun _ _ _ h => h) (Or.inl ⟨by rfl, ?_⟩) hHeld ?_ ?_
                                  rotate_left
                                  · rintro w' ⟨s0, s1, s2, s3, s4⟩
                                    go_simp
                                    with_reducible rfl
                                  rotate_left
                                  · simp only [Act.put, List.setIfInBounds_toArray, List.set_cons_zero, List.set_cons_succ, i64_w, i32_w]
                                    rfl
                                  refine one_ (i := 5) (N := some 24) #[true, true, true, true, true, true, false, false, true, true, false, false, false, true, true, false, false, false] rfl rfl (one_of HT_.out (by kernel_rfl)) (by decide) (fun K hK => ?_)
                                  refine goes_ Tryd.func16 (by kernel_rfl) rfl #[.int .i64 ((rd_T42 t124 x11_1).f1)] (by rfl) rfl rfl (by (try simp only [List.map_toArray, List.map_cons, List.map_nil]); first | done | rfl | (simp only [List.length_drop, List.length_take]; rfl)) ?_
                                  with_reducible refine (strconv_Itoa.calls ((rd_T42 t124 x11_1).f1) t131 _ (hT.below (by repeat (first | (with_reducible first | exact HB.out | apply below_alloc | apply pw_below_drewN | apply below_drew1) | exact HB.out)) (Nat.le_refl _)) A12.out).mono ?_
                                  rintro e w30 ⟨rfl, hb⟩
                                  refine ⟨_, rfl, ?_⟩
                                  have n0_ := Aside0.mk (Kd.R_below (by (with_reducible repeat (first | apply Kd.R_alloc | apply Kd.R_drewN | apply Kd.R_drew)); exact HO_9.out) hb)
                                  have n1_ := Aside0.mk (blk_below (g := gb128) (o := .cells #[.string ((rd_T42 t124 x11_1).f0), .int .i64 ((rd_T42 t124 x11_1).f1), .int .i64 ((rd_T42 t124 x11_1).f2), .string ((rd_T42 t124 x11_1).f3), .int .u8 ((rd_T42 t124 x11_1).f4)] 42 (0, 0)) (by (with_reducible repeat (first | refine blk_drewN ?_ _ | refine blk_drew ?_ | refine blk_alloc ?_ _)); exact BK128.out) hb)
                                  have n2_ := Aside0.mk (IsS133.below (by repeat (first | (with_reducible first | exact HI130.out | apply IsS133.alloc | apply IsS133.drewN | apply IsS133.drew | apply IsS133.set_0 | refine IsS133.far ?_ NB130_128.out _) | exact HI130.out)) hb)
                                  have n3_ := Aside0.mk (below_step (by repeat (first | (with_reducible first | exact HB.out | apply below_alloc | apply pw_below_drewN | apply below_drew1 | refine below_set ?_ (IsS133.ge HI130.out) | refine below_set ?_ GE128.out) | exact HB.out)) hb)
                                  clear HO_9
                                  clear BK128
                                  clear HI130
                                  clear HB
                                  have HO_9 := n0_
                                  have BK128 := n1_
                                  have HI130 := n2_
                                  have HB := n3_
                                  clear n0_ n1_ n2_ n3_
                                  (try clear hb)
                                  (try clear hb2)
                                  (try clear hk)
                                  (try clear hi)
                                  refine hK.out _ _ ⟨(blk_cell BK128.out 0).trans rfl, (blk_cell BK128.out 1).trans rfl, (blk_cell BK128.out 2).trans rfl, (blk_cell BK128.out 3).trans rfl, (blk_cell BK128.out 4).trans rfl⟩ (fun hHeld => ?_)
                                  clear hK K
                                  refine norm_ (a' := ?_) ?_ ?_
                                  rotate_left
                                  · show Act.put _ (some 24) _ = _
                                    simp only [Act.put, List.setIfInBounds_toArray, List.set_cons_zero, List.set_cons_succ, i64_w, i32_w]
                                    rfl
                                  refine pure_ (i := 6) (N := some 25) (v := ?_) (a' := ?_) #[true, true, true, true, true, true, true, false, true, true, false, false, false, true, true, false, false, false] rfl rfl (any_of HT_.out (by kernel_rfl)) (fun _ _ _ h => h) (Or.inl ⟨by rfl, ?_⟩) ?_ ?_
                                  rotate_left
                                  · intro w'
                                    go_simp
                                    with_reducible rfl
                                  rotate_left
                                  · simp only [Act.put, List.setIfInBounds_toArray, List.set_cons_zero, List.set_cons_succ, i64_w, i32_w]
                                    rfl
                                  refine pure_ (i := 7) (N := some 26) (v := ?_) (a' := ?_) #[true, true, true, true, true, true, true, true, true, true, false, false, false, true, true, false, false, false] rfl rfl (any_of HT_.out (by kernel_rfl)) (fun _ _ _ h => h) (Or.inl ⟨by rfl, ?_⟩) ?_ ?_
                                  rotate_left
                                  · intro w'
                                    go_simp
                                    with_reducible rfl
                                  rotate_left
                                  · simp only [Act.put, List.setIfInBounds_toArray, List.set_cons_zero, List.set_cons_succ, i64_w, i32_w]
                                    rfl
                                  refine one_ (i := 10) (N := some 29) #[true, true, true, true, true, true, true, true, true, true, true, false, false, true, true, false, false, false] rfl rfl (one_of HT_.out (by kernel_rfl)) (by decide) (fun K hK => ?_)
                                  refine goes_ Tryd.func16 (by kernel_rfl) rfl #[.int .i64 ((rd_T42 t124 x11_1).f2)] (by rfl) rfl rfl (by (try simp only [List.map_toArray, List.map_cons, List.map_nil]); first | done | rfl | (simp only [List.length_drop, List.length_take]; rfl)) ?_
                                  with_reducible refine (strconv_Itoa.calls ((rd_T42 t124 x11_1).f2) t132 _ (hT.below (by repeat (first | (with_reducible first | exact HB.out | apply below_alloc | apply pw_below_drewN | apply below_drew1) | exact HB.out)) (Nat.le_refl _)) A15.out).mono ?_
                                  rintro e w31 ⟨rfl, hb⟩
                                  refine ⟨_, rfl, ?_⟩
                                  have n0_ := Aside0.mk (Kd.R_below (by (with_reducible repeat (first | apply Kd.R_alloc | apply Kd.R_drewN | apply Kd.R_drew)); exact HO_9.out) hb)
                                  have n1_ := Aside0.mk (blk_below (g := gb128) (o := .cells #[.string ((rd_T42 t124 x11_1).f0), .int .i64 ((rd_T42 t124 x11_1).f1), .int .i64 ((rd_T42 t124 x11_1).f2), .string ((rd_T42 t124 x11_1).f3), .int .u8 ((rd_T42 t124 x11_1).f4)] 42 (0, 0)) (by (with_reducible repeat (first | refine blk_drewN ?_ _ | refine blk_drew ?_ | refine blk_alloc ?_ _)); exact BK128.out) hb)
                                  have n2_ := Aside0.mk (IsS133.below (by repeat (first | (with_reducible first | exact HI130.out | apply IsS133.alloc | apply IsS133.drewN | apply IsS133.drew | apply IsS133.set_0 | refine IsS133.far ?_ NB130_128.out _) | exact HI130.out)) hb)
                                  have n3_ := Aside0.mk (below_step (by repeat (first | (with_reducible first | exact HB.out | apply below_alloc | apply pw_below_drewN | apply below_drew1 | refine below_set ?_ (IsS133.ge HI130.out) | refine below_set ?_ GE128.out) | exact HB.out)) hb)
                                  clear HO_9
                                  clear BK128
                                  clear HI130
                                  clear HB
                                  have HO_9 := n0_
                                  have BK128 := n1_
                                  have HI130 := n2_
                                  have HB := n3_
                                  clear n0_ n1_ n2_ n3_
                                  (try clear hb)
                                  (try clear hb2)
                                  (try clear hk)
                                  (try clear hi)
                                  refine hK.out _ _ ⟨(blk_cell BK128.out 0).trans rfl, (blk_cell BK128.out 1).trans rfl, (blk_cell BK128.out 2).trans rfl, (blk_cell BK128.out 3).trans rfl, (blk_cell BK128.out 4).trans rfl⟩ (fun hHeld => ?_)
                                  clear hK K
                                  refine norm_ (a' := ?_) ?_ ?_
                                  rotate_left
                                  · show Act.put _ (some 29) _ = _
                                    simp only [Act.put, List.setIfInBounds_toArray, List.set_cons_zero, List.set_cons_succ, i64_w, i32_w]
                                    rfl
                                  refine pure_ (i := 11) (N := some 30) (v := ?_) (a' := ?_) #[true, true, true, true, true, true, true, true, true, true, true, true, false, true, true, false, false, false] rfl rfl (any_of HT_.out (by kernel_rfl)) (fun _ _ _ h => h) (Or.inl ⟨by rfl, ?_⟩) ?_ ?_
                                  rotate_left
                                  · intro w'
                                    go_simp
                                    with_reducible rfl
                                  rotate_left
                                  · simp only [Act.put, List.setIfInBounds_toArray, List.set_cons_zero, List.set_cons_succ, i64_w, i32_w]
                                    rfl
                                  refine pure_ (i := 12) (N := some 31) (v := ?_) (a' := ?_) #[true, true, true, true, true, true, true, true, true, true, true, true, true, true, true, false, false, false] rfl rfl (any_of HT_.out (by kernel_rfl)) (fun _ _ _ h => h) (Or.inl ⟨by rfl, ?_⟩) ?_ ?_
                                  rotate_left
                                  · intro w'
                                    go_simp
                                    with_reducible rfl
                                  rotate_left
                                  · simp only [Act.put, List.setIfInBounds_toArray, List.set_cons_zero, List.set_cons_succ, i64_w, i32_w]
                                    rfl
                                  refine pure_ (i := 15) (N := some 34) (v := ?_) (a' := ?_) #[true, true, true, true, true, true, true, true, true, true, true, true, true, true, true, true, false, false] rfl rfl (any_of HT_.out (by kernel_rfl)) (fun _ _ _ h => h) (Or.inl ⟨by rfl, ?_⟩) ?_ ?_
                                  rotate_left
                                  · intro w'
                                    go_simp
                                    with_reducible rfl
                                  rotate_left
                                  · simp only [Act.put, List.setIfInBounds_toArray, List.set_cons_zero, List.set_cons_succ, i64_w, i32_w]
                                    rfl
                                  refine pure_ (i := 16) (N := some 35) (v := ?_) (a' := ?_) #[true, true, true, true, true, true, true, true, true, true, true, true, true, true, true, true, true, false] rfl rfl (any_of HT_.out (by kernel_rfl)) (fun _ _ _ h => h) (Or.inl ⟨by rfl, ?_⟩) ?_ ?_
                                  rotate_left
                                  · intro w'
                                    go_simp
                                    with_reducible rfl
                                  rotate_left
                                  · simp only [Act.put, List.setIfInBounds_toArray, List.set_cons_zero, List.set_cons_succ, i64_w, i32_w]
                                    rfl
                                  refine one_ (i := 17) (N := some 36) #[true, true, true, true, true, true, true, true, true, true, true, true, true, true, true, true, true, true] rfl rfl (one_of HT_.out (by kernel_rfl)) (by decide) (fun K hK => ?_)
                                  refine goes_ Tryd.func15 (by kernel_rfl) rfl #[.pointer (some ⟨g130, 0, none⟩), .string (((((((((⟨#[99, 97, 108, 101, 110, 100, 97, 114, 32]⟩ : ByteArray) ++ a0) ++ (⟨#[10, 101, 112, 111, 99, 104, 32]⟩ : ByteArray)) ++ t131) ++ (⟨#[10, 99, 121, 99, 108, 101, 32]⟩ : ByteArray)) ++ t132) ++ (⟨#[10, 108, 101, 97, 112, 32]⟩ : ByteArray)) ++ ((rd_T42 t124 x11_1).f3)) ++ (⟨#[10]⟩ : ByteArray))] (by rfl) rfl rfl (by (try simp only [List.map_toArray, List.map_cons, List.map_nil]); first | done | rfl | (simp only [List.length_drop, List.length_take]; rfl)) ?_
                                  with_reducible refine (strings_Builder_WriteString.calls g130 (⟨#[]⟩ : ByteArray) (((((((((⟨#[99, 97, 108, 101, 110, 100, 97, 114, 32]⟩ : ByteArray) ++ a0) ++ (⟨#[10, 101, 112, 111, 99, 104, 32]⟩ : ByteArray)) ++ t131) ++ (⟨#[10, 99, 121, 99, 108, 101, 32]⟩ : ByteArray)) ++ t132) ++ (⟨#[10, 108, 101, 97, 112, 32]⟩ : ByteArray)) ++ ((rd_T42 t124 x11_1).f3)) ++ (⟨#[10]⟩ : ByteArray)) t133 t134 t135 w _ ?side1 ?side2 A20.out).mono ?_
                                  (case side1 => repeat (first | (with_reducible first | exact HI130.out | apply IsS133.alloc | apply IsS133.drewN | apply IsS133.drew | apply IsS133.set_0 | refine IsS133.far ?_ NB130_128.out _) | exact HI130.out))
                                  (case side2 => repeat (first | (with_reducible first | exact HB.out | apply below_alloc | apply pw_below_drewN | apply below_drew1 | refine below_set ?_ (IsS133.ge HI130.out) | refine below_set ?_ GE128.out) | exact HB.out))
                                  rintro e w32 ⟨rfl, hi, hb, hk⟩
                                  refine ⟨_, rfl, ?_⟩
                                  have n0_ := Aside0.mk (Kd.R_mono (R_keepB133 (IsS133.apart (show IsS133 w _ g130 (⟨#[]⟩ : ByteArray) from by repeat (first | (with_reducible first | exact HI130.out | apply IsS133.alloc | apply IsS133.drewN | apply IsS133.drew | apply IsS133.set_0 | refine IsS133.far ?_ NB130_128.out _) | exact HI130.out)) (by (with_reducible repeat (first | apply Kd.R_alloc | apply Kd.R_drewN | apply Kd.R_drew)); exact HO_9.out) (by decide)) hk (fun _ h => h.2)) (fun _ h => h.1))
                                  have n1_ := Aside0.mk (KeepB133.blk hk (g' := gb128) (o := .cells #[.string ((rd_T42 t124 x11_1).f0), .int .i64 ((rd_T42 t124 x11_1).f1), .int .i64 ((rd_T42 t124 x11_1).f2), .string ((rd_T42 t124 x11_1).f3), .int .u8 ((rd_T42 t124 x11_1).f4)] 42 (0, 0)) (by (with_reducible repeat (first | refine blk_drewN ?_ _ | refine blk_drew ?_ | refine blk_alloc ?_ _)); (try refine blk_far ?_ NB128_130.out _); (try refine blk_far ?_ NB128_130.out _); (with_reducible repeat (first | refine blk_drewN ?_ _ | refine blk_drew ?_ | refine blk_alloc ?_ _)); exact BK128.out) NB128_130.out (by simp))
                                  have n2_ := Aside0.mk (hb)
                                  have n3_ := Aside0.mk (hi)
                                  clear HO_9
                                  clear BK128
                                  clear HB
                                  clear HI130
                                  have HO_9 := n0_
                                  have BK128 := n1_
                                  have HB := n2_
                                  have HI130 := n3_
                                  clear n0_ n1_ n2_ n3_
                                  (try clear hb)
                                  (try clear hb2)
                                  (try clear hk)
                                  (try clear hi)
                                  (try simp only [errW_none, errW_some])
                                  refine hK.out _ _ ⟨(blk_cell BK128.out 0).trans rfl, (blk_cell BK128.out 1).trans rfl, (blk_cell BK128.out 2).trans rfl, (blk_cell BK128.out 3).trans rfl, (blk_cell BK128.out 4).trans rfl⟩ (fun hHeld => ?_)
                                  clear hK K
                                  refine norm_ (a' := ?_) ?_ ?_
                                  rotate_left
                                  · show Act.put _ (some 36) _ = _
                                    simp only [Act.put, List.setIfInBounds_toArray, List.set_cons_zero, List.set_cons_succ, i64_w, i32_w]
                                    rfl
                                  refine done_ (done_of HT_.out (by kernel_rfl)) ?_
                                  try go_wp2
                                  have n0_ := Aside0.mk (Kd.R_drew HO_9.out)
                                  have n1_ := Aside0.mk (blk_drew BK128.out)
                                  have n2_ := Aside0.mk (IsS133.drew HI130.out)
                                  have n3_ := Aside0.mk (below_drew1 HB.out)
                                  clear HO_9
                                  clear BK128
                                  clear HI130
                                  clear HB
                                  have HO_9 := n0_
                                  have BK128 := n1_
                                  have HI130 := n2_
                                  have HB := n3_
                                  clear n0_ n1_ n2_ n3_
                                  refine start_ (n := 8) (S := fun w' => w'.cell? ⟨gb128, 0, none⟩ = some (.string ((rd_T42 t124 x11_1).f0)) ∧ w'.cell? ⟨gb128, 1, none⟩ = some (.int .i64 ((rd_T42 t124 x11_1).f1)) ∧ w'.cell? ⟨gb128, 2, none⟩ = some (.int .i64 ((rd_T42 t124 x11_1).f2)) ∧ w'.cell? ⟨gb128, 3, none⟩ = some (.string ((rd_T42 t124 x11_1).f3)) ∧ w'.cell? ⟨gb128, 4, none⟩ = some (.int .u8 ((rd_T42 t124 x11_1).f4))) (ds := []) #[false, false, false, false, false, false, false, false] (by kernel_rfl) rfl rfl ⟨(blk_cell BK128.out 0).trans rfl, (blk_cell BK128.out 1).trans rfl, (blk_cell BK128.out 2).trans rfl, (blk_cell BK128.out 3).trans rfl, (blk_cell BK128.out 4).trans rfl⟩ (fun hHeld => ?_); refine with_tabW catalog_Text.tab7 catalog_Text.bits7 (fun HT_ HW_ => ?_)
                                  generalize w32.drew = w33 at HO_9 BK128 HI130 HB hHeld ⊢
                                  refine pure_ (i := 1) (N := some 38) (v := ?_) (a' := ?_) #[false, true, false, false, false, false, false, false] rfl rfl (any_of HT_.out (by kernel_rfl)) (fun _ _ _ h => h) (Or.inl ⟨by rfl, ?_⟩) ?_ ?_
                                  rotate_left
                                  · intro w'
                                    go_simp
                                    with_reducible rfl
                                  rotate_left
                                  · simp only [Act.put, List.setIfInBounds_toArray, List.set_cons_zero, List.set_cons_succ, i64_w, i32_w]
                                    rfl
                                  refine take_ (i := 2) (N := some 39) (v := ?_) (a' := ?_) #[false, true, true, false, false, false, false, false] rfl rfl (take_ofW HT_.out HW_.out (by kernel_rfl)) (fun _ _ _ h => h) (Or.inl ⟨by rfl, ?_⟩) hHeld ?_ ?_
                                  rotate_left
                                  · rintro w' ⟨s0, s1, s2, s3, s4⟩
                                    go_simp
                                    with_reducible rfl
                                  rotate_left
                                  · simp only [Act.put, List.setIfInBounds_toArray, List.set_cons_zero, List.set_cons_succ, i64_w, i32_w]
                                    rfl
                                  refine pure_ (i := 3) (N := some 40) (v := ?_) (a' := ?_) #[false, true, true, true, false, false, false, false] rfl rfl (any_of HT_.out (by kernel_rfl)) (fun _ _ _ h => h) (Or.inl ⟨by rfl, ?_⟩) ?_ ?_
                                  rotate_left
                                  · intro w'
                                    go_simp
                                    with_reducible rfl
                                  rotate_left
                                  · simp only [Act.put, List.setIfInBounds_toArray, List.set_cons_zero, List.set_cons_succ, i64_w, i32_w]
                                    rfl
                                  refine one_ (i := 0) (N := some 37) #[true, true, true, true, false, false, false, false] rfl rfl (one_of HT_.out (by kernel_rfl)) (by decide) (fun K hK => ?_)
                                  refine goes_ Tryd.func18 (by kernel_rfl) rfl #[] (by rfl) rfl rfl (by (try simp only [List.map_toArray, List.map_cons, List.map_nil]); first | done | rfl | (simp only [List.length_drop, List.length_take]; rfl)) ?_
                                  with_reducible refine (catalog_months.calls  t136 _ A21.out).mono ?_
                                  rintro e w34 ⟨v137, rfl, ho0, hb⟩
                                  refine ⟨_, rfl, ?_⟩
                                  have n0_ := Aside0.mk (Kd.R_below (by (with_reducible repeat (first | apply Kd.R_alloc | apply Kd.R_drewN | apply Kd.R_drew)); exact HO_9.out) hb)
                                  have n1_ := Aside0.mk (Kd.R_lower ho0 (below_size (by repeat (first | (with_reducible first | exact HB.out | apply below_alloc | apply pw_below_drewN | apply below_drew1 | refine below_set ?_ (IsS133.ge HI130.out) | refine below_set ?_ GE128.out) | exact HB.out))))
                                  have n2_ := Aside0.mk (blk_below (g := gb128) (o := .cells #[.string ((rd_T42 t124 x11_1).f0), .int .i64 ((rd_T42 t124 x11_1).f1), .int .i64 ((rd_T42 t124 x11_1).f2), .string ((rd_T42 t124 x11_1).f3), .int .u8 ((rd_T42 t124 x11_1).f4)] 42 (0, 0)) (by (with_reducible repeat (first | refine blk_drewN ?_ _ | refine blk_drew ?_ | refine blk_alloc ?_ _)); exact BK128.out) hb)
                                  have n3_ := Aside0.mk (IsS133.below (by repeat (first | (with_reducible first | exact HI130.out | apply IsS133.alloc | apply IsS133.drewN | apply IsS133.drew | apply IsS133.set_0 | refine IsS133.far ?_ NB130_128.out _) | exact HI130.out)) hb)
                                  have n4_ := Aside0.mk (below_step (by repeat (first | (with_reducible first | exact HB.out | apply below_alloc | apply pw_below_drewN | apply below_drew1 | refine below_set ?_ (IsS133.ge HI130.out) | refine below_set ?_ GE128.out) | exact HB.out)) hb)
                                  clear HO_9
                                  clear BK128
                                  clear HI130
                                  clear HB
                                  have HO_9 := n0_
                                  have HO138 := n1_
                                  have BK128 := n2_
                                  have HI130 := n3_
                                  have HB := n4_
                                  clear n0_ n1_ n2_ n3_ n4_
                                  (try clear hb)
                                  (try clear hb2)
                                  (try clear hk)
                                  (try clear hi)
                                  (try clear ho0)
                                  obtain ⟨Ao35, co35, eo35⟩ := Kd.R_slice HO138.out
                                  (first | subst eo35 | (injection eo35 with f1_ f2_ f3_; have f4_ := f1_.symm; have f5_ := f3_.symm; clear f1_ f2_ f3_; subst f4_; subst f5_))
                                  have p139 : 0 ≤ ((ji22) : Int) := of_decide_eq_true (by first | (with_reducible assumption) | assumption)
                                  have q139 : (ji22) < (t136.length : Int) := of_decide_eq_true (by first | (with_reducible assumption) | assumption)
                                  obtain ⟨ad139, e139, hx139_0⟩ := Kd.at_string (Kd.R_reads' HO138.out).2.2 (ji22) p139 q139
                                  cases e139
                                  replace p139 := eq_true p139
                                  replace q139 := eq_true q139
                                  refine hK.out _ _ ⟨(blk_cell BK128.out 0).trans rfl, (blk_cell BK128.out 1).trans rfl, (blk_cell BK128.out 2).trans rfl, (blk_cell BK128.out 3).trans rfl, (blk_cell BK128.out 4).trans rfl⟩ (fun hHeld => ?_)
                                  clear hK K
                                  refine norm_ (a' := ?_) ?_ ?_
                                  rotate_left
                                  · show Act.put _ (some 37) _ = _
                                    simp only [Act.put, List.setIfInBounds_toArray, List.set_cons_zero, List.set_cons_succ, i64_w, i32_w]
                                    rfl
                                  refine pure_ (i := 4) (N := some 41) (v := ?_) (a' := ?_) #[true, true, true, true, true, false, false, false] rfl rfl (any_of HT_.out (by kernel_rfl)) (fun _ _ _ h => h) (Or.inl ⟨by rfl, ?_⟩) ?_ ?_
                                  rotate_left
                                  · intro w'
                                    go_simp
                                    with_reducible rfl
                                  rotate_left
                                  · simp only [Act.put, List.setIfInBounds_toArray, List.set_cons_zero, List.set_cons_succ, i64_w, i32_w]
                                    rfl
                                  refine one_ (i := 5) (N := some 42) #[true, true, true, true, true, true, false, false] rfl rfl (one_of HT_.out (by kernel_rfl)) (by decide) (fun K hK => ?_)
                                  refine value_ (v := ?vv_) (w1 := w34) (by rfl) rfl ?hrun_ ?hgo_
                                  case hrun_ =>
                                    go_simp
                                    with_reducible rfl
                                  case hgo_ =>
                                    refine hK.out _ _ hHeld (fun hHeld => ?_)
                                    clear hK K
                                    refine norm_ (a' := ?_) ?_ ?_
                                    rotate_left
                                    · show Act.put _ (some 42) _ = _
                                      simp only [Act.put, List.setIfInBounds_toArray, List.set_cons_zero, List.set_cons_succ, i64_w, i32_w]
                                      rfl
                                    refine one_ (i := 6) (N := some 43) #[true, true, true, true, true, true, true, false] rfl rfl (one_of HT_.out (by kernel_rfl)) (by decide) (fun K hK => ?_)
                                    refine goes_ Tryd.func17 (by kernel_rfl) rfl #[.string (rdOf ByteArray.empty t136 (ji22))] (by rfl) rfl rfl (by (try simp only [List.map_toArray, List.map_cons, List.map_nil]); first | done | (simp only [hji22]; rfl) | rfl | (simp only [List.length_drop, List.length_take]; rfl)) ?_
                                    with_reducible refine (strings_Fields.calls (rdOf ByteArray.empty t136 (ji22)) t140 _ (hF.below (by repeat (first | (with_reducible first | exact HB.out | apply below_alloc | apply pw_below_drewN | apply below_drew1) | exact HB.out)) (Nat.le_refl _)) A25.out).mono ?_
                                    rintro e w36 ⟨v141, rfl, ho0, hb⟩
                                    refine ⟨_, rfl, ?_⟩
                                    have n0_ := Aside0.mk (Kd.R_below (by (with_reducible repeat (first | apply Kd.R_alloc | apply Kd.R_drewN | apply Kd.R_drew)); exact HO_9.out) hb)
                                    have n1_ := Aside0.mk (Kd.R_elder' (by (with_reducible repeat (first | apply Kd.R_alloc | apply Kd.R_drewN | apply Kd.R_drew)); exact HO138.out) (Kd.R_base ho0) hb)
                                    have n2_ := Aside0.mk (Kd.R_lower (Kd.R_new' ho0 (Kd.R_lt (by (with_reducible repeat (first | apply Kd.R_alloc | apply Kd.R_drewN | apply Kd.R_drew)); exact HO138.out))) (below_size (by repeat (first | (with_reducible first | exact HB.out | apply below_alloc | apply pw_below_drewN | apply below_drew1 | refine below_set ?_ (IsS133.ge HI130.out) | refine below_set ?_ GE128.out) | exact HB.out))))
                                    have n3_ := Aside0.mk (blk_below (g := gb128) (o := .cells #[.string ((rd_T42 t124 x11_1).f0), .int .i64 ((rd_T42 t124 x11_1).f1), .int .i64 ((rd_T42 t124 x11_1).f2), .string ((rd_T42 t124 x11_1).f3), .int .u8 ((rd_T42 t124 x11_1).f4)] 42 (0, 0)) (by (with_reducible repeat (first | refine blk_drewN ?_ _ | refine blk_drew ?_ | refine blk_alloc ?_ _)); exact BK128.out) hb)
                                    have n4_ := Aside0.mk (IsS133.below (by repeat (first | (with_reducible first | exact HI130.out | apply IsS133.alloc | apply IsS133.drewN | apply IsS133.drew | apply IsS133.set_0 | refine IsS133.far ?_ NB130_128.out _) | exact HI130.out)) hb)
                                    have n5_ := Aside0.mk (below_step (by repeat (first | (with_reducible first | exact HB.out | apply below_alloc | apply pw_below_drewN | apply below_drew1 | refine below_set ?_ (IsS133.ge HI130.out) | refine below_set ?_ GE128.out) | exact HB.out)) hb)
                                    clear HO_9
                                    clear HO138
                                    clear BK128
                                    clear HI130
                                    clear HB
                                    have HO_9 := n0_
                                    have HO138 := n1_
                                    have HO142 := n2_
                                    have BK128 := n3_
                                    have HI130 := n4_
                                    have HB := n5_
                                    clear n0_ n1_ n2_ n3_ n4_ n5_
                                    (try clear hb)
                                    (try clear hb2)
                                    (try clear hk)
                                    (try clear hi)
                                    (try clear ho0)
                                    refine hK.out _ _ ⟨(blk_cell BK128.out 0).trans rfl, (blk_cell BK128.out 1).trans rfl, (blk_cell BK128.out 2).trans rfl, (blk_cell BK128.out 3).trans rfl, (blk_cell BK128.out 4).trans rfl⟩ (fun hHeld => ?_)
                                    clear hK K
                                    refine norm_ (a' := ?_) ?_ ?_
                                    rotate_left
                                    · show Act.put _ (some 43) _ = _
                                      simp only [Act.put, List.setIfInBounds_toArray, List.set_cons_zero, List.set_cons_succ, i64_w, i32_w]
                                      rfl
                                    refine pure_ (i := 7) (N := some 7) (v := ?_) (a' := ?_) #[true, true, true, true, true, true, true, true] rfl rfl (any_of HT_.out (by kernel_rfl)) (fun _ _ _ h => h) (Or.inl ⟨by rfl, ?_⟩) ?_ ?_
                                    rotate_left
                                    · intro w'
                                      go_simp
                                      with_reducible rfl
                                    rotate_left
                                    · simp only [Act.put, List.setIfInBounds_toArray, List.set_cons_zero, List.set_cons_succ, i64_w, i32_w]
                                      rfl
                                    refine done_ (done_of HT_.out (by kernel_rfl)) ?_
                                    try go_wp2
                                    go_loopg [8] k1 (fun kq v8 w' => ∃ (x8_2 : Int) (t135 : ByteArray), v8 = .int .i64 x8_2 ∧ Aside0 (catalog_Text.l1 kq t140 x8_2 t135 = some (r1, r2)) ∧ Aside0 (kq ≤ k1) ∧ Aside0 (Kd.R Kd.string 9 w' w.heap.size (fun _ => True) v141 t140) ∧ Aside0 (w'.heap[gb128]? = some (.cells #[.string ((rd_T42 t124 x11_1).f0), .int .i64 ((rd_T42 t124 x11_1).f1), .int .i64 ((rd_T42 t124 x11_1).f2), .string ((rd_T42 t124 x11_1).f3), .int .u8 ((rd_T42 t124 x11_1).f4)] 42 (0, 0))) ∧ Aside0 (IsS133 w w' g130 t135) ∧ Aside0 (Below w.heap.size w w'))
                                    case atStart => exact ⟨(0), _, (by first | rfl | (simp; done) | (simp [*]; done)), H', ⟨Nat.le_refl _⟩, ⟨by (with_reducible repeat (first | apply Kd.R_alloc | apply Kd.R_drewN | apply Kd.R_drew)); exact Kd.R_mono HO142.out (fun _ hk => trivial)⟩, ⟨by (with_reducible repeat (first | refine blk_drewN ?_ _ | refine blk_drew ?_ | refine blk_alloc ?_ _)); exact BK128.out⟩, ⟨by repeat (first | (with_reducible first | exact HI130.out | apply IsS133.alloc | apply IsS133.drewN | apply IsS133.drew | apply IsS133.set_0 | refine IsS133.far ?_ NB130_128.out _) | exact HI130.out)⟩, ⟨by repeat (first | (with_reducible first | exact HB.out | apply below_alloc | apply pw_below_drewN | apply below_drew1 | refine below_set ?_ (IsS133.ge HI130.out) | refine below_set ?_ GE128.out) | exact HB.out)⟩⟩
                                    case round =>
                                      clear H'
                                      try clear c1
                                      try clear p1
                                      try clear q1
                                      try clear hx1
                                      try clear c2
                                      try clear p2
                                      try clear c5
                                      try clear c5b0
                                      try clear c6
                                      try clear c6b0
                                      try clear c7
                                      try clear c7b0
                                      try clear c8
                                      try clear c8b0
                                      try clear c8b1
                                      try clear c9
                                      try clear c10
                                      try clear c10b0
                                      try clear c10b1
                                      try clear c10b2
                                      try clear c11
                                      try clear c11b0
                                      try clear c11b1
                                      try clear c11b2
                                      try clear p12
                                      try clear q12
                                      try clear hx12
                                      try clear c13
                                      try clear c13b0
                                      try clear c13b1
                                      try clear c13b2
                                      try clear p13
                                      try clear q13
                                      try clear hx13
                                      try clear c14
                                      try clear c14b0
                                      try clear c14b1
                                      try clear c14b2
                                      try clear c15
                                      try clear c16
                                      try clear c16b0
                                      try clear c16b1
                                      try clear c16b2
                                      try clear c17
                                      try clear c17b0
                                      try clear c17b1
                                      try clear c17b2
                                      try clear c18
                                      try clear c18b0
                                      try clear c18b1
                                      try clear c18b2
                                      try clear c19
                                      try clear c19b0
                                      try clear c19b1
                                      try clear c19b2
                                      try clear c23
                                      try clear c23b0
                                      try clear c24
                                      try clear c24b0
                                      try clear hcz27_0
                                      try clear hcz27_1
                                      try clear hcz27_2
                                      try clear hcz27_3
                                      try clear hcz27_4
                                      try clear hfz27_0
                                      try clear hfz27_1
                                      try clear hfz27_2
                                      try clear hfz27_3
                                      try clear hfz27_4
                                      try clear hx127_0
                                      try clear hx127_1
                                      try clear hx127_2
                                      try clear hx127_3
                                      try clear hx127_4
                                      try clear hx139_0
                                      try clear p127
                                      try clear p139
                                      try clear p2
                                      try clear q127
                                      try clear q139
                                      obtain ⟨x8_2, t135, rfl, HA, HK2, HO_7, BK128, HI130, HB⟩ := hrel
                                      cases gk with
                                      | zero => exact absurd HA.out (by simp [catalog_Text.l1])
                                      | succ k2 =>
                                        have H := HA.out
                                        clear HA
                                        simp only [catalog_Text.l1] at H
                                        by_cases c37 : (wrap64 (x8_2 + 1)) < (t140.length : Int)
                                        · rw [if_pos c37] at H
                                          have c37b0 : decide ((wrap64 (x8_2 + 1)) < (t140.length : Int)) = true := decide_eq_true c37
                                          clear c37
                                          by_cases c38 : 0 ≤ x8_2
                                          · rw [if_pos c38] at H
                                            have c38b0 : decide (0 ≤ x8_2) = true := decide_eq_true c38
                                            clear c38
                                            by_cases c39 : x8_2 < (t140.length : Int)
                                            · rw [if_pos c39] at H
                                              have c39b0 : decide (x8_2 < (t140.length : Int)) = true := decide_eq_true c39
                                              clear c39
                                              by_cases c40 : 6 + (rdOf ByteArray.empty t140 x8_2).size ≤ 9223372036854775807
                                              · rw [if_pos c40] at H
                                                have c40b0 := eq_true c40
                                                have c40b1 : decide (6 + (rdOf ByteArray.empty t140 x8_2).size ≤ 9223372036854775807) = true := decide_eq_true c40
                                                try have c40b2 : (9223372036854775807 < 6 + (rdOf ByteArray.empty t140 x8_2).size) = False := eq_false (Nat.not_lt.2 c40)
                                                by_cases c41 : ((⟨#[109, 111, 110, 116, 104, 32]⟩ : ByteArray) ++ (rdOf ByteArray.empty t140 x8_2)).size + 1 ≤ 9223372036854775807
                                                · rw [if_pos c41] at H
                                                  have c41b0 := eq_true c41
                                                  have c41b1 : decide (((⟨#[109, 111, 110, 116, 104, 32]⟩ : ByteArray) ++ (rdOf ByteArray.empty t140 x8_2)).size + 1 ≤ 9223372036854775807) = true := decide_eq_true c41
                                                  try have c41b2 : (9223372036854775807 < ((⟨#[109, 111, 110, 116, 104, 32]⟩ : ByteArray) ++ (rdOf ByteArray.empty t140 x8_2)).size + 1) = False := eq_false (Nat.not_lt.2 c41)
                                                  have c41b3 : (9223372036854775807 < 6 + (rdOf ByteArray.empty t140 x8_2).size + 1) = False := eq_false (by have h_ := c41; have s0_ : (⟨#[109, 111, 110, 116, 104, 32]⟩ : ByteArray).size = 6 := rfl; simp only [ByteArray.size_append, s0_] at h_; omega)
                                                  obtain ⟨ji42, hji42⟩ : ∃ j_ : Int, (wrap64 (x8_2 + 1)) = j_ := ⟨_, rfl⟩
                                                  replace H : (if 0 ≤ (ji42) then ((strings_ReplaceAll.f (rdOf ByteArray.empty t140 (ji42)) (⟨#[47]⟩ : ByteArray) (⟨#[32]⟩ : ByteArray)).bind fun t145 => (if (((⟨#[109, 111, 110, 116, 104, 32]⟩ : ByteArray) ++ (rdOf ByteArray.empty t140 x8_2)) ++ (⟨#[32]⟩ : ByteArray)).size + t145.size ≤ 9223372036854775807 then (if ((((⟨#[109, 111, 110, 116, 104, 32]⟩ : ByteArray) ++ (rdOf ByteArray.empty t140 x8_2)) ++ (⟨#[32]⟩ : ByteArray)) ++ t145).size + 1 ≤ 9223372036854775807 then ((strings_Builder_WriteString.f t135 (((((⟨#[109, 111, 110, 116, 104, 32]⟩ : ByteArray) ++ (rdOf ByteArray.empty t140 x8_2)) ++ (⟨#[32]⟩ : ByteArray)) ++ t145) ++ (⟨#[10]⟩ : ByteArray))).bind fun bt146 => (catalog_Text.l1 k2 t140 (wrap64 (x8_2 + 2)) bt146.2.2)) else (none)) else (none))) else (none)) = some (r1, r2) := by first | (rw [hji42] at H; exact H) | (simp only [hji42] at H ⊢; exact H)
                                                  (try rw [hji42] at c37b0)
                                                  have hji42w : (IntKind.i64.wrap (x8_2 + 1)) = ji42 := (i64_w _).trans hji42
                                                  by_cases c43 : 0 ≤ (ji42)
                                                  · rw [if_pos c43] at H
                                                    have c43b0 : decide (0 ≤ (ji42)) = true := decide_eq_true c43
                                                    clear c43
                                                    replace H := Option.bind_eq_some_iff.mp H
                                                    obtain ⟨t145, A440, H⟩ := H
                                                    replace H : (if (((⟨#[109, 111, 110, 116, 104, 32]⟩ : ByteArray) ++ (rdOf ByteArray.empty t140 x8_2)) ++ (⟨#[32]⟩ : ByteArray)).size + t145.size ≤ 9223372036854775807 then (if ((((⟨#[109, 111, 110, 116, 104, 32]⟩ : ByteArray) ++ (rdOf ByteArray.empty t140 x8_2)) ++ (⟨#[32]⟩ : ByteArray)) ++ t145).size + 1 ≤ 9223372036854775807 then ((strings_Builder_WriteString.f t135 (((((⟨#[109, 111, 110, 116, 104, 32]⟩ : ByteArray) ++ (rdOf ByteArray.empty t140 x8_2)) ++ (⟨#[32]⟩ : ByteArray)) ++ t145) ++ (⟨#[10]⟩ : ByteArray))).bind fun bt146 => (catalog_Text.l1 k2 t140 (wrap64 (x8_2 + 2)) bt146.2.2)) else (none)) else (none)) = some (r1, r2) := H
                                                    have A44 := Aside0.mk A440
                                                    clear A440
                                                    by_cases c45 : (((⟨#[109, 111, 110, 116, 104, 32]⟩ : ByteArray) ++ (rdOf ByteArray.empty t140 x8_2)) ++ (⟨#[32]⟩ : ByteArray)).size + t145.size ≤ 9223372036854775807
                                                    · rw [if_pos c45] at H
                                                      have c45b0 := eq_true c45
                                                      have c45b1 : decide ((((⟨#[109, 111, 110, 116, 104, 32]⟩ : ByteArray) ++ (rdOf ByteArray.empty t140 x8_2)) ++ (⟨#[32]⟩ : ByteArray)).size + t145.size ≤ 9223372036854775807) = true := decide_eq_true c45
                                                      try have c45b2 : (9223372036854775807 < (((⟨#[109, 111, 110, 116, 104, 32]⟩ : ByteArray) ++ (rdOf ByteArray.empty t140 x8_2)) ++ (⟨#[32]⟩ : ByteArray)).size + t145.size) = False := eq_false (Nat.not_lt.2 c45)
                                                      have c45b3 : (9223372036854775807 < 6 + (rdOf ByteArray.empty t140 x8_2).size + 1 + t145.size) = False := eq_false (by have h_ := c45; have s0_ : (⟨#[109, 111, 110, 116, 104, 32]⟩ : ByteArray).size = 6 := rfl; have s1_ : (⟨#[32]⟩ : ByteArray).size = 1 := rfl; simp only [ByteArray.size_append, s0_, s1_] at h_; omega)
                                                      by_cases c46 : ((((⟨#[109, 111, 110, 116, 104, 32]⟩ : ByteArray) ++ (rdOf ByteArray.empty t140 x8_2)) ++ (⟨#[32]⟩ : ByteArray)) ++ t145).size + 1 ≤ 9223372036854775807
                                                      · rw [if_pos c46] at H
                                                        have c46b0 := eq_true c46
                                                        have c46b1 : decide (((((⟨#[109, 111, 110, 116, 104, 32]⟩ : ByteArray) ++ (rdOf ByteArray.empty t140 x8_2)) ++ (⟨#[32]⟩ : ByteArray)) ++ t145).size + 1 ≤ 9223372036854775807) = true := decide_eq_true c46
                                                        try have c46b2 : (9223372036854775807 < ((((⟨#[109, 111, 110, 116, 104, 32]⟩ : ByteArray) ++ (rdOf ByteArray.empty t140 x8_2)) ++ (⟨#[32]⟩ : ByteArray)) ++ t145).size + 1) = False := eq_false (Nat.not_lt.2 c46)
                                                        have c46b3 : (9223372036854775807 < 6 + (rdOf ByteArray.empty t140 x8_2).size + 1 + t145.size + 1) = False := eq_false (by have h_ := c46; have s0_ : (⟨#[109, 111, 110, 116, 104, 32]⟩ : ByteArray).size = 6 := rfl; have s1_ : (⟨#[32]⟩ : ByteArray).size = 1 := rfl; simp only [ByteArray.size_append, s0_, s1_] at h_; omega)
                                                        replace H := Option.bind_eq_some_iff.mp H
                                                        obtain ⟨⟨t146, t147, t148⟩, A470, H⟩ := H
                                                        replace H : (catalog_Text.l1 k2 t140 (wrap64 (x8_2 + 2)) t148) = some (r1, r2) := H
                                                        have A47 := Aside0.mk A470
                                                        clear A470
                                                        have H' := Aside0.mk H
                                                        clear H
                                                        obtain ⟨Ao48, co48, eo48⟩ := Kd.R_slice HO_7.out
                                                        subst eo48
                                                        try go_wp2
                                                        have n0_ := Aside0.mk (Kd.R_drew HO_7.out)
                                                        have n1_ := Aside0.mk (blk_drew BK128.out)
                                                        have n2_ := Aside0.mk (IsS133.drew HI130.out)
                                                        have n3_ := Aside0.mk (below_drew1 HB.out)
                                                        clear HO_7
                                                        clear BK128
                                                        clear HI130
                                                        clear HB
                                                        have HO_7 := n0_
                                                        have BK128 := n1_
                                                        have HI130 := n2_
                                                        have HB := n3_
                                                        clear n0_ n1_ n2_ n3_
                                                        have p143 : 0 ≤ (x8_2 : Int) := of_decide_eq_true (by first | (with_reducible assumption) | assumption)
                                                        have q143 : x8_2 < (t140.length : Int) := of_decide_eq_true (by first | (with_reducible assumption) | assumption)
                                                        obtain ⟨ad143, e143, hx143_0⟩ := Kd.at_string (Kd.R_reads' HO_7.out).2.2 x8_2 p143 q143
                                                        cases e143
                                                        replace p143 := eq_true p143
                                                        replace q143 := eq_true q143
                                                        have p144 : 0 ≤ ((ji42) : Int) := of_decide_eq_true (by first | (with_reducible assumption) | assumption)
                                                        have q144 : (ji42) < (t140.length : Int) := of_decide_eq_true (by first | (with_reducible assumption) | assumption)
                                                        obtain ⟨ad144, e144, hx144_0⟩ := Kd.at_string (Kd.R_reads' HO_7.out).2.2 (ji42) p144 q144
                                                        obtain rfl : ad143 = ad144 := (by injection e144)
                                                        replace p144 := eq_true p144
                                                        replace q144 := eq_true q144
                                                        refine start_ (n := 15) (S := fun w' => w'.cell? (ad143.add (x8_2).toNat) = some (.string (rdOf ByteArray.empty t140 x8_2)) ∧ w'.cell? (ad143.add ((ji42)).toNat) = some (.string (rdOf ByteArray.empty t140 (ji42)))) (ds := []) #[false, false, false, false, false, false, false, false, false, false, false, false, false, false, false] (by kernel_rfl) rfl rfl ⟨hx143_0, hx144_0⟩ (fun hHeld => ?_); refine with_tabW catalog_Text.tab11 catalog_Text.bits11 (fun HT_ HW_ => ?_)
                                                        generalize wr.drew = w49 at HO_7 BK128 HI130 HB hx143_0 hx144_0 hHeld ⊢
                                                        refine pure_ (i := 0) (N := some 51) (v := ?_) (a' := ?_) #[true, false, false, false, false, false, false, false, false, false, false, false, false, false, false] rfl rfl (any_of HT_.out (by kernel_rfl)) (fun _ _ _ h => h) (Or.inl ⟨by rfl, ?_⟩) ?_ ?_
                                                        rotate_left
                                                        · intro w'
                                                          go_simp
                                                          with_reducible rfl
                                                        rotate_left
                                                        · simp only [Act.put, List.setIfInBounds_toArray, List.set_cons_zero, List.set_cons_succ, i64_w, i32_w]
                                                          rfl
                                                        refine pure_ (i := 1) (N := some 52) (v := ?_) (a' := ?_) #[true, true, false, false, false, false, false, false, false, false, false, false, false, false, false] rfl rfl (any_of HT_.out (by kernel_rfl)) (fun _ _ _ h => h) (Or.inl ⟨by rfl, ?_⟩) ?_ ?_
                                                        rotate_left
                                                        · intro w'
                                                          go_simp
                                                          with_reducible rfl
                                                        rotate_left
                                                        · simp only [Act.put, List.setIfInBounds_toArray, List.set_cons_zero, List.set_cons_succ, i64_w, i32_w]
                                                          rfl
                                                        refine pure_ (i := 2) (N := some 53) (v := ?_) (a' := ?_) #[true, true, true, false, false, false, false, false, false, false, false, false, false, false, false] rfl rfl (any_of HT_.out (by kernel_rfl)) (fun _ _ _ h => h) (Or.inl ⟨by rfl, ?_⟩) ?_ ?_
                                                        rotate_left
                                                        · intro w'
                                                          go_simp
                                                          with_reducible rfl
                                                        rotate_left
                                                        · simp only [Act.put, List.setIfInBounds_toArray, List.set_cons_zero, List.set_cons_succ, i64_w, i32_w]
                                                          rfl
                                                        refine pure_ (i := 6) (N := some 57) (v := ?_) (a' := ?_) #[true, true, true, false, false, false, true, false, false, false, false, false, false, false, false] rfl rfl (any_of HT_.out (by kernel_rfl)) (fun _ _ _ h => h) (Or.inl ⟨by rfl, ?_⟩) ?_ ?_
                                                        rotate_left
                                                        · intro w'
                                                          go_simp
                                                          with_reducible rfl
                                                        rotate_left
                                                        · simp only [Act.put, List.setIfInBounds_toArray, List.set_cons_zero, List.set_cons_succ, i64_w, i32_w]
                                                          rfl
                                                        refine pure_ (i := 7) (N := some 58) (v := ?_) (a' := ?_) #[true, true, true, false, false, false, true, true, false, false, false, false, false, false, false] rfl rfl (any_of HT_.out (by kernel_rfl)) (fun _ _ _ h => h) (Or.inl ⟨by rfl, ?_⟩) ?_ ?_
                                                        rotate_left
                                                        · intro w'
                                                          go_simp
                                                          with_reducible rfl
                                                        rotate_left
                                                        · simp only [Act.put, List.setIfInBounds_toArray, List.set_cons_zero, List.set_cons_succ, i64_w, i32_w]
                                                          rfl
                                                        refine pure_ (i := 8) (N := some 59) (v := ?_) (a' := ?_) #[true, true, true, false, false, false, true, true, true, false, false, false, false, false, false] rfl rfl (any_of HT_.out (by kernel_rfl)) (fun _ _ _ h => h) (Or.inl ⟨by rfl, ?_⟩) ?_ ?_
                                                        rotate_left
                                                        · intro w'
                                                          go_simp
                                                          with_reducible rfl
                                                        rotate_left
                                                        · simp only [Act.put, List.setIfInBounds_toArray, List.set_cons_zero, List.set_cons_succ, i64_w, i32_w]
                                                          rfl
                                                        refine pure_ (i := 9) (N := some 60) (v := ?_) (a' := ?_) #[true, true, true, false, false, false, true, true, true, true, false, false, false, false, false] rfl rfl (any_of HT_.out (by kernel_rfl)) (fun _ _ _ h => h) (Or.inl ⟨by rfl, ?_⟩) ?_ ?_
                                                        rotate_left
                                                        · intro w'
                                                          go_simp
                                                          with_reducible rfl
                                                        rotate_left
                                                        · simp only [Act.put, List.setIfInBounds_toArray, List.set_cons_zero, List.set_cons_succ, i64_w, i32_w]
                                                          rfl
                                                        refine take_ (i := 3) (N := some 54) (v := ?_) (a' := ?_) #[true, true, true, true, false, false, true, true, true, true, false, false, false, false, false] rfl rfl (take_ofW HT_.out HW_.out (by kernel_rfl)) (fun _ _ _ h => h) (Or.inl ⟨by rfl, ?_⟩) hHeld ?_ ?_
                                                        rotate_left
                                                        · rintro w' ⟨s0, s1⟩
                                                          go_simp
                                                          with_reducible rfl
                                                        rotate_left
                                                        · simp only [Act.put, List.setIfInBounds_toArray, List.set_cons_zero, List.set_cons_succ, i64_w, i32_w]
                                                          rfl
                                                        refine pure_ (i := 4) (N := some 55) (v := ?_) (a' := ?_) #[true, true, true, true, true, false, true, true, true, true, false, false, false, false, false] rfl rfl (any_of HT_.out (by kernel_rfl)) (fun _ _ _ h => h) (Or.inl ⟨by rfl, ?_⟩) ?_ ?_
                                                        rotate_left
                                                        · intro w'
                                                          go_simp
                                                          with_reducible rfl
                                                        rotate_left
                                                        · simp only [Act.put, List.setIfInBounds_toArray, List.set_cons_zero, List.set_cons_succ, i64_w, i32_w]
                                                          rfl
                                                        refine pure_ (i := 5) (N := some 56) (v := ?_) (a' := ?_) #[true, true, true, true, true, true, true, true, true, true, false, false, false, false, false] rfl rfl (any_of HT_.out (by kernel_rfl)) (fun _ _ _ h => h) (Or.inl ⟨by rfl, ?_⟩) ?_ ?_
                                                        rotate_left
                                                        · intro w'
                                                          go_simp
                                                          with_reducible rfl
                                                        rotate_left
                                                        · simp only [Act.put, List.setIfInBounds_toArray, List.set_cons_zero, List.set_cons_succ, i64_w, i32_w]
                                                          rfl
                                                        refine take_ (i := 10) (N := some 61) (v := ?_) (a' := ?_) #[true, true, true, true, true, true, true, true, true, true, true, false, false, false, false] rfl rfl (take_ofW HT_.out HW_.out (by kernel_rfl)) (fun _ _ _ h => h) (Or.inl ⟨by rfl, ?_⟩) hHeld ?_ ?_
                                                        rotate_left
                                                        · rintro w' ⟨s0, s1⟩
                                                          go_simp
                                                          with_reducible rfl
                                                        rotate_left
                                                        · simp only [Act.put, List.setIfInBounds_toArray, List.set_cons_zero, List.set_cons_succ, i64_w, i32_w]
                                                          rfl
                                                        refine one_ (i := 11) (N := some 62) #[true, true, true, true, true, true, true, true, true, true, true, true, false, false, false] rfl rfl (one_of HT_.out (by kernel_rfl)) (by decide) (fun K hK => ?_)
                                                        refine goes_ Tryd.func19 (by kernel_rfl) rfl #[.string (rdOf ByteArray.empty t140 (ji42)), .string (⟨#[47]⟩ : ByteArray), .string (⟨#[32]⟩ : ByteArray)] (by rfl) rfl rfl (by (try simp only [List.map_toArray, List.map_cons, List.map_nil]); first | done | (simp only [hji42]; rfl) | rfl | (simp only [List.length_drop, List.length_take]; rfl)) ?_
                                                        with_reducible refine (strings_ReplaceAll.calls (rdOf ByteArray.empty t140 (ji42)) (⟨#[47]⟩ : ByteArray) (⟨#[32]⟩ : ByteArray) t145 _ (hM.below (by repeat (first | (with_reducible first | exact HB.out | apply below_alloc | apply pw_below_drewN | apply below_drew1) | exact HB.out)) (Nat.le_refl _)) A44.out).mono ?_
                                                        rintro e w50 ⟨rfl, hb⟩
                                                        have HS0_ := (hb.cell (World.block_lt_of_cell? _ _ (hHeld.1))).trans (hHeld.1)
                                                        have HS1_ := (hb.cell (World.block_lt_of_cell? _ _ (hHeld.2))).trans (hHeld.2)
                                                        refine ⟨_, rfl, ?_⟩
                                                        have n0_ := Aside0.mk (Kd.R_below (by (with_reducible repeat (first | apply Kd.R_alloc | apply Kd.R_drewN | apply Kd.R_drew)); exact HO_7.out) hb)
                                                        have n1_ := Aside0.mk (blk_below (g := gb128) (o := .cells #[.string ((rd_T42 t124 x11_1).f0), .int .i64 ((rd_T42 t124 x11_1).f1), .int .i64 ((rd_T42 t124 x11_1).f2), .string ((rd_T42 t124 x11_1).f3), .int .u8 ((rd_T42 t124 x11_1).f4)] 42 (0, 0)) (by (with_reducible repeat (first | refine blk_drewN ?_ _ | refine blk_drew ?_ | refine blk_alloc ?_ _)); exact BK128.out) hb)
                                                        have n2_ := Aside0.mk (IsS133.below (by repeat (first | (with_reducible first | exact HI130.out | apply IsS133.alloc | apply IsS133.drewN | apply IsS133.drew | apply IsS133.set_0 | refine IsS133.far ?_ NB130_128.out _) | exact HI130.out)) hb)
                                                        have n3_ := Aside0.mk (below_step (by repeat (first | (with_reducible first | exact HB.out | apply below_alloc | apply pw_below_drewN | apply below_drew1 | refine below_set ?_ (IsS133.ge HI130.out) | refine below_set ?_ GE128.out) | exact HB.out)) hb)
                                                        clear HO_7
                                                        clear BK128
                                                        clear HI130
                                                        clear HB
                                                        have HO_7 := n0_
                                                        have BK128 := n1_
                                                        have HI130 := n2_
                                                        have HB := n3_
                                                        clear n0_ n1_ n2_ n3_
                                                        (try clear hb)
                                                        (try clear hb2)
                                                        (try clear hk)
                                                        (try clear hi)
                                                        refine hK.out _ _ ⟨HS0_, HS1_⟩ (fun hHeld => ?_)
                                                        clear hK K
                                                        refine norm_ (a' := ?_) ?_ ?_
                                                        rotate_left
                                                        · show Act.put _ (some 62) _ = _
                                                          simp only [Act.put, List.setIfInBounds_toArray, List.set_cons_zero, List.set_cons_succ, i64_w, i32_w]
                                                          rfl
                                                        refine pure_ (i := 12) (N := some 63) (v := ?_) (a' := ?_) #[true, true, true, true, true, true, true, true, true, true, true, true, true, false, false] rfl rfl (any_of HT_.out (by kernel_rfl)) (fun _ _ _ h => h) (Or.inl ⟨by rfl, ?_⟩) ?_ ?_
                                                        rotate_left
                                                        · intro w'
                                                          go_simp
                                                          with_reducible rfl
                                                        rotate_left
                                                        · simp only [Act.put, List.setIfInBounds_toArray, List.set_cons_zero, List.set_cons_succ, i64_w, i32_w]
                                                          rfl
                                                        refine pure_ (i := 13) (N := some 64) (v := ?_) (a' := ?_) #[true, true, true, true, true, true, true, true, true, true, true, true, true, true, false] rfl rfl (any_of HT_.out (by kernel_rfl)) (fun _ _ _ h => h) (Or.inl ⟨by rfl, ?_⟩) ?_ ?_
                                                        rotate_left
                                                        · intro w'
                                                          go_simp
                                                          with_reducible rfl
                                                        rotate_left
                                                        · simp only [Act.put, List.setIfInBounds_toArray, List.set_cons_zero, List.set_cons_succ, i64_w, i32_w]
                                                          rfl
                                                        refine one_ (i := 14) (N := some 65) #[true, true, true, true, true, true, true, true, true, true, true, true, true, true, true] rfl rfl (one_of HT_.out (by kernel_rfl)) (by decide) (fun K hK => ?_)
                                                        refine goes_ Tryd.func15 (by kernel_rfl) rfl #[.pointer (some ⟨g130, 0, none⟩), .string (((((⟨#[109, 111, 110, 116, 104, 32]⟩ : ByteArray) ++ (rdOf ByteArray.empty t140 x8_2)) ++ (⟨#[32]⟩ : ByteArray)) ++ t145) ++ (⟨#[10]⟩ : ByteArray))] (by rfl) rfl rfl (by (try simp only [List.map_toArray, List.map_cons, List.map_nil]); first | done | rfl | (simp only [List.length_drop, List.length_take]; rfl)) ?_
                                                        with_reducible refine (strings_Builder_WriteString.calls g130 t135 (((((⟨#[109, 111, 110, 116, 104, 32]⟩ : ByteArray) ++ (rdOf ByteArray.empty t140 x8_2)) ++ (⟨#[32]⟩ : ByteArray)) ++ t145) ++ (⟨#[10]⟩ : ByteArray)) t146 t147 t148 w _ ?side1 ?side2 A47.out).mono ?_
                                                        (case side1 => repeat (first | (with_reducible first | exact HI130.out | apply IsS133.alloc | apply IsS133.drewN | apply IsS133.drew | apply IsS133.set_0 | refine IsS133.far ?_ NB130_128.out _) | exact HI130.out))
                                                        (case side2 => repeat (first | (with_reducible first | exact HB.out | apply below_alloc | apply pw_below_drewN | apply below_drew1 | refine below_set ?_ (IsS133.ge HI130.out) | refine below_set ?_ GE128.out) | exact HB.out))
                                                        rintro e w51 ⟨rfl, hi, hb, hk⟩
                                                        have HS0_ := keep_cellB133 hk (hHeld.1) (by first | (rw [add_block]; exact own_blkB133 (IsS133.own_ne HI130.out HO_7.out (by decide))) | (show (Addr.add _ _).block ≠ _; rw [add_block]; exact own_blkB133 (IsS133.own_ne HI130.out HO_7.out (by decide))) | exact own_blkB133 (IsS133.own_ne HI130.out HO_7.out (by decide)))
                                                        have HS1_ := keep_cellB133 hk (hHeld.2) (by first | (rw [add_block]; exact own_blkB133 (IsS133.own_ne HI130.out HO_7.out (by decide))) | (show (Addr.add _ _).block ≠ _; rw [add_block]; exact own_blkB133 (IsS133.own_ne HI130.out HO_7.out (by decide))) | exact own_blkB133 (IsS133.own_ne HI130.out HO_7.out (by decide)))
                                                        refine ⟨_, rfl, ?_⟩
                                                        have n0_ := Aside0.mk (Kd.R_mono (R_keepB133 (IsS133.apart (show IsS133 w _ g130 t135 from by repeat (first | (with_reducible first | exact HI130.out | apply IsS133.alloc | apply IsS133.drewN | apply IsS133.drew | apply IsS133.set_0 | refine IsS133.far ?_ NB130_128.out _) | exact HI130.out)) (by (with_reducible repeat (first | apply Kd.R_alloc | apply Kd.R_drewN | apply Kd.R_drew)); exact HO_7.out) (by decide)) hk (fun _ h => h.2)) (fun _ h => h.1))
                                                        have n1_ := Aside0.mk (KeepB133.blk hk (g' := gb128) (o := .cells #[.string ((rd_T42 t124 x11_1).f0), .int .i64 ((rd_T42 t124 x11_1).f1), .int .i64 ((rd_T42 t124 x11_1).f2), .string ((rd_T42 t124 x11_1).f3), .int .u8 ((rd_T42 t124 x11_1).f4)] 42 (0, 0)) (by (with_reducible repeat (first | refine blk_drewN ?_ _ | refine blk_drew ?_ | refine blk_alloc ?_ _)); (try refine blk_far ?_ NB128_130.out _); (try refine blk_far ?_ NB128_130.out _); (with_reducible repeat (first | refine blk_drewN ?_ _ | refine blk_drew ?_ | refine blk_alloc ?_ _)); exact BK128.out) NB128_130.out (by simp))
                                                        have n2_ := Aside0.mk (hb)
                                                        have n3_ := Aside0.mk (hi)
                                                        clear HO_7
                                                        clear BK128
                                                        clear HB
                                                        clear HI130
                                                        have HO_7 := n0_
                                                        have BK128 := n1_
                                                        have HB := n2_
                                                        have HI130 := n3_
                                                        clear n0_ n1_ n2_ n3_
                                                        (try clear hb)
                                                        (try clear hb2)
                                                        (try clear hk)
                                                        (try clear hi)
                                                        (try simp only [errW_none, errW_some])
                                                        refine hK.out _ _ ⟨HS0_, HS1_⟩ (fun hHeld => ?_)
                                                        clear hK K
                                                        refine norm_ (a' := ?_) ?_ ?_
                                                        rotate_left
                                                        · show Act.put _ (some 65) _ = _
                                                          simp only [Act.put, List.setIfInBounds_toArray, List.set_cons_zero, List.set_cons_succ, i64_w, i32_w]
                                                          rfl
                                                        refine done_ (done_of HT_.out (by kernel_rfl)) ?_
                                                        try go_wp2
                                                        go_roundg k2
                                                        case measure => have := HK1.out; have := HK2.out; omega
                                                        case rel => exact ⟨(wrap64 (x8_2 + 2)), _, (by first | rfl | (simp; done) | (simp [*]; done)), H', ⟨by have := HK1.out; have := HK2.out; omega⟩, ⟨by (with_reducible repeat (first | apply Kd.R_alloc | apply Kd.R_drewN | apply Kd.R_drew)); exact HO_7.out⟩, ⟨by (with_reducible repeat (first | refine blk_drewN ?_ _ | refine blk_drew ?_ | refine blk_alloc ?_ _)); exact BK128.out⟩, ⟨by repeat (first | (with_reducible first | exact HI130.out | apply IsS133.alloc | apply IsS133.drewN | apply IsS133.drew | apply IsS133.set_0 | refine IsS133.far ?_ NB130_128.out _) | exact HI130.out)⟩, ⟨by repeat (first | (with_reducible first | exact HB.out | apply below_alloc | apply pw_below_drewN | apply below_drew1 | refine below_set ?_ (IsS133.ge HI130.out) | refine below_set ?_ GE128.out) | exact HB.out)⟩⟩
                                                      · rw [if_neg c46] at H
                                                        exact absurd H (by simp)
                                                    · rw [if_neg c45] at H
                                                      exact absurd H (by simp)
                                                  · rw [if_neg c43] at H
                                                    exact absurd H (by simp)
                                                · rw [if_neg c41] at H
                                                  exact absurd H (by simp)
                                              · rw [if_neg c40] at H
                                                exact absurd H (by simp)
                                            · rw [if_neg c39] at H
                                              exact absurd H (by simp)
                                          · rw [if_neg c38] at H
                                            exact absurd H (by simp)
                                        · rw [if_neg c37] at H
                                          have c37b0 : decide ((wrap64 (x8_2 + 1)) < (t140.length : Int)) = false := decide_eq_false c37
                                          clear c37
                                          replace H := Option.bind_eq_some_iff.mp H
                                          obtain ⟨⟨t149, t150⟩, A520, H⟩ := H
                                          replace H : (some (t149, 0)) = some (r1, r2) := H
                                          have A52 := Aside0.mk A520
                                          clear A520
                                          simp only [Option.some.injEq, Prod.mk.injEq] at H
                                          obtain ⟨rfl, rfl⟩ := H
                                          obtain ⟨Ao53, co53, eo53⟩ := Kd.R_slice HO_7.out
                                          subst eo53
                                          go_wp2_with (first | ((with_reducible refine gate_callee (f := 20) rfl ?_); refine goesL_ (some 66) rfl rfl Tryd.func20 (by kernel_rfl) rfl #[.pointer (some ⟨g130, 0, none⟩)] rfl (by (try simp only [List.map_toArray, List.map_cons, List.map_nil]); first | done | rfl | (simp only [List.length_drop, List.length_take]; rfl)) ?_; (with_reducible refine (strings_Builder_String.calls g130 t135 t149 t150 w _ ?side1 ?side2 A52.out).mono ?_); (case side1 => repeat (first | (with_reducible first | exact HI130.out | apply IsS133.alloc | apply IsS133.drewN | apply IsS133.drew | apply IsS133.set_0 | refine IsS133.far ?_ NB130_128.out _) | exact HI130.out)); (case side2 => repeat (first | (with_reducible first | exact HB.out | apply below_alloc | apply pw_below_drewN | apply below_drew1 | refine below_set ?_ (IsS133.ge HI130.out) | refine below_set ?_ GE128.out) | exact HB.out)); rintro e w54 ⟨rfl, hi, hb, hk⟩; refine ⟨_, rfl, ?_⟩; have n0_ := Aside0.mk (Kd.R_mono (R_keepB133 (IsS133.apart (show IsS133 w _ g130 t135 from by repeat (first | (with_reducible first | exact HI130.out | apply IsS133.alloc | apply IsS133.drewN | apply IsS133.drew | apply IsS133.set_0 | refine IsS133.far ?_ NB130_128.out _) | exact HI130.out)) (by (with_reducible repeat (first | apply Kd.R_alloc | apply Kd.R_drewN | apply Kd.R_drew)); exact HO_7.out) (by decide)) hk (fun _ h => h.2)) (fun _ h => h.1)); have n1_ := Aside0.mk (KeepB133.blk hk (g' := gb128) (o := .cells #[.string ((rd_T42 t124 x11_1).f0), .int .i64 ((rd_T42 t124 x11_1).f1), .int .i64 ((rd_T42 t124 x11_1).f2), .string ((rd_T42 t124 x11_1).f3), .int .u8 ((rd_T42 t124 x11_1).f4)] 42 (0, 0)) (by (with_reducible repeat (first | refine blk_drewN ?_ _ | refine blk_drew ?_ | refine blk_alloc ?_ _)); (try refine blk_far ?_ NB128_130.out _); (try refine blk_far ?_ NB128_130.out _); (with_reducible repeat (first | refine blk_drewN ?_ _ | refine blk_drew ?_ | refine blk_alloc ?_ _)); exact BK128.out) NB128_130.out (by simp)); have n2_ := Aside0.mk (hb); have n3_ := Aside0.mk (hi); clear HO_7; clear BK128; clear HB; clear HI130; have HO_7 := n0_; have BK128 := n1_; have HB := n2_; have HI130 := n3_; clear n0_ n1_ n2_ n3_; (try clear hb); (try clear hb2); (try clear hk); (try clear hi)))
                                          go_ret2
                                          exact ⟨by first | rfl | (simp [errW_none, errW_some] <;> rfl) | (simp only [← hji22]; first | rfl | (simp [errW_none, errW_some] <;> rfl)) | (simp [*, errW_none, errW_some] <;> rfl), by repeat (first | (with_reducible first | exact HB.out | apply below_alloc | apply pw_below_drewN | apply below_drew1 | refine below_set ?_ (IsS133.ge HI130.out) | refine below_set ?_ GE128.out) | exact HB.out)⟩
                                · rw [if_neg c24] at H
                                  exact absurd H (by simp)
                              · rw [if_neg c23] at H
                                exact absurd H (by simp)
                            · rw [if_neg c19] at H
                              exact absurd H (by simp)
                          · rw [if_neg c18] at H
                            exact absurd H (by simp)
                        · rw [if_neg c17] at H
                          exact absurd H (by simp)
                      · rw [if_neg c16] at H
                        exact absurd H (by simp)
                    · rw [if_neg c14] at H
                      exact absurd H (by simp)
                  · rw [if_neg c13] at H
                    exact absurd H (by simp)
                · rw [if_neg c11] at H
                  exact absurd H (by simp)
              · rw [if_neg c10] at H
                exact absurd H (by simp)
            · rw [if_neg c8] at H
              have c8b0 : (((rd_T42 t124 x11_1).f0).toList == a0.toList) = false := beq_eq_false_iff_ne.mpr c8
              have c8b1 : (((rd_T42 t124 x11_1).f0).toList != a0.toList) = true := bne_iff_ne.mpr c8
              have H' := Aside0.mk H
              clear H
              have p127 : 0 ≤ (x11_1 : Int) := of_decide_eq_true (by first | (with_reducible assumption) | assumption)
              have q127 : x11_1 < (t124.length : Int) := of_decide_eq_true (by first | (with_reducible assumption) | assumption)
              obtain ⟨ad127, e127, hx127_0, hx127_1, hx127_2, hx127_3, hx127_4⟩ := at_T42 (Kd.R_reads' HO_9.out).2.2 x11_1 p127 q127
              cases e127
              replace p127 := eq_true p127
              replace q127 := eq_true q127
              go_wp2_with (first | ((with_reducible refine gate_dst (N := 5) rfl ?_); refine box_event ?hg (N := 5) ?hd (cs := #[.string (⟨#[]⟩ : ByteArray), .int .i64 0, .int .i64 0, .string (⟨#[]⟩ : ByteArray), .int .u8 0]) (t := 42) ?hr ?_; (case hd => rfl); (case hg => rfl); (case hr => first | (go_simp; done) | (go_simp; rfl)); intro gb128 hg w55 hbox hb; have n0_ := Aside0.mk (Kd.R_below (Kd.R_elderB (by (with_reducible repeat (first | apply Kd.R_alloc | apply Kd.R_drewN | apply Kd.R_drew)); exact HO_9.out) gb128 (Nat.le_of_eq hg.symm)) hb); have n1_ := Aside0.mk (below_step (by repeat (first | (with_reducible first | exact HB.out | apply below_alloc | apply pw_below_drewN | apply below_drew1) | exact HB.out)) hb); have n2_ := Aside0.mk (hbox); have n3_ := Aside0.mk ((by rw [hg]; exact (below_size (by repeat (first | (with_reducible first | exact HB.out | apply below_alloc | apply pw_below_drewN | apply below_drew1) | exact HB.out))) : w.heap.size ≤ gb128)); have n4_ := Aside0.mk ((by rw [hg]; exact (below_size (by repeat (first | (with_reducible first | exact HB.out | apply below_alloc | apply pw_below_drewN | apply below_drew1) | exact HB.out))) : w.heap.size ≤ gb128)); clear HO_9; clear HB; have HO_9 := n0_; have HB := n1_; have BK128 := n2_; have GW128 := n3_; have GE128 := n4_; clear n0_ n1_ n2_ n3_ n4_; clear hb hbox hg; have hcz56_0 : w55.cell? ⟨gb128, 0, none⟩ = some (.string (⟨#[]⟩ : ByteArray)) := (blk_cell BK128.out 0).trans rfl; have hcz56_1 : w55.cell? ⟨gb128, 1, none⟩ = some (.int .i64 0) := (blk_cell BK128.out 1).trans rfl; have hcz56_2 : w55.cell? ⟨gb128, 2, none⟩ = some (.int .i64 0) := (blk_cell BK128.out 2).trans rfl; have hcz56_3 : w55.cell? ⟨gb128, 3, none⟩ = some (.string (⟨#[]⟩ : ByteArray)) := (blk_cell BK128.out 3).trans rfl; have hcz56_4 : w55.cell? ⟨gb128, 4, none⟩ = some (.int .u8 0) := (blk_cell BK128.out 4).trans rfl; have hfz56_0 := blk_frozen BK128.out 0; have hfz56_1 := blk_frozen BK128.out 1; have hfz56_2 := blk_frozen BK128.out 2; have hfz56_3 := blk_frozen BK128.out 3; have hfz56_4 := blk_frozen BK128.out 4))
              go_roundg k1
              case measure => have := HK1.out; omega
              case rel => exact ⟨(wrap64 (x11_1 + 1)), (by first | rfl | (simp; done) | (simp [*]; done)), H', ⟨by have := HK1.out; omega⟩, ⟨by (with_reducible repeat (first | apply Kd.R_alloc | apply Kd.R_drewN | apply Kd.R_drew)); exact Kd.R_mono (Kd.R_far (p := ⟨gb128, 4, none⟩) (Kd.R_far (p := ⟨gb128, 3, none⟩) (Kd.R_far (p := ⟨gb128, 2, none⟩) (Kd.R_far (p := ⟨gb128, 1, none⟩) (Kd.R_far (p := ⟨gb128, 0, none⟩) (Kd.R_mono HO_9.out (fun k_ hk => (⟨hk, hk.2⟩ : _ ∧ k_ ≠ gb128))) (fun _ hk => hk.2) (.string ((rd_T42 t124 x11_1).f0))) (fun _ hk => hk.2) (.int .i64 ((rd_T42 t124 x11_1).f1))) (fun _ hk => hk.2) (.int .i64 ((rd_T42 t124 x11_1).f2))) (fun _ hk => hk.2) (.string ((rd_T42 t124 x11_1).f3))) (fun _ hk => hk.2) (.int .u8 ((rd_T42 t124 x11_1).f4))) (fun _ hk => trivial)⟩, ⟨by repeat (first | (with_reducible first | exact HB.out | apply below_alloc | apply pw_below_drewN | apply below_drew1 | refine below_set ?_ GE128.out) | exact HB.out)⟩⟩
          · rw [if_neg c7] at H
            exact absurd H (by simp)
        · rw [if_neg c6] at H
          exact absurd H (by simp)
      · rw [if_neg c5] at H
        have c5b0 : decide (x11_1 < (t124.length : Int)) = false := decide_eq_false c5
        clear c5
        simp only [Option.some.injEq, Prod.mk.injEq] at H
        obtain ⟨rfl, rfl⟩ := H
        go_wp2
        go_ret2
        exact ⟨by first | rfl | (simp [errW_none, errW_some] <;> rfl) | (simp [*, errW_none, errW_some] <;> rfl), by repeat (first | (with_reducible first | exact HB.out | apply below_alloc | apply pw_below_drewN | apply below_drew1) | exact HB.out)⟩

end Go.Proofs.YtbcbghbmjgcbmaaDoor.PReformChecks
