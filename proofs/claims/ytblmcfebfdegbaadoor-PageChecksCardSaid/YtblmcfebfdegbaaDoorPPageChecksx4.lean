/- The walks of the functions of this part. The proof of ephemerisref1_PageTableError (in part) is written by hand; the other ones are as the kit's print tells them. -/
-- The walks of the law's functions, told by a program.
import Derived.Test.YtblmcfebfdegbaaDoorPPageChecksx0
import Derived.Test.YtblmcfebfdegbaaDoorPPageChecksx3
namespace Go.Proofs.YtblmcfebfdegbaaDoor.PPageChecks
open Go.RowKit Go.Proofs.YtblmcfebfdegbaaDoorW.PrintWords Go.Proofs.YtblmcfebfdegbaaDoorW.PrintLast Go.Proofs.YtblmcfebfdegbaaDoorW.PrintMore
attribute [local go_sem] max2_int min2_int max_two min_two max_three min_three max_four min_four   -- for this text's walks alone
set_option linter.unusedVariables false
set_option linter.unusedSimpArgs false

/-! ### ephemerisref1_PageTableError: function 8 -/
mutual
def ephemerisref1_PageTableError.j0 : Nat → Bool → List ByteArray → List (List ByteArray) → Option (Int)
  | 0, _, _, _ => none
  | k + 1, x27, x141000, x141001 => if x27 = true then (some 2) else (ephemerisref1_PageTableError.l0 k x141001 (x141001.length : Int) 0 x141000 x141001)
def ephemerisref1_PageTableError.l0 : Nat → List (List ByteArray) → Int → Int → List ByteArray → List (List ByteArray) → Option (Int)
  | 0, _, _, _, _, _ => none
  | k + 1, x29, x30, x31, x141000, x141001 => if x31 < x30 then (if 0 ≤ x31 then (if x31 < (x29.length : Int) then (if ((rd_L2 x29 x31).length : Int) = (x141000.length : Int) then (ephemerisref1_PageTableError.l0 k x29 x30 (wrap64 (x31 + 1)) x141000 x141001) else (some 8)) else (none)) else (none)) else (ephemerisref1_PageTableError.l1 k x141000 (x141000.length : Int) 0 x141000 x141001)
def ephemerisref1_PageTableError.l1 : Nat → List ByteArray → Int → Int → List ByteArray → List (List ByteArray) → Option (Int)
  | 0, _, _, _, _, _ => none
  | k + 1, x43, x44, x45, x141000, x141001 => if x45 < x44 then (if 0 ≤ x45 then (if x45 < (x43.length : Int) then ((ephemerisref1_CellError.f (rdOf ByteArray.empty x43 x45)).bind fun t144 => (if t144 = 0 then (ephemerisref1_PageTableError.l1 k x43 x44 (wrap64 (x45 + 1)) x141000 x141001) else (some t144))) else (none)) else (none)) else (ephemerisref1_PageTableError.l2 k x141001 (x141001.length : Int) 0 x141000 x141001)
def ephemerisref1_PageTableError.l2 : Nat → List (List ByteArray) → Int → Int → List ByteArray → List (List ByteArray) → Option (Int)
  | 0, _, _, _, _, _ => none
  | k + 1, x56, x57, x58, x141000, x141001 => if x58 < x57 then (if 0 ≤ x58 then (if x58 < (x56.length : Int) then (ephemerisref1_PageTableError.l3 k x56 x57 x58 (rd_L2 x56 x58) ((rd_L2 x56 x58).length : Int) 0 x141000 x141001) else (none)) else (none)) else (ephemerisref1_PageTableError.l4 k x141000 (x141000.length : Int) 0 x141000 x141001)
def ephemerisref1_PageTableError.l3 : Nat → List (List ByteArray) → Int → Int → List ByteArray → Int → Int → List ByteArray → List (List ByteArray) → Option (Int)
  | 0, _, _, _, _, _, _, _, _ => none
  | k + 1, x56, x57, x58, x62, x63, x64, x141000, x141001 => if x64 < x63 then (if 0 ≤ x64 then (if x64 < (x62.length : Int) then ((ephemerisref1_CellError.f (rdOf ByteArray.empty x62 x64)).bind fun t147 => (if t147 = 0 then (ephemerisref1_PageTableError.l3 k x56 x57 x58 x62 x63 (wrap64 (x64 + 1)) x141000 x141001) else (some t147))) else (none)) else (none)) else (ephemerisref1_PageTableError.l2 k x56 x57 (wrap64 (x58 + 1)) x141000 x141001)
def ephemerisref1_PageTableError.l4 : Nat → List ByteArray → Int → Int → List ByteArray → List (List ByteArray) → Option (Int)
  | 0, _, _, _, _, _ => none
  | k + 1, x76, x77, x78, x141000, x141001 => if x78 < x77 then (if 0 ≤ x78 then (if x78 < (x76.length : Int) then (if (rdOf ByteArray.empty x76 x78).toList = ([] : List UInt8) then (some 8) else (if x78 ≤ (x141000.length : Int) then (ephemerisref1_PageTableError.l5 k (rdOf ByteArray.empty x76 x78) x76 x77 x78 (x141000.take (x78 : Int).toNat) ((x141000.take (x78 : Int).toNat).length : Int) 0 x141000 x141001) else (none))) else (none)) else (none)) else (some 0)
def ephemerisref1_PageTableError.l5 : Nat → ByteArray → List ByteArray → Int → Int → List ByteArray → Int → Int → List ByteArray → List (List ByteArray) → Option (Int)
  | 0, _, _, _, _, _, _, _, _, _ => none
  | k + 1, x14, x76, x77, x78, x88, x89, x90, x141000, x141001 => if x90 < x89 then (if 0 ≤ x90 then (if x90 < (x88.length : Int) then (if (rdOf ByteArray.empty x88 x90).toList = x14.toList then (some 7) else (ephemerisref1_PageTableError.l5 k x14 x76 x77 x78 x88 x89 (wrap64 (x90 + 1)) x141000 x141001)) else (none)) else (none)) else (ephemerisref1_PageTableError.l4 k x76 x77 (wrap64 (x78 + 1)) x141000 x141001)
end
def ephemerisref1_PageTableError.f (k : Nat) (l0_0 : List ByteArray) (l0_1 : List (List ByteArray)) : Option (Int) := (ephemerisref1_In.f (l0_0.length : Int) 1 12).bind fun t141 => (if t141 = true then (ephemerisref1_PageTableError.j0 k (decide ((l0_1.length : Int) > 400)) l0_0 l0_1) else (ephemerisref1_PageTableError.j0 k true l0_0 l0_1))
theorem ephemerisref1_PageTableError.mono_l : ∀ k, (∀ y0 y1 y2, LeO (ephemerisref1_PageTableError.j0 k y0 y1 y2) (ephemerisref1_PageTableError.j0 (k + 1) y0 y1 y2)) ∧ (∀ y0 y1 y2 y3 y4, LeO (ephemerisref1_PageTableError.l0 k y0 y1 y2 y3 y4) (ephemerisref1_PageTableError.l0 (k + 1) y0 y1 y2 y3 y4)) ∧ (∀ y0 y1 y2 y3 y4, LeO (ephemerisref1_PageTableError.l1 k y0 y1 y2 y3 y4) (ephemerisref1_PageTableError.l1 (k + 1) y0 y1 y2 y3 y4)) ∧ (∀ y0 y1 y2 y3 y4, LeO (ephemerisref1_PageTableError.l2 k y0 y1 y2 y3 y4) (ephemerisref1_PageTableError.l2 (k + 1) y0 y1 y2 y3 y4)) ∧ (∀ y0 y1 y2 y3 y4 y5 y6 y7, LeO (ephemerisref1_PageTableError.l3 k y0 y1 y2 y3 y4 y5 y6 y7) (ephemerisref1_PageTableError.l3 (k + 1) y0 y1 y2 y3 y4 y5 y6 y7)) ∧ (∀ y0 y1 y2 y3 y4, LeO (ephemerisref1_PageTableError.l4 k y0 y1 y2 y3 y4) (ephemerisref1_PageTableError.l4 (k + 1) y0 y1 y2 y3 y4)) ∧ (∀ y0 y1 y2 y3 y4 y5 y6 y7 y8, LeO (ephemerisref1_PageTableError.l5 k y0 y1 y2 y3 y4 y5 y6 y7 y8) (ephemerisref1_PageTableError.l5 (k + 1) y0 y1 y2 y3 y4 y5 y6 y7 y8))
  | 0 => ⟨fun _ _ _ r h => by simp [ephemerisref1_PageTableError.j0] at h, fun _ _ _ _ _ r h => by simp [ephemerisref1_PageTableError.l0] at h, fun _ _ _ _ _ r h => by simp [ephemerisref1_PageTableError.l1] at h, fun _ _ _ _ _ r h => by simp [ephemerisref1_PageTableError.l2] at h, fun _ _ _ _ _ _ _ _ r h => by simp [ephemerisref1_PageTableError.l3] at h, fun _ _ _ _ _ r h => by simp [ephemerisref1_PageTableError.l4] at h, fun _ _ _ _ _ _ _ _ _ r h => by simp [ephemerisref1_PageTableError.l5] at h⟩
  | k + 1 => by
    obtain ⟨ih0, ih1, ih2, ih3, ih4, ih5, ih6⟩ := ephemerisref1_PageTableError.mono_l k
    refine ⟨?_, ?_, ?_, ?_, ?_, ?_, ?_⟩
    · intro y0 y1 y2
      unfold ephemerisref1_PageTableError.j0
      repeat' first
      | (with_reducible exact ih0 _ _ _)
      | (with_reducible exact ih1 _ _ _ _ _)
      | (with_reducible exact ih2 _ _ _ _ _)
      | (with_reducible exact ih3 _ _ _ _ _)
      | (with_reducible exact ih4 _ _ _ _ _ _ _ _)
      | (with_reducible exact ih5 _ _ _ _ _)
      | (with_reducible exact ih6 _ _ _ _ _ _ _ _ _)
      | (with_reducible exact LeO.refl _)
      | (with_reducible exact LeO.none _)
      | (with_reducible refine LeO.ite ?_ ?_)
      | (with_reducible refine LeO.bind ?_ (fun _ => ?_))
      | exact ih0 _ _ _
      | exact ih1 _ _ _ _ _
      | exact ih2 _ _ _ _ _
      | exact ih3 _ _ _ _ _
      | exact ih4 _ _ _ _ _ _ _ _
      | exact ih5 _ _ _ _ _
      | exact ih6 _ _ _ _ _ _ _ _ _
      | exact LeO.none _
      | refine LeO.ite ?_ ?_
      | refine LeO.bind ?_ (fun _ => ?_)
    · intro y0 y1 y2 y3 y4
      unfold ephemerisref1_PageTableError.l0
      repeat' first
      | (with_reducible exact ih0 _ _ _)
      | (with_reducible exact ih1 _ _ _ _ _)
      | (with_reducible exact ih2 _ _ _ _ _)
      | (with_reducible exact ih3 _ _ _ _ _)
      | (with_reducible exact ih4 _ _ _ _ _ _ _ _)
      | (with_reducible exact ih5 _ _ _ _ _)
      | (with_reducible exact ih6 _ _ _ _ _ _ _ _ _)
      | (with_reducible exact LeO.refl _)
      | (with_reducible exact LeO.none _)
      | (with_reducible refine LeO.ite ?_ ?_)
      | (with_reducible refine LeO.bind ?_ (fun _ => ?_))
      | exact ih0 _ _ _
      | exact ih1 _ _ _ _ _
      | exact ih2 _ _ _ _ _
      | exact ih3 _ _ _ _ _
      | exact ih4 _ _ _ _ _ _ _ _
      | exact ih5 _ _ _ _ _
      | exact ih6 _ _ _ _ _ _ _ _ _
      | exact LeO.none _
      | refine LeO.ite ?_ ?_
      | refine LeO.bind ?_ (fun _ => ?_)
    · intro y0 y1 y2 y3 y4
      unfold ephemerisref1_PageTableError.l1
      repeat' first
      | (with_reducible exact ih0 _ _ _)
      | (with_reducible exact ih1 _ _ _ _ _)
      | (with_reducible exact ih2 _ _ _ _ _)
      | (with_reducible exact ih3 _ _ _ _ _)
      | (with_reducible exact ih4 _ _ _ _ _ _ _ _)
      | (with_reducible exact ih5 _ _ _ _ _)
      | (with_reducible exact ih6 _ _ _ _ _ _ _ _ _)
      | (with_reducible exact LeO.refl _)
      | (with_reducible exact LeO.none _)
      | (with_reducible refine LeO.ite ?_ ?_)
      | (with_reducible refine LeO.bind ?_ (fun _ => ?_))
      | exact ih0 _ _ _
      | exact ih1 _ _ _ _ _
      | exact ih2 _ _ _ _ _
      | exact ih3 _ _ _ _ _
      | exact ih4 _ _ _ _ _ _ _ _
      | exact ih5 _ _ _ _ _
      | exact ih6 _ _ _ _ _ _ _ _ _
      | exact LeO.none _
      | refine LeO.ite ?_ ?_
      | refine LeO.bind ?_ (fun _ => ?_)
    · intro y0 y1 y2 y3 y4
      unfold ephemerisref1_PageTableError.l2
      repeat' first
      | (with_reducible exact ih0 _ _ _)
      | (with_reducible exact ih1 _ _ _ _ _)
      | (with_reducible exact ih2 _ _ _ _ _)
      | (with_reducible exact ih3 _ _ _ _ _)
      | (with_reducible exact ih4 _ _ _ _ _ _ _ _)
      | (with_reducible exact ih5 _ _ _ _ _)
      | (with_reducible exact ih6 _ _ _ _ _ _ _ _ _)
      | (with_reducible exact LeO.refl _)
      | (with_reducible exact LeO.none _)
      | (with_reducible refine LeO.ite ?_ ?_)
      | (with_reducible refine LeO.bind ?_ (fun _ => ?_))
      | exact ih0 _ _ _
      | exact ih1 _ _ _ _ _
      | exact ih2 _ _ _ _ _
      | exact ih3 _ _ _ _ _
      | exact ih4 _ _ _ _ _ _ _ _
      | exact ih5 _ _ _ _ _
      | exact ih6 _ _ _ _ _ _ _ _ _
      | exact LeO.none _
      | refine LeO.ite ?_ ?_
      | refine LeO.bind ?_ (fun _ => ?_)
    · intro y0 y1 y2 y3 y4 y5 y6 y7
      unfold ephemerisref1_PageTableError.l3
      repeat' first
      | (with_reducible exact ih0 _ _ _)
      | (with_reducible exact ih1 _ _ _ _ _)
      | (with_reducible exact ih2 _ _ _ _ _)
      | (with_reducible exact ih3 _ _ _ _ _)
      | (with_reducible exact ih4 _ _ _ _ _ _ _ _)
      | (with_reducible exact ih5 _ _ _ _ _)
      | (with_reducible exact ih6 _ _ _ _ _ _ _ _ _)
      | (with_reducible exact LeO.refl _)
      | (with_reducible exact LeO.none _)
      | (with_reducible refine LeO.ite ?_ ?_)
      | (with_reducible refine LeO.bind ?_ (fun _ => ?_))
      | exact ih0 _ _ _
      | exact ih1 _ _ _ _ _
      | exact ih2 _ _ _ _ _
      | exact ih3 _ _ _ _ _
      | exact ih4 _ _ _ _ _ _ _ _
      | exact ih5 _ _ _ _ _
      | exact ih6 _ _ _ _ _ _ _ _ _
      | exact LeO.none _
      | refine LeO.ite ?_ ?_
      | refine LeO.bind ?_ (fun _ => ?_)
    · intro y0 y1 y2 y3 y4
      unfold ephemerisref1_PageTableError.l4
      repeat' first
      | (with_reducible exact ih0 _ _ _)
      | (with_reducible exact ih1 _ _ _ _ _)
      | (with_reducible exact ih2 _ _ _ _ _)
      | (with_reducible exact ih3 _ _ _ _ _)
      | (with_reducible exact ih4 _ _ _ _ _ _ _ _)
      | (with_reducible exact ih5 _ _ _ _ _)
      | (with_reducible exact ih6 _ _ _ _ _ _ _ _ _)
      | (with_reducible exact LeO.refl _)
      | (with_reducible exact LeO.none _)
      | (with_reducible refine LeO.ite ?_ ?_)
      | (with_reducible refine LeO.bind ?_ (fun _ => ?_))
      | exact ih0 _ _ _
      | exact ih1 _ _ _ _ _
      | exact ih2 _ _ _ _ _
      | exact ih3 _ _ _ _ _
      | exact ih4 _ _ _ _ _ _ _ _
      | exact ih5 _ _ _ _ _
      | exact ih6 _ _ _ _ _ _ _ _ _
      | exact LeO.none _
      | refine LeO.ite ?_ ?_
      | refine LeO.bind ?_ (fun _ => ?_)
    · intro y0 y1 y2 y3 y4 y5 y6 y7 y8
      unfold ephemerisref1_PageTableError.l5
      repeat' first
      | (with_reducible exact ih0 _ _ _)
      | (with_reducible exact ih1 _ _ _ _ _)
      | (with_reducible exact ih2 _ _ _ _ _)
      | (with_reducible exact ih3 _ _ _ _ _)
      | (with_reducible exact ih4 _ _ _ _ _ _ _ _)
      | (with_reducible exact ih5 _ _ _ _ _)
      | (with_reducible exact ih6 _ _ _ _ _ _ _ _ _)
      | (with_reducible exact LeO.refl _)
      | (with_reducible exact LeO.none _)
      | (with_reducible refine LeO.ite ?_ ?_)
      | (with_reducible refine LeO.bind ?_ (fun _ => ?_))
      | exact ih0 _ _ _
      | exact ih1 _ _ _ _ _
      | exact ih2 _ _ _ _ _
      | exact ih3 _ _ _ _ _
      | exact ih4 _ _ _ _ _ _ _ _
      | exact ih5 _ _ _ _ _
      | exact ih6 _ _ _ _ _ _ _ _ _
      | exact LeO.none _
      | refine LeO.ite ?_ ?_
      | refine LeO.bind ?_ (fun _ => ?_)
theorem ephemerisref1_PageTableError.mono : ∀ a0 a1 k, LeO (ephemerisref1_PageTableError.f k a0 a1) (ephemerisref1_PageTableError.f (k + 1) a0 a1) := by
  intro a0 a1 k
  obtain ⟨ih0, ih1, ih2, ih3, ih4, ih5, ih6⟩ := ephemerisref1_PageTableError.mono_l k
  unfold ephemerisref1_PageTableError.f
  repeat' first
      | (with_reducible exact ih0 _ _ _)
      | (with_reducible exact ih1 _ _ _ _ _)
      | (with_reducible exact ih2 _ _ _ _ _)
      | (with_reducible exact ih3 _ _ _ _ _)
      | (with_reducible exact ih4 _ _ _ _ _ _ _ _)
      | (with_reducible exact ih5 _ _ _ _ _)
      | (with_reducible exact ih6 _ _ _ _ _ _ _ _ _)
      | (with_reducible exact LeO.refl _)
      | (with_reducible exact LeO.none _)
      | (with_reducible refine LeO.ite ?_ ?_)
      | (with_reducible refine LeO.bind ?_ (fun _ => ?_))
      | exact ih0 _ _ _
      | exact ih1 _ _ _ _ _
      | exact ih2 _ _ _ _ _
      | exact ih3 _ _ _ _ _
      | exact ih4 _ _ _ _ _ _ _ _
      | exact ih5 _ _ _ _ _
      | exact ih6 _ _ _ _ _ _ _ _ _
      | exact LeO.none _
      | refine LeO.ite ?_ ?_
      | refine LeO.bind ?_ (fun _ => ?_)
set_option maxHeartbeats 8000000 in
set_option maxRecDepth 100000 in
theorem ephemerisref1_PageTableError.calls (k : Nat) (A0_0 : Option Addr) (c0_0 : Nat) (l0_0 : List ByteArray) (A0_1 : Option Addr) (c0_1 : Nat) (l0_1 : List (List ByteArray)) (r : Int) (w : World) (hr0_0 : Kd.C Kd.string w A0_0 l0_0.length l0_0) (hc0_0 : l0_0.length ≤ c0_0) (hr0_1 : Kd.C (Kd.slice 9 Kd.string) w A0_1 l0_1.length l0_1) (hc0_1 : l0_1.length ≤ c0_1) (hU : utf8_ValidString.Tab w) (h : ephemerisref1_PageTableError.f k l0_0 l0_1 = some r) :
    Calls Tryd.prog 8 #[.agg #[.slice A0_0 l0_0.length c0_0, .slice A0_1 l0_1.length c0_1]] w fun e w' => e = .returned (.int .i64 r) ∧ Below w.heap.size w w' := by
  have hu25 := Tryd.underlying25
  have HR0_0 := Aside0.mk hr0_0
  have HC0_0 := Aside0.mk hc0_0
  clear hr0_0 hc0_0
  have HR0_1 := Aside0.mk hr0_1
  have HC0_1 := Aside0.mk hc0_1
  clear hr0_1 hc0_1
  have HB := Aside0.mk (Below.refl w.heap.size w)
  have H : ((ephemerisref1_In.f (l0_0.length : Int) 1 12).bind fun t141 => (if t141 = true then (ephemerisref1_PageTableError.j0 k (decide ((l0_1.length : Int) > 400)) l0_0 l0_1) else (ephemerisref1_PageTableError.j0 k true l0_0 l0_1))) = some r := h
  clear h
  have HC2 := Aside0.mk H
  clear H
  go_enter Tryd.func8, Tryd.ntmps8
  go_upto_region 1 with (first | ((with_reducible refine gate_dst (N := 1) rfl ?_); (try (refine gate_guard (by rfl) ?_; dsimp only)); refine box_event ?hg (N := 1) ?hd (cs := #[.slice A0_0 l0_0.length c0_0, .slice A0_1 l0_1.length c0_1]) (t := 25) ?hr ?_; (case hd => rfl); (case hg => rfl); (case hr => first | (go_simp; done) | (go_simp; rfl)); intro gb140 hg w3 hbox hb; have n0_ := Aside0.mk (below_step (by repeat (first | (with_reducible first | exact HB.out | apply below_alloc | apply pw_below_drewN | apply below_drew1) | exact HB.out)) hb); have n1_ := Aside0.mk (hbox); have n2_ := Aside0.mk ((by rw [hg]; exact (below_size (by repeat (first | (with_reducible first | exact HB.out | apply below_alloc | apply pw_below_drewN | apply below_drew1) | exact HB.out))) : w.heap.size ≤ gb140)); have n3_ := Aside0.mk ((by rw [hg]; exact (below_size (by repeat (first | (with_reducible first | exact HB.out | apply below_alloc | apply pw_below_drewN | apply below_drew1) | exact HB.out))) : w.heap.size ≤ gb140)); clear HB; have HB := n0_; have BK140 := n1_; have GW140 := n2_; have GE140 := n3_; clear n0_ n1_ n2_ n3_; clear hb hbox hg))
  (try simp only [Act.put, List.setIfInBounds_toArray, List.set_cons_zero, List.set_cons_succ])
  go_cut [27] (fun v27 wc => ∃ (kq : Nat) (x27_1 : Bool), v27 = .bool x27_1 ∧ Aside0 (ephemerisref1_PageTableError.j0 kq x27_1 l0_0 l0_1 = some r) ∧ Aside0 (kq ≤ k) ∧ Aside0 (wc.heap[gb140]? = some (.cells #[(.slice A0_0 l0_0.length c0_0), (.slice A0_1 l0_1.length c0_1)] 25 (0, 0))) ∧ Aside0 (Below w.heap.size w wc))
  case first =>
    have H := HC2.out
    clear HC2
    replace H := Option.bind_eq_some_iff.mp H
    obtain ⟨t141, A40, H⟩ := H
    replace H : (if t141 = true then (ephemerisref1_PageTableError.j0 k (decide ((l0_1.length : Int) > 400)) l0_0 l0_1) else (ephemerisref1_PageTableError.j0 k true l0_0 l0_1)) = some r := H
    have A4 := Aside0.mk A40
    clear A40
    by_cases c5 : t141 = true
    · subst c5
      have H1 : (ephemerisref1_PageTableError.j0 k (decide ((l0_1.length : Int) > 400)) l0_0 l0_1) = some r := by rw [if_pos rfl] at H; exact H
      clear H
      have H := H1
      clear H1
      have H' := Aside0.mk H
      clear H
      have hcz6_0 : w3.cell? ⟨gb140, 0, none⟩ = some (.slice A0_0 l0_0.length c0_0) := (blk_cell BK140.out 0).trans rfl
      have hcz6_1 : w3.cell? ⟨gb140, 1, none⟩ = some (.slice A0_1 l0_1.length c0_1) := (blk_cell BK140.out 1).trans rfl
      have hfz6_0 := blk_frozen BK140.out 0
      have hfz6_1 := blk_frozen BK140.out 1
      go_wp2_with (first | ((with_reducible refine gate_callee (f := 16) rfl ?_); refine goesL_ (some 20) rfl rfl Tryd.func16 (by kernel_rfl) rfl #[.int .i64 (l0_0.length : Int), .int .i64 1, .int .i64 12] rfl (by (try simp only [List.map_toArray, List.map_cons, List.map_nil]); first | done | rfl | (simp only [List.length_drop, List.length_take]; rfl)) ?_; (with_reducible refine (ephemerisref1_In.calls (l0_0.length : Int) 1 12 true _ A4.out).mono ?_); rintro e w' ⟨rfl, ⟨nd, rfl⟩⟩; refine ⟨_, rfl, ?_⟩))
      go_meet
      case rel => exact ⟨_, (decide ((l0_1.length : Int) > 400)), (by first | rfl | (simp; done) | (simp [*]; done)), H', ⟨by first | omega | exact Nat.le_refl _⟩, ⟨by (with_reducible repeat (first | refine blk_drewN ?_ _ | refine blk_drew ?_ | refine blk_alloc ?_ _)); exact BK140.out⟩, ⟨by repeat (first | (with_reducible first | exact HB.out | apply below_alloc | apply pw_below_drewN | apply below_drew1 | refine below_set ?_ GE140.out) | exact HB.out)⟩⟩
    · replace c5 := Bool.eq_false_iff.mpr c5
      subst c5
      have H1 : (ephemerisref1_PageTableError.j0 k true l0_0 l0_1) = some r := by rw [if_neg (show ¬ (false = true) by decide)] at H; exact H
      clear H
      have H := H1
      clear H1
      have H' := Aside0.mk H
      clear H
      have hcz7_0 : w3.cell? ⟨gb140, 0, none⟩ = some (.slice A0_0 l0_0.length c0_0) := (blk_cell BK140.out 0).trans rfl
      have hcz7_1 : w3.cell? ⟨gb140, 1, none⟩ = some (.slice A0_1 l0_1.length c0_1) := (blk_cell BK140.out 1).trans rfl
      have hfz7_0 := blk_frozen BK140.out 0
      have hfz7_1 := blk_frozen BK140.out 1
      go_wp2_with (first | ((with_reducible refine gate_callee (f := 16) rfl ?_); refine goesL_ (some 20) rfl rfl Tryd.func16 (by kernel_rfl) rfl #[.int .i64 (l0_0.length : Int), .int .i64 1, .int .i64 12] rfl (by (try simp only [List.map_toArray, List.map_cons, List.map_nil]); first | done | rfl | (simp only [List.length_drop, List.length_take]; rfl)) ?_; (with_reducible refine (ephemerisref1_In.calls (l0_0.length : Int) 1 12 false _ A4.out).mono ?_); rintro e w' ⟨rfl, ⟨nd, rfl⟩⟩; refine ⟨_, rfl, ?_⟩))
      go_meet
      case rel => exact ⟨_, (true), (by first | rfl | (simp; done) | (simp [*]; done)), H', ⟨by first | omega | exact Nat.le_refl _⟩, ⟨by (with_reducible repeat (first | refine blk_drewN ?_ _ | refine blk_drew ?_ | refine blk_alloc ?_ _)); exact BK140.out⟩, ⟨by repeat (first | (with_reducible first | exact HB.out | apply below_alloc | apply pw_below_drewN | apply below_drew1 | refine below_set ?_ GE140.out) | exact HB.out)⟩⟩
  case rest =>
    clear HC2
    try clear c1
    try clear p2
    try clear c5
    try clear hcz6_0
    try clear hcz6_1
    try clear hcz7_0
    try clear hcz7_1
    try clear hfz6_0
    try clear hfz6_1
    try clear hfz7_0
    try clear hfz7_1
    obtain ⟨kq, x27_1, rfl, HA, HJ1, BK140, HB⟩ := hcut
    cases kq with
    | zero => exact absurd HA.out (by simp [ephemerisref1_PageTableError.j0])
    | succ kj1 =>
      have H := HA.out
      clear HA
      simp only [ephemerisref1_PageTableError.j0] at H
      by_cases c8 : x27_1 = true
      · subst c8
        have H1 : (some 2) = some r := by rw [if_pos rfl] at H; exact H
        clear H
        have H := H1
        clear H1
        obtain rfl := Option.some.inj H
        go_wp2
        go_ret
        exact ⟨by first | rfl | (simp [errW_none, errW_some] <;> rfl) | (simp [*, errW_none, errW_some] <;> rfl), by repeat (first | (with_reducible first | exact HB.out | apply below_alloc | apply pw_below_drewN | apply below_drew1 | refine below_set ?_ GE140.out) | exact HB.out)⟩
      · replace c8 := Bool.eq_false_iff.mpr c8
        subst c8
        have H1 : (ephemerisref1_PageTableError.l0 kj1 l0_1 (l0_1.length : Int) 0 l0_0 l0_1) = some r := by rw [if_neg (show ¬ (false = true) by decide)] at H; exact H
        clear H
        have H := H1
        clear H1
        have H' := Aside0.mk H
        clear H
        have hcz9_0 : wc.cell? ⟨gb140, 0, none⟩ = some (.slice A0_0 l0_0.length c0_0) := (blk_cell BK140.out 0).trans rfl
        have hcz9_1 : wc.cell? ⟨gb140, 1, none⟩ = some (.slice A0_1 l0_1.length c0_1) := (blk_cell BK140.out 1).trans rfl
        have hfz9_0 := blk_frozen BK140.out 0
        have hfz9_1 := blk_frozen BK140.out 1
        go_wp2
        go_loopg [31] kj1 (fun kq v31 w' => ∃ (x31_2 : Int), v31 = .int .i64 x31_2 ∧ Aside0 (ephemerisref1_PageTableError.l0 kq l0_1 (l0_1.length : Int) x31_2 l0_0 l0_1 = some r) ∧ Aside0 (kq ≤ kj1) ∧ Aside0 (w'.heap[gb140]? = some (.cells #[(.slice A0_0 l0_0.length c0_0), (.slice A0_1 l0_1.length c0_1)] 25 (0, 0))) ∧ Aside0 (Below w.heap.size w w'))
        case atStart => exact ⟨(0), (by first | rfl | (simp; done) | (simp [*]; done)), H', ⟨Nat.le_refl _⟩, ⟨by (with_reducible repeat (first | refine blk_drewN ?_ _ | refine blk_drew ?_ | refine blk_alloc ?_ _)); exact BK140.out⟩, ⟨by repeat (first | (with_reducible first | exact HB.out | apply below_alloc | apply pw_below_drewN | apply below_drew1 | refine below_set ?_ GE140.out) | exact HB.out)⟩⟩
        case round =>
          clear H'
          try clear c1
          try clear p2
          try clear c5
          try clear c8
          try clear hcz6_0
          try clear hcz6_1
          try clear hcz7_0
          try clear hcz7_1
          try clear hcz9_0
          try clear hcz9_1
          try clear hfz6_0
          try clear hfz6_1
          try clear hfz7_0
          try clear hfz7_1
          try clear hfz9_0
          try clear hfz9_1
          try clear p2
          obtain ⟨x31_2, rfl, HA, HK2, BK140, HB⟩ := hrel
          cases gk with
          | zero => exact absurd HA.out (by simp [ephemerisref1_PageTableError.l0])
          | succ k2 =>
            have H := HA.out
            clear HA
            simp only [ephemerisref1_PageTableError.l0] at H
            by_cases c10 : x31_2 < (l0_1.length : Int)
            · rw [if_pos c10] at H
              have c10b0 : decide (x31_2 < (l0_1.length : Int)) = true := decide_eq_true c10
              clear c10
              by_cases c11 : 0 ≤ x31_2
              · rw [if_pos c11] at H
                have c11b0 : decide (0 ≤ x31_2) = true := decide_eq_true c11
                clear c11
                by_cases c12 : x31_2 < (l0_1.length : Int)
                · rw [if_pos c12] at H
                  have c12b0 : decide (x31_2 < (l0_1.length : Int)) = true := decide_eq_true c12
                  clear c12
                  by_cases c13 : ((rd_L2 l0_1 x31_2).length : Int) = (l0_0.length : Int)
                  · rw [if_pos c13] at H
                    have c13b0 : (((rd_L2 l0_1 x31_2).length : Int) == (l0_0.length : Int)) = true := beq_iff_eq.mpr c13
                    have c13b1 : (((rd_L2 l0_1 x31_2).length : Int) != (l0_0.length : Int)) = false := bne_eq_false_iff_eq.mpr c13
                    have c13b2 : ((rd_L2 l0_1 x31_2).length == l0_0.length) = true := by first | simpa using c13 | (simp at c13 ⊢; omega)
                    clear c13
                    have H' := Aside0.mk H
                    clear H
                    have p142 : 0 ≤ (x31_2 : Int) := of_decide_eq_true (by first | (with_reducible assumption) | assumption)
                    have q142 : x31_2 < (l0_1.length : Int) := of_decide_eq_true (by first | (with_reducible assumption) | assumption)
                    obtain ⟨ad142, A142_0, c142_0, e142, hx142_0, hl142_0, hi142_0⟩ := at_L2 HR0_1.out x31_2 p142 q142
                    cases e142
                    replace hx142_0 := (HB.out.cell (World.block_lt_of_cell? w _ hx142_0)).trans hx142_0
                    have HR142_0 := Aside0.mk hi142_0
                    have HC142_0 := Aside0.mk hl142_0
                    clear hi142_0 hl142_0
                    replace p142 := eq_true p142
                    replace q142 := eq_true q142
                    have hcz14_0 : wr.cell? ⟨gb140, 0, none⟩ = some (.slice A0_0 l0_0.length c0_0) := (blk_cell BK140.out 0).trans rfl
                    have hcz14_1 : wr.cell? ⟨gb140, 1, none⟩ = some (.slice (some ad142) l0_1.length c0_1) := (blk_cell BK140.out 1).trans rfl
                    have hfz14_0 := blk_frozen BK140.out 0
                    have hfz14_1 := blk_frozen BK140.out 1
                    go_wp2
                    go_roundg k2
                    case measure => have := HJ1.out; have := HK2.out; omega
                    case rel => exact ⟨(wrap64 (x31_2 + 1)), (by first | rfl | (simp; done) | (simp [*]; done)), H', ⟨by have := HJ1.out; have := HK2.out; omega⟩, ⟨by (with_reducible repeat (first | refine blk_drewN ?_ _ | refine blk_drew ?_ | refine blk_alloc ?_ _)); exact BK140.out⟩, ⟨by repeat (first | (with_reducible first | exact HB.out | apply below_alloc | apply pw_below_drewN | apply below_drew1 | refine below_set ?_ GE140.out) | exact HB.out)⟩⟩
                  · rw [if_neg c13] at H
                    have c13b0 : (((rd_L2 l0_1 x31_2).length : Int) == (l0_0.length : Int)) = false := beq_eq_false_iff_ne.mpr c13
                    have c13b1 : (((rd_L2 l0_1 x31_2).length : Int) != (l0_0.length : Int)) = true := bne_iff_ne.mpr c13
                    have c13b2 : ((rd_L2 l0_1 x31_2).length == l0_0.length) = false := by first | simpa using c13 | (simp at c13 ⊢; omega)
                    obtain rfl := Option.some.inj H
                    have p142 : 0 ≤ (x31_2 : Int) := of_decide_eq_true (by first | (with_reducible assumption) | assumption)
                    have q142 : x31_2 < (l0_1.length : Int) := of_decide_eq_true (by first | (with_reducible assumption) | assumption)
                    obtain ⟨ad142, A142_0, c142_0, e142, hx142_0, hl142_0, hi142_0⟩ := at_L2 HR0_1.out x31_2 p142 q142
                    cases e142
                    replace hx142_0 := (HB.out.cell (World.block_lt_of_cell? w _ hx142_0)).trans hx142_0
                    have HR142_0 := Aside0.mk hi142_0
                    have HC142_0 := Aside0.mk hl142_0
                    clear hi142_0 hl142_0
                    replace p142 := eq_true p142
                    replace q142 := eq_true q142
                    have hcz15_0 : wr.cell? ⟨gb140, 0, none⟩ = some (.slice A0_0 l0_0.length c0_0) := (blk_cell BK140.out 0).trans rfl
                    have hcz15_1 : wr.cell? ⟨gb140, 1, none⟩ = some (.slice (some ad142) l0_1.length c0_1) := (blk_cell BK140.out 1).trans rfl
                    have hfz15_0 := blk_frozen BK140.out 0
                    have hfz15_1 := blk_frozen BK140.out 1
                    go_wp2
                    go_ret
                    exact ⟨by first | rfl | (simp [errW_none, errW_some] <;> rfl) | (simp [*, errW_none, errW_some] <;> rfl), by repeat (first | (with_reducible first | exact HB.out | apply below_alloc | apply pw_below_drewN | apply below_drew1 | refine below_set ?_ GE140.out) | exact HB.out)⟩
                · rw [if_neg c12] at H
                  exact absurd H (by simp)
              · rw [if_neg c11] at H
                exact absurd H (by simp)
            · rw [if_neg c10] at H
              have c10b0 : decide (x31_2 < (l0_1.length : Int)) = false := decide_eq_false c10
              clear c10
              have H' := Aside0.mk H
              clear H
              have hcz16_0 : wr.cell? ⟨gb140, 0, none⟩ = some (.slice A0_0 l0_0.length c0_0) := (blk_cell BK140.out 0).trans rfl
              have hcz16_1 : wr.cell? ⟨gb140, 1, none⟩ = some (.slice A0_1 l0_1.length c0_1) := (blk_cell BK140.out 1).trans rfl
              have hfz16_0 := blk_frozen BK140.out 0
              have hfz16_1 := blk_frozen BK140.out 1
              go_wp2
              go_loopg [45] k2 (fun kq v45 w' => ∃ (x45_3 : Int), v45 = .int .i64 x45_3 ∧ Aside0 (ephemerisref1_PageTableError.l1 kq l0_0 (l0_0.length : Int) x45_3 l0_0 l0_1 = some r) ∧ Aside0 (kq ≤ k2) ∧ Aside0 (w'.heap[gb140]? = some (.cells #[(.slice A0_0 l0_0.length c0_0), (.slice A0_1 l0_1.length c0_1)] 25 (0, 0))) ∧ Aside0 (Below w.heap.size w w'))
              case atStart => exact ⟨(0), (by first | rfl | (simp; done) | (simp [*]; done)), H', ⟨Nat.le_refl _⟩, ⟨by (with_reducible repeat (first | refine blk_drewN ?_ _ | refine blk_drew ?_ | refine blk_alloc ?_ _)); exact BK140.out⟩, ⟨by repeat (first | (with_reducible first | exact HB.out | apply below_alloc | apply pw_below_drewN | apply below_drew1 | refine below_set ?_ GE140.out) | exact HB.out)⟩⟩
              case round =>
                clear H'
                try clear c1
                try clear p1
                try clear q1
                try clear hx1
                try clear p2
                try clear c5
                try clear p6
                try clear c8
                try clear c10
                try clear c10b0
                try clear c11
                try clear c11b0
                try clear c12
                try clear c12b0
                try clear c13
                try clear c13b0
                try clear c13b1
                try clear c13b2
                try clear c14
                try clear p14
                try clear q14
                try clear hx14
                try clear c16
                try clear hcz14_0
                try clear hcz14_1
                try clear hcz15_0
                try clear hcz15_1
                try clear hcz16_0
                try clear hcz16_1
                try clear hcz6_0
                try clear hcz6_1
                try clear hcz7_0
                try clear hcz7_1
                try clear hcz9_0
                try clear hcz9_1
                try clear hfz14_0
                try clear hfz14_1
                try clear hfz15_0
                try clear hfz15_1
                try clear hfz16_0
                try clear hfz16_1
                try clear hfz6_0
                try clear hfz6_1
                try clear hfz7_0
                try clear hfz7_1
                try clear hfz9_0
                try clear hfz9_1
                try clear hx142_0
                try clear p142
                try clear p2
                try clear q142
                obtain ⟨x45_3, rfl, HA, HK3, BK140, HB⟩ := hrel
                cases gk with
                | zero => exact absurd HA.out (by simp [ephemerisref1_PageTableError.l1])
                | succ k3 =>
                  have H := HA.out
                  clear HA
                  simp only [ephemerisref1_PageTableError.l1] at H
                  by_cases c17 : x45_3 < (l0_0.length : Int)
                  · rw [if_pos c17] at H
                    have c17b0 : decide (x45_3 < (l0_0.length : Int)) = true := decide_eq_true c17
                    clear c17
                    by_cases c18 : 0 ≤ x45_3
                    · rw [if_pos c18] at H
                      have c18b0 : decide (0 ≤ x45_3) = true := decide_eq_true c18
                      clear c18
                      by_cases c19 : x45_3 < (l0_0.length : Int)
                      · rw [if_pos c19] at H
                        have c19b0 : decide (x45_3 < (l0_0.length : Int)) = true := decide_eq_true c19
                        clear c19
                        replace H := Option.bind_eq_some_iff.mp H
                        obtain ⟨t144, A200, H⟩ := H
                        replace H : (if t144 = 0 then (ephemerisref1_PageTableError.l1 k3 l0_0 (l0_0.length : Int) (wrap64 (x45_3 + 1)) l0_0 l0_1) else (some t144)) = some r := H
                        have A20 := Aside0.mk A200
                        clear A200
                        by_cases c21 : t144 = 0
                        · rw [if_pos c21] at H
                          have c21b0 : (t144 == 0) = true := beq_iff_eq.mpr c21
                          have c21b1 : (t144 != 0) = false := bne_eq_false_iff_eq.mpr c21
                          clear c21
                          have H' := Aside0.mk H
                          clear H
                          have p143 : 0 ≤ (x45_3 : Int) := of_decide_eq_true (by first | (with_reducible assumption) | assumption)
                          have q143 : x45_3 < (l0_0.length : Int) := of_decide_eq_true (by first | (with_reducible assumption) | assumption)
                          obtain ⟨ad143, e143, hx143_0⟩ := Kd.at_string HR0_0.out x45_3 p143 q143
                          cases e143
                          replace hx143_0 := (HB.out.cell (World.block_lt_of_cell? w _ hx143_0)).trans hx143_0
                          replace p143 := eq_true p143
                          replace q143 := eq_true q143
                          go_wp2_with (first | ((with_reducible refine gate_callee (f := 23) rfl ?_); refine goesL_ (some 50) rfl rfl Tryd.func23 (by kernel_rfl) rfl #[.string (rdOf ByteArray.empty l0_0 x45_3)] rfl (by (try simp only [List.map_toArray, List.map_cons, List.map_nil]); first | done | rfl | (simp only [List.length_drop, List.length_take]; rfl)) ?_; (with_reducible refine (ephemerisref1_CellError.calls (rdOf ByteArray.empty l0_0 x45_3) t144 _ (hU.below (by repeat (first | (with_reducible first | exact HB.out | apply below_alloc | apply pw_below_drewN | apply below_drew1 | refine below_set ?_ GE140.out) | exact HB.out)) (Nat.le_refl _)) A20.out).mono ?_); rintro e w22 ⟨rfl, hb⟩; refine ⟨_, rfl, ?_⟩; have n0_ := Aside0.mk (blk_below (g := gb140) (o := .cells #[.slice (some ad143) l0_0.length c0_0, .slice A0_1 l0_1.length c0_1] 25 (0, 0)) (by (with_reducible repeat (first | refine blk_drewN ?_ _ | refine blk_drew ?_ | refine blk_alloc ?_ _)); exact BK140.out) hb); have n1_ := Aside0.mk (below_step (by repeat (first | (with_reducible first | exact HB.out | apply below_alloc | apply pw_below_drewN | apply below_drew1 | refine below_set ?_ GE140.out) | exact HB.out)) hb); clear BK140; clear HB; have BK140 := n0_; have HB := n1_; clear n0_ n1_; (try clear hb); (try clear hb2); (try clear hk); (try clear hi)))
                          go_roundg k3
                          case measure => have := HJ1.out; have := HK2.out; have := HK3.out; omega
                          case rel => exact ⟨(wrap64 (x45_3 + 1)), (by first | rfl | (simp; done) | (simp [*]; done)), H', ⟨by have := HJ1.out; have := HK2.out; have := HK3.out; omega⟩, ⟨by (with_reducible repeat (first | refine blk_drewN ?_ _ | refine blk_drew ?_ | refine blk_alloc ?_ _)); exact BK140.out⟩, ⟨by repeat (first | (with_reducible first | exact HB.out | apply below_alloc | apply pw_below_drewN | apply below_drew1 | refine below_set ?_ GE140.out) | exact HB.out)⟩⟩
                        · rw [if_neg c21] at H
                          have c21b0 : (t144 == 0) = false := beq_eq_false_iff_ne.mpr c21
                          have c21b1 : (t144 != 0) = true := bne_iff_ne.mpr c21
                          obtain rfl := Option.some.inj H
                          have p143 : 0 ≤ (x45_3 : Int) := of_decide_eq_true (by first | (with_reducible assumption) | assumption)
                          have q143 : x45_3 < (l0_0.length : Int) := of_decide_eq_true (by first | (with_reducible assumption) | assumption)
                          obtain ⟨ad143, e143, hx143_0⟩ := Kd.at_string HR0_0.out x45_3 p143 q143
                          cases e143
                          replace hx143_0 := (HB.out.cell (World.block_lt_of_cell? w _ hx143_0)).trans hx143_0
                          replace p143 := eq_true p143
                          replace q143 := eq_true q143
                          go_wp2_with (first | ((with_reducible refine gate_callee (f := 23) rfl ?_); refine goesL_ (some 50) rfl rfl Tryd.func23 (by kernel_rfl) rfl #[.string (rdOf ByteArray.empty l0_0 x45_3)] rfl (by (try simp only [List.map_toArray, List.map_cons, List.map_nil]); first | done | rfl | (simp only [List.length_drop, List.length_take]; rfl)) ?_; (with_reducible refine (ephemerisref1_CellError.calls (rdOf ByteArray.empty l0_0 x45_3) t144 _ (hU.below (by repeat (first | (with_reducible first | exact HB.out | apply below_alloc | apply pw_below_drewN | apply below_drew1 | refine below_set ?_ GE140.out) | exact HB.out)) (Nat.le_refl _)) A20.out).mono ?_); rintro e w23 ⟨rfl, hb⟩; refine ⟨_, rfl, ?_⟩; have n0_ := Aside0.mk (blk_below (g := gb140) (o := .cells #[.slice (some ad143) l0_0.length c0_0, .slice A0_1 l0_1.length c0_1] 25 (0, 0)) (by (with_reducible repeat (first | refine blk_drewN ?_ _ | refine blk_drew ?_ | refine blk_alloc ?_ _)); exact BK140.out) hb); have n1_ := Aside0.mk (below_step (by repeat (first | (with_reducible first | exact HB.out | apply below_alloc | apply pw_below_drewN | apply below_drew1 | refine below_set ?_ GE140.out) | exact HB.out)) hb); clear BK140; clear HB; have BK140 := n0_; have HB := n1_; clear n0_ n1_; (try clear hb); (try clear hb2); (try clear hk); (try clear hi)))
                          go_ret
                          exact ⟨by first | rfl | (simp [errW_none, errW_some] <;> rfl) | (simp [*, errW_none, errW_some] <;> rfl), by repeat (first | (with_reducible first | exact HB.out | apply below_alloc | apply pw_below_drewN | apply below_drew1 | refine below_set ?_ GE140.out) | exact HB.out)⟩
                      · rw [if_neg c19] at H
                        exact absurd H (by simp)
                    · rw [if_neg c18] at H
                      exact absurd H (by simp)
                  · rw [if_neg c17] at H
                    have c17b0 : decide (x45_3 < (l0_0.length : Int)) = false := decide_eq_false c17
                    clear c17
                    have H' := Aside0.mk H
                    clear H
                    have hcz24_0 : wr.cell? ⟨gb140, 0, none⟩ = some (.slice A0_0 l0_0.length c0_0) := (blk_cell BK140.out 0).trans rfl
                    have hcz24_1 : wr.cell? ⟨gb140, 1, none⟩ = some (.slice A0_1 l0_1.length c0_1) := (blk_cell BK140.out 1).trans rfl
                    have hfz24_0 := blk_frozen BK140.out 0
                    have hfz24_1 := blk_frozen BK140.out 1
                    go_wp2
                    go_loopg [58] k3 (fun kq v58 w' => ∃ (x58_4 : Int), v58 = .int .i64 x58_4 ∧ Aside0 (ephemerisref1_PageTableError.l2 kq l0_1 (l0_1.length : Int) x58_4 l0_0 l0_1 = some r) ∧ Aside0 (kq ≤ k3) ∧ Aside0 (w'.heap[gb140]? = some (.cells #[(.slice A0_0 l0_0.length c0_0), (.slice A0_1 l0_1.length c0_1)] 25 (0, 0))) ∧ Aside0 (Below w.heap.size w w'))
                    case atStart => exact ⟨(0), (by first | rfl | (simp; done) | (simp [*]; done)), H', ⟨Nat.le_refl _⟩, ⟨by (with_reducible repeat (first | refine blk_drewN ?_ _ | refine blk_drew ?_ | refine blk_alloc ?_ _)); exact BK140.out⟩, ⟨by repeat (first | (with_reducible first | exact HB.out | apply below_alloc | apply pw_below_drewN | apply below_drew1 | refine below_set ?_ GE140.out) | exact HB.out)⟩⟩
                    case round =>
                      clear H'
                      try clear c1
                      try clear p1
                      try clear q1
                      try clear hx1
                      try clear c2
                      try clear p2
                      try clear c5
                      try clear p6
                      try clear c8
                      try clear c10
                      try clear c10b0
                      try clear c11
                      try clear c11b0
                      try clear c12
                      try clear c12b0
                      try clear c13
                      try clear c13b0
                      try clear c13b1
                      try clear c13b2
                      try clear c14
                      try clear p14
                      try clear q14
                      try clear hx14
                      try clear c16
                      try clear c17
                      try clear c17b0
                      try clear c18
                      try clear c18b0
                      try clear c19
                      try clear c19b0
                      try clear c21
                      try clear c21b0
                      try clear c21b1
                      try clear c23
                      try clear hcz14_0
                      try clear hcz14_1
                      try clear hcz15_0
                      try clear hcz15_1
                      try clear hcz16_0
                      try clear hcz16_1
                      try clear hcz24_0
                      try clear hcz24_1
                      try clear hcz6_0
                      try clear hcz6_1
                      try clear hcz7_0
                      try clear hcz7_1
                      try clear hcz9_0
                      try clear hcz9_1
                      try clear hfz14_0
                      try clear hfz14_1
                      try clear hfz15_0
                      try clear hfz15_1
                      try clear hfz16_0
                      try clear hfz16_1
                      try clear hfz24_0
                      try clear hfz24_1
                      try clear hfz6_0
                      try clear hfz6_1
                      try clear hfz7_0
                      try clear hfz7_1
                      try clear hfz9_0
                      try clear hfz9_1
                      try clear hx142_0
                      try clear hx143_0
                      try clear p1
                      try clear p14
                      try clear p142
                      try clear p143
                      try clear p2
                      try clear p6
                      try clear q1
                      try clear q14
                      try clear q142
                      try clear q143
                      obtain ⟨x58_4, rfl, HA, HK4, BK140, HB⟩ := hrel
                      cases gk with
                      | zero => exact absurd HA.out (by simp [ephemerisref1_PageTableError.l2])
                      | succ k4 =>
                        have H := HA.out
                        clear HA
                        simp only [ephemerisref1_PageTableError.l2] at H
                        by_cases c25 : x58_4 < (l0_1.length : Int)
                        · rw [if_pos c25] at H
                          have c25b0 : decide (x58_4 < (l0_1.length : Int)) = true := decide_eq_true c25
                          clear c25
                          by_cases c26 : 0 ≤ x58_4
                          · rw [if_pos c26] at H
                            have c26b0 : decide (0 ≤ x58_4) = true := decide_eq_true c26
                            clear c26
                            by_cases c27 : x58_4 < (l0_1.length : Int)
                            · rw [if_pos c27] at H
                              have c27b0 : decide (x58_4 < (l0_1.length : Int)) = true := decide_eq_true c27
                              clear c27
                              have H' := Aside0.mk H
                              clear H
                              have p145 : 0 ≤ (x58_4 : Int) := of_decide_eq_true (by first | (with_reducible assumption) | assumption)
                              have q145 : x58_4 < (l0_1.length : Int) := of_decide_eq_true (by first | (with_reducible assumption) | assumption)
                              obtain ⟨ad145, A145_0, c145_0, e145, hx145_0, hl145_0, hi145_0⟩ := at_L2 HR0_1.out x58_4 p145 q145
                              cases e145
                              replace hx145_0 := (HB.out.cell (World.block_lt_of_cell? w _ hx145_0)).trans hx145_0
                              have HR145_0 := Aside0.mk hi145_0
                              have HC145_0 := Aside0.mk hl145_0
                              clear hi145_0 hl145_0
                              replace p145 := eq_true p145
                              replace q145 := eq_true q145
                              go_wp2
                              go_loopg [64] k4 (fun kq v64 w' => ∃ (x64_5 : Int), v64 = .int .i64 x64_5 ∧ Aside0 (ephemerisref1_PageTableError.l3 kq l0_1 (l0_1.length : Int) x58_4 (rd_L2 l0_1 x58_4) ((rd_L2 l0_1 x58_4).length : Int) x64_5 l0_0 l0_1 = some r) ∧ Aside0 (kq ≤ k4) ∧ Aside0 (w'.heap[gb140]? = some (.cells #[(.slice A0_0 l0_0.length c0_0), (.slice (some ad145) l0_1.length c0_1)] 25 (0, 0))) ∧ Aside0 (Below w.heap.size w w'))
                              case atStart => exact ⟨(0), (by first | rfl | (simp; done) | (simp [*]; done)), H', ⟨Nat.le_refl _⟩, ⟨by (with_reducible repeat (first | refine blk_drewN ?_ _ | refine blk_drew ?_ | refine blk_alloc ?_ _)); exact BK140.out⟩, ⟨by repeat (first | (with_reducible first | exact HB.out | apply below_alloc | apply pw_below_drewN | apply below_drew1 | refine below_set ?_ GE140.out) | exact HB.out)⟩⟩
                              case round =>
                                clear H'
                                try clear c1
                                try clear p1
                                try clear q1
                                try clear hx1
                                try clear c2
                                try clear p2
                                try clear c5
                                try clear p6
                                try clear c8
                                try clear c10
                                try clear c10b0
                                try clear c11
                                try clear c11b0
                                try clear c12
                                try clear c12b0
                                try clear c13
                                try clear c13b0
                                try clear c13b1
                                try clear c13b2
                                try clear c14
                                try clear p14
                                try clear q14
                                try clear hx14
                                try clear c16
                                try clear c17
                                try clear c17b0
                                try clear c18
                                try clear c18b0
                                try clear c19
                                try clear c19b0
                                try clear c21
                                try clear c21b0
                                try clear c21b1
                                try clear c23
                                try clear c25
                                try clear c25b0
                                try clear c26
                                try clear c26b0
                                try clear c27
                                try clear c27b0
                                try clear hcz14_0
                                try clear hcz14_1
                                try clear hcz15_0
                                try clear hcz15_1
                                try clear hcz16_0
                                try clear hcz16_1
                                try clear hcz24_0
                                try clear hcz24_1
                                try clear hcz6_0
                                try clear hcz6_1
                                try clear hcz7_0
                                try clear hcz7_1
                                try clear hcz9_0
                                try clear hcz9_1
                                try clear hfz14_0
                                try clear hfz14_1
                                try clear hfz15_0
                                try clear hfz15_1
                                try clear hfz16_0
                                try clear hfz16_1
                                try clear hfz24_0
                                try clear hfz24_1
                                try clear hfz6_0
                                try clear hfz6_1
                                try clear hfz7_0
                                try clear hfz7_1
                                try clear hfz9_0
                                try clear hfz9_1
                                try clear hx142_0
                                try clear hx143_0
                                try clear hx145_0
                                try clear p1
                                try clear p14
                                try clear p142
                                try clear p143
                                try clear p145
                                try clear p2
                                try clear p6
                                try clear q1
                                try clear q14
                                try clear q142
                                try clear q143
                                try clear q145
                                obtain ⟨x64_5, rfl, HA, HK5, BK140, HB⟩ := hrel
                                cases gk with
                                | zero => exact absurd HA.out (by simp [ephemerisref1_PageTableError.l3])
                                | succ k5 =>
                                  have H := HA.out
                                  clear HA
                                  simp only [ephemerisref1_PageTableError.l3] at H
                                  by_cases c28 : x64_5 < ((rd_L2 l0_1 x58_4).length : Int)
                                  · rw [if_pos c28] at H
                                    have c28b0 : decide (x64_5 < ((rd_L2 l0_1 x58_4).length : Int)) = true := decide_eq_true c28
                                    clear c28
                                    by_cases c29 : 0 ≤ x64_5
                                    · rw [if_pos c29] at H
                                      have c29b0 : decide (0 ≤ x64_5) = true := decide_eq_true c29
                                      clear c29
                                      by_cases c30 : x64_5 < ((rd_L2 l0_1 x58_4).length : Int)
                                      · rw [if_pos c30] at H
                                        have c30b0 : decide (x64_5 < ((rd_L2 l0_1 x58_4).length : Int)) = true := decide_eq_true c30
                                        clear c30
                                        replace H := Option.bind_eq_some_iff.mp H
                                        obtain ⟨t147, A310, H⟩ := H
                                        replace H : (if t147 = 0 then (ephemerisref1_PageTableError.l3 k5 l0_1 (l0_1.length : Int) x58_4 (rd_L2 l0_1 x58_4) ((rd_L2 l0_1 x58_4).length : Int) (wrap64 (x64_5 + 1)) l0_0 l0_1) else (some t147)) = some r := H
                                        have A31 := Aside0.mk A310
                                        clear A310
                                        by_cases c32 : t147 = 0
                                        · rw [if_pos c32] at H
                                          have c32b0 : (t147 == 0) = true := beq_iff_eq.mpr c32
                                          have c32b1 : (t147 != 0) = false := bne_eq_false_iff_eq.mpr c32
                                          clear c32
                                          have H' := Aside0.mk H
                                          clear H
                                          have p146 : 0 ≤ (x64_5 : Int) := of_decide_eq_true (by first | (with_reducible assumption) | assumption)
                                          have q146 : x64_5 < ((rd_L2 l0_1 x58_4).length : Int) := of_decide_eq_true (by first | (with_reducible assumption) | assumption)
                                          obtain ⟨ad146, e146, hx146_0⟩ := Kd.at_string HR145_0.out x64_5 p146 q146
                                          cases e146
                                          replace hx146_0 := (HB.out.cell (World.block_lt_of_cell? w _ hx146_0)).trans hx146_0
                                          replace p146 := eq_true p146
                                          replace q146 := eq_true q146
                                          go_wp2_with (first | ((with_reducible refine gate_callee (f := 23) rfl ?_); refine goesL_ (some 69) rfl rfl Tryd.func23 (by kernel_rfl) rfl #[.string (rdOf ByteArray.empty (rd_L2 l0_1 x58_4) x64_5)] rfl (by (try simp only [List.map_toArray, List.map_cons, List.map_nil]); first | done | rfl | (simp only [List.length_drop, List.length_take]; rfl)) ?_; (with_reducible refine (ephemerisref1_CellError.calls (rdOf ByteArray.empty (rd_L2 l0_1 x58_4) x64_5) t147 _ (hU.below (by repeat (first | (with_reducible first | exact HB.out | apply below_alloc | apply pw_below_drewN | apply below_drew1 | refine below_set ?_ GE140.out) | exact HB.out)) (Nat.le_refl _)) A31.out).mono ?_); rintro e w33 ⟨rfl, hb⟩; refine ⟨_, rfl, ?_⟩; have n0_ := Aside0.mk (blk_below (g := gb140) (o := .cells #[.slice A0_0 l0_0.length c0_0, .slice (some ad145) l0_1.length c0_1] 25 (0, 0)) (by (with_reducible repeat (first | refine blk_drewN ?_ _ | refine blk_drew ?_ | refine blk_alloc ?_ _)); exact BK140.out) hb); have n1_ := Aside0.mk (below_step (by repeat (first | (with_reducible first | exact HB.out | apply below_alloc | apply pw_below_drewN | apply below_drew1 | refine below_set ?_ GE140.out) | exact HB.out)) hb); clear BK140; clear HB; have BK140 := n0_; have HB := n1_; clear n0_ n1_; (try clear hb); (try clear hb2); (try clear hk); (try clear hi)))
                                          go_roundg k5
                                          case measure => have := HJ1.out; have := HK2.out; have := HK3.out; have := HK4.out; have := HK5.out; omega
                                          case rel => exact ⟨(wrap64 (x64_5 + 1)), (by first | rfl | (simp; done) | (simp [*]; done)), H', ⟨by have := HJ1.out; have := HK2.out; have := HK3.out; have := HK4.out; have := HK5.out; omega⟩, ⟨by (with_reducible repeat (first | refine blk_drewN ?_ _ | refine blk_drew ?_ | refine blk_alloc ?_ _)); exact BK140.out⟩, ⟨by repeat (first | (with_reducible first | exact HB.out | apply below_alloc | apply pw_below_drewN | apply below_drew1 | refine below_set ?_ GE140.out) | exact HB.out)⟩⟩
                                        · rw [if_neg c32] at H
                                          have c32b0 : (t147 == 0) = false := beq_eq_false_iff_ne.mpr c32
                                          have c32b1 : (t147 != 0) = true := bne_iff_ne.mpr c32
                                          obtain rfl := Option.some.inj H
                                          have p146 : 0 ≤ (x64_5 : Int) := of_decide_eq_true (by first | (with_reducible assumption) | assumption)
                                          have q146 : x64_5 < ((rd_L2 l0_1 x58_4).length : Int) := of_decide_eq_true (by first | (with_reducible assumption) | assumption)
                                          obtain ⟨ad146, e146, hx146_0⟩ := Kd.at_string HR145_0.out x64_5 p146 q146
                                          cases e146
                                          replace hx146_0 := (HB.out.cell (World.block_lt_of_cell? w _ hx146_0)).trans hx146_0
                                          replace p146 := eq_true p146
                                          replace q146 := eq_true q146
                                          go_wp2_with (first | ((with_reducible refine gate_callee (f := 23) rfl ?_); refine goesL_ (some 69) rfl rfl Tryd.func23 (by kernel_rfl) rfl #[.string (rdOf ByteArray.empty (rd_L2 l0_1 x58_4) x64_5)] rfl (by (try simp only [List.map_toArray, List.map_cons, List.map_nil]); first | done | rfl | (simp only [List.length_drop, List.length_take]; rfl)) ?_; (with_reducible refine (ephemerisref1_CellError.calls (rdOf ByteArray.empty (rd_L2 l0_1 x58_4) x64_5) t147 _ (hU.below (by repeat (first | (with_reducible first | exact HB.out | apply below_alloc | apply pw_below_drewN | apply below_drew1 | refine below_set ?_ GE140.out) | exact HB.out)) (Nat.le_refl _)) A31.out).mono ?_); rintro e w34 ⟨rfl, hb⟩; refine ⟨_, rfl, ?_⟩; have n0_ := Aside0.mk (blk_below (g := gb140) (o := .cells #[.slice A0_0 l0_0.length c0_0, .slice (some ad145) l0_1.length c0_1] 25 (0, 0)) (by (with_reducible repeat (first | refine blk_drewN ?_ _ | refine blk_drew ?_ | refine blk_alloc ?_ _)); exact BK140.out) hb); have n1_ := Aside0.mk (below_step (by repeat (first | (with_reducible first | exact HB.out | apply below_alloc | apply pw_below_drewN | apply below_drew1 | refine below_set ?_ GE140.out) | exact HB.out)) hb); clear BK140; clear HB; have BK140 := n0_; have HB := n1_; clear n0_ n1_; (try clear hb); (try clear hb2); (try clear hk); (try clear hi)))
                                          go_ret
                                          exact ⟨by first | rfl | (simp [errW_none, errW_some] <;> rfl) | (simp [*, errW_none, errW_some] <;> rfl), by repeat (first | (with_reducible first | exact HB.out | apply below_alloc | apply pw_below_drewN | apply below_drew1 | refine below_set ?_ GE140.out) | exact HB.out)⟩
                                      · rw [if_neg c30] at H
                                        exact absurd H (by simp)
                                    · rw [if_neg c29] at H
                                      exact absurd H (by simp)
                                  · rw [if_neg c28] at H
                                    have c28b0 : decide (x64_5 < ((rd_L2 l0_1 x58_4).length : Int)) = false := decide_eq_false c28
                                    clear c28
                                    have H' := Aside0.mk H
                                    clear H
                                    go_wp2
                                    go_roundg k5
                                    case measure => have := HJ1.out; have := HK2.out; have := HK3.out; have := HK4.out; have := HK5.out; omega
                                    case rel => exact ⟨(wrap64 (x58_4 + 1)), (by first | rfl | (simp; done) | (simp [*]; done)), H', ⟨by have := HJ1.out; have := HK2.out; have := HK3.out; have := HK4.out; have := HK5.out; omega⟩, ⟨by (with_reducible repeat (first | refine blk_drewN ?_ _ | refine blk_drew ?_ | refine blk_alloc ?_ _)); exact BK140.out⟩, ⟨by repeat (first | (with_reducible first | exact HB.out | apply below_alloc | apply pw_below_drewN | apply below_drew1 | refine below_set ?_ GE140.out) | exact HB.out)⟩⟩
                            · rw [if_neg c27] at H
                              exact absurd H (by simp)
                          · rw [if_neg c26] at H
                            exact absurd H (by simp)
                        · rw [if_neg c25] at H
                          have c25b0 : decide (x58_4 < (l0_1.length : Int)) = false := decide_eq_false c25
                          clear c25
                          have H' := Aside0.mk H
                          clear H
                          have hcz35_0 : wr.cell? ⟨gb140, 0, none⟩ = some (.slice A0_0 l0_0.length c0_0) := (blk_cell BK140.out 0).trans rfl
                          have hcz35_1 : wr.cell? ⟨gb140, 1, none⟩ = some (.slice A0_1 l0_1.length c0_1) := (blk_cell BK140.out 1).trans rfl
                          have hfz35_0 := blk_frozen BK140.out 0
                          have hfz35_1 := blk_frozen BK140.out 1
                          go_wp2
                          go_loopg [78] k4 (fun kq v78 w' => ∃ (x78_5 : Int), v78 = .int .i64 x78_5 ∧ Aside0 (ephemerisref1_PageTableError.l4 kq l0_0 (l0_0.length : Int) x78_5 l0_0 l0_1 = some r) ∧ Aside0 (kq ≤ k4) ∧ Aside0 (w'.heap[gb140]? = some (.cells #[(.slice A0_0 l0_0.length c0_0), (.slice A0_1 l0_1.length c0_1)] 25 (0, 0))) ∧ Aside0 (Below w.heap.size w w'))
                          case atStart => exact ⟨(0), (by first | rfl | (simp; done) | (simp [*]; done)), H', ⟨Nat.le_refl _⟩, ⟨by (with_reducible repeat (first | refine blk_drewN ?_ _ | refine blk_drew ?_ | refine blk_alloc ?_ _)); exact BK140.out⟩, ⟨by repeat (first | (with_reducible first | exact HB.out | apply below_alloc | apply pw_below_drewN | apply below_drew1 | refine below_set ?_ GE140.out) | exact HB.out)⟩⟩
                          case round =>
                            clear H'
                            try clear c1
                            try clear p1
                            try clear q1
                            try clear hx1
                            try clear c2
                            try clear p2
                            try clear c3
                            try clear c5
                            try clear p6
                            try clear c8
                            try clear c10
                            try clear c10b0
                            try clear c11
                            try clear c11b0
                            try clear c12
                            try clear c12b0
                            try clear c13
                            try clear c13b0
                            try clear c13b1
                            try clear c13b2
                            try clear c14
                            try clear p14
                            try clear q14
                            try clear hx14
                            try clear c16
                            try clear c17
                            try clear c17b0
                            try clear c18
                            try clear c18b0
                            try clear c19
                            try clear c19b0
                            try clear c21
                            try clear c21b0
                            try clear c21b1
                            try clear c23
                            try clear c25
                            try clear c25b0
                            try clear c26
                            try clear c26b0
                            try clear c27
                            try clear c27b0
                            try clear c28
                            try clear c28b0
                            try clear c29
                            try clear c29b0
                            try clear c30
                            try clear c30b0
                            try clear c32
                            try clear c32b0
                            try clear c32b1
                            try clear hcz14_0
                            try clear hcz14_1
                            try clear hcz15_0
                            try clear hcz15_1
                            try clear hcz16_0
                            try clear hcz16_1
                            try clear hcz24_0
                            try clear hcz24_1
                            try clear hcz35_0
                            try clear hcz35_1
                            try clear hcz6_0
                            try clear hcz6_1
                            try clear hcz7_0
                            try clear hcz7_1
                            try clear hcz9_0
                            try clear hcz9_1
                            try clear hfz14_0
                            try clear hfz14_1
                            try clear hfz15_0
                            try clear hfz15_1
                            try clear hfz16_0
                            try clear hfz16_1
                            try clear hfz24_0
                            try clear hfz24_1
                            try clear hfz35_0
                            try clear hfz35_1
                            try clear hfz6_0
                            try clear hfz6_1
                            try clear hfz7_0
                            try clear hfz7_1
                            try clear hfz9_0
                            try clear hfz9_1
                            try clear hx142_0
                            try clear hx143_0
                            try clear hx145_0
                            try clear hx146_0
                            try clear p1
                            try clear p14
                            try clear p142
                            try clear p143
                            try clear p145
                            try clear p146
                            try clear p2
                            try clear p6
                            try clear q1
                            try clear q14
                            try clear q142
                            try clear q143
                            try clear q145
                            try clear q146
                            obtain ⟨x78_5, rfl, HA, HK5, BK140, HB⟩ := hrel
                            cases gk with
                            | zero => exact absurd HA.out (by simp [ephemerisref1_PageTableError.l4])
                            | succ k5 =>
                              have H := HA.out
                              clear HA
                              simp only [ephemerisref1_PageTableError.l4] at H
                              by_cases c36 : x78_5 < (l0_0.length : Int)
                              · rw [if_pos c36] at H
                                have c36b0 : decide (x78_5 < (l0_0.length : Int)) = true := decide_eq_true c36
                                clear c36
                                by_cases c37 : 0 ≤ x78_5
                                · rw [if_pos c37] at H
                                  have c37b0 : decide (0 ≤ x78_5) = true := decide_eq_true c37
                                  clear c37
                                  by_cases c38 : x78_5 < (l0_0.length : Int)
                                  · rw [if_pos c38] at H
                                    have c38b0 : decide (x78_5 < (l0_0.length : Int)) = true := decide_eq_true c38
                                    clear c38
                                    by_cases c39 : (rdOf ByteArray.empty l0_0 x78_5).toList = ([] : List UInt8)
                                    · rw [if_pos c39] at H
                                      have c39b0 : ((rdOf ByteArray.empty l0_0 x78_5).toList == ([] : List UInt8)) = true := beq_iff_eq.mpr c39
                                      have c39b1 : ((rdOf ByteArray.empty l0_0 x78_5).toList != ([] : List UInt8)) = false := bne_eq_false_iff_eq.mpr c39
                                      clear c39
                                      obtain rfl := Option.some.inj H
                                      have p148 : 0 ≤ (x78_5 : Int) := of_decide_eq_true (by first | (with_reducible assumption) | assumption)
                                      have q148 : x78_5 < (l0_0.length : Int) := of_decide_eq_true (by first | (with_reducible assumption) | assumption)
                                      obtain ⟨ad148, e148, hx148_0⟩ := Kd.at_string HR0_0.out x78_5 p148 q148
                                      cases e148
                                      replace hx148_0 := (HB.out.cell (World.block_lt_of_cell? w _ hx148_0)).trans hx148_0
                                      replace p148 := eq_true p148
                                      replace q148 := eq_true q148
                                      go_wp2
                                      go_ret
                                      exact ⟨by first | rfl | (simp [errW_none, errW_some] <;> rfl) | (simp [*, errW_none, errW_some] <;> rfl), by repeat (first | (with_reducible first | exact HB.out | apply below_alloc | apply pw_below_drewN | apply below_drew1 | refine below_set ?_ GE140.out) | exact HB.out)⟩
                                    · rw [if_neg c39] at H
                                      have c39b0 : ((rdOf ByteArray.empty l0_0 x78_5).toList == ([] : List UInt8)) = false := beq_eq_false_iff_ne.mpr c39
                                      have c39b1 : ((rdOf ByteArray.empty l0_0 x78_5).toList != ([] : List UInt8)) = true := bne_iff_ne.mpr c39
                                      have c40b0 := eq_true (of_decide_eq_true (by first | (with_reducible assumption) | assumption) : 0 ≤ x78_5)
                                      by_cases c41 : x78_5 ≤ (l0_0.length : Int)
                                      · rw [if_pos c41] at H
                                        have c41b0 := eq_true c41
                                        have c41b1 : decide (x78_5 ≤ (l0_0.length : Int)) = true := decide_eq_true c41
                                        clear c41
                                        have H' := Aside0.mk H
                                        clear H
                                        have p148 : 0 ≤ (x78_5 : Int) := of_decide_eq_true (by first | (with_reducible assumption) | assumption)
                                        have q148 : x78_5 < (l0_0.length : Int) := of_decide_eq_true (by first | (with_reducible assumption) | assumption)
                                        obtain ⟨ad148, e148, hx148_0⟩ := Kd.at_string HR0_0.out x78_5 p148 q148
                                        cases e148
                                        replace hx148_0 := (HB.out.cell (World.block_lt_of_cell? w _ hx148_0)).trans hx148_0
                                        replace p148 := eq_true p148
                                        replace q148 := eq_true q148
                                        have hcz42_0 : wr.cell? ⟨gb140, 0, none⟩ = some (.slice (some ad148) l0_0.length c0_0) := (blk_cell BK140.out 0).trans rfl
                                        have hcz42_1 : wr.cell? ⟨gb140, 1, none⟩ = some (.slice A0_1 l0_1.length c0_1) := (blk_cell BK140.out 1).trans rfl
                                        have hfz42_0 := blk_frozen BK140.out 0
                                        have hfz42_1 := blk_frozen BK140.out 1
                                        obtain ⟨i043, hi043, _, hsz43, _⟩ := info_parts info9
                                        have hmx_ : (((l0_0.take (x78_5 : Int).toNat).length : Nat) : Int) = max x78_5 0 := by have hb_ : x78_5 ≤ (l0_0.length : Int) := of_decide_eq_true (by first | (with_reducible assumption) | assumption); rw [List.length_take]; omega
                                        obtain ⟨hcut43, hA43, hC43⟩ := print_take_of (P := Tryd.prog) Value.string (⟨#[]⟩ : ByteArray) 22 9 .i64 Tryd.underlying22 hi043 hsz43 (some ad148) c0_0 l0_0 x78_5 (of_decide_eq_true (by first | (with_reducible assumption) | assumption)) (of_decide_eq_true (by first | (with_reducible assumption) | assumption)) HC0_0.out
                                        have HR149 := Aside0.mk (Kd.C_of_reads (h1 := fun _ => rfl) (hA43 _ (Kd.reads_of_C HR0_0.out)))
                                        have HC149 := Aside0.mk hC43
                                        clear hA43 hC43 hi043 hsz43
                                        go_wp2
                                        go_loopg [90] k5 (fun kq v90 w' => ∃ (x90_6 : Int), v90 = .int .i64 x90_6 ∧ Aside0 (ephemerisref1_PageTableError.l5 kq (rdOf ByteArray.empty l0_0 x78_5) l0_0 (l0_0.length : Int) x78_5 (l0_0.take (x78_5 : Int).toNat) ((l0_0.take (x78_5 : Int).toNat).length : Int) x90_6 l0_0 l0_1 = some r) ∧ Aside0 (kq ≤ k5) ∧ Aside0 (w'.heap[gb140]? = some (.cells #[(.slice (some ad148) l0_0.length c0_0), (.slice A0_1 l0_1.length c0_1)] 25 (0, 0))) ∧ Aside0 (Below w.heap.size w w'))
                                        case atStart => exact ⟨(0), (by first | rfl | (simp; done) | (simp [*]; done)), H', ⟨Nat.le_refl _⟩, ⟨by (with_reducible repeat (first | refine blk_drewN ?_ _ | refine blk_drew ?_ | refine blk_alloc ?_ _)); exact BK140.out⟩, ⟨by repeat (first | (with_reducible first | exact HB.out | apply below_alloc | apply pw_below_drewN | apply below_drew1 | refine below_set ?_ GE140.out) | exact HB.out)⟩⟩
                                        case round =>
                                          clear H'
                                          try clear c1
                                          try clear p1
                                          try clear q1
                                          try clear hx1
                                          try clear c2
                                          try clear p2
                                          try clear c3
                                          try clear c4
                                          try clear c5
                                          try clear p6
                                          try clear c8
                                          try clear c10
                                          try clear c10b0
                                          try clear c11
                                          try clear c11b0
                                          try clear c12
                                          try clear c12b0
                                          try clear c13
                                          try clear c13b0
                                          try clear c13b1
                                          try clear c13b2
                                          try clear c14
                                          try clear p14
                                          try clear q14
                                          try clear hx14
                                          try clear c16
                                          try clear c17
                                          try clear c17b0
                                          try clear c18
                                          try clear c18b0
                                          try clear c19
                                          try clear c19b0
                                          try clear c21
                                          try clear c21b0
                                          try clear c21b1
                                          try clear c23
                                          try clear c25
                                          try clear c25b0
                                          try clear c26
                                          try clear c26b0
                                          try clear c27
                                          try clear c27b0
                                          try clear c28
                                          try clear c28b0
                                          try clear c29
                                          try clear c29b0
                                          try clear c30
                                          try clear c30b0
                                          try clear c32
                                          try clear c32b0
                                          try clear c32b1
                                          try clear c36
                                          try clear c36b0
                                          try clear c37
                                          try clear c37b0
                                          try clear c38
                                          try clear c38b0
                                          try clear c39
                                          try clear c39b0
                                          try clear c39b1
                                          try clear c40
                                          try clear c40b0
                                          try clear c41
                                          try clear c41b0
                                          try clear c41b1
                                          try clear hcz14_0
                                          try clear hcz14_1
                                          try clear hcz15_0
                                          try clear hcz15_1
                                          try clear hcz16_0
                                          try clear hcz16_1
                                          try clear hcz24_0
                                          try clear hcz24_1
                                          try clear hcz35_0
                                          try clear hcz35_1
                                          try clear hcz42_0
                                          try clear hcz42_1
                                          try clear hcz6_0
                                          try clear hcz6_1
                                          try clear hcz7_0
                                          try clear hcz7_1
                                          try clear hcz9_0
                                          try clear hcz9_1
                                          try clear hfz14_0
                                          try clear hfz14_1
                                          try clear hfz15_0
                                          try clear hfz15_1
                                          try clear hfz16_0
                                          try clear hfz16_1
                                          try clear hfz24_0
                                          try clear hfz24_1
                                          try clear hfz35_0
                                          try clear hfz35_1
                                          try clear hfz42_0
                                          try clear hfz42_1
                                          try clear hfz6_0
                                          try clear hfz6_1
                                          try clear hfz7_0
                                          try clear hfz7_1
                                          try clear hfz9_0
                                          try clear hfz9_1
                                          try clear hx142_0
                                          try clear hx143_0
                                          try clear hx145_0
                                          try clear hx146_0
                                          try clear hx148_0
                                          try clear p1
                                          try clear p14
                                          try clear p142
                                          try clear p143
                                          try clear p145
                                          try clear p146
                                          try clear p148
                                          try clear p2
                                          try clear p6
                                          try clear q1
                                          try clear q14
                                          try clear q142
                                          try clear q143
                                          try clear q145
                                          try clear q146
                                          try clear q148
                                          obtain ⟨x90_6, rfl, HA, HK6, BK140, HB⟩ := hrel
                                          cases gk with
                                          | zero => exact absurd HA.out (by simp [ephemerisref1_PageTableError.l5])
                                          | succ k6 =>
                                            have H := HA.out
                                            clear HA
                                            simp only [ephemerisref1_PageTableError.l5] at H
                                            by_cases c44 : x90_6 < ((l0_0.take (x78_5 : Int).toNat).length : Int)
                                            · rw [if_pos c44] at H
                                              have c44b0 : decide (x90_6 < ((l0_0.take (x78_5 : Int).toNat).length : Int)) = true := decide_eq_true c44
                                              have c44m : decide (x90_6 < max x78_5 0) = true := by rw [← hmx_]; exact c44b0
                                              have c44p : (x90_6 < max x78_5 0) = True := eq_true (of_decide_eq_true c44m)
                                              clear c44
                                              by_cases c45 : 0 ≤ x90_6
                                              · rw [if_pos c45] at H
                                                have c45b0 : decide (0 ≤ x90_6) = true := decide_eq_true c45
                                                clear c45
                                                by_cases c46 : x90_6 < ((l0_0.take (x78_5 : Int).toNat).length : Int)
                                                · rw [if_pos c46] at H
                                                  have c46b0 : decide (x90_6 < ((l0_0.take (x78_5 : Int).toNat).length : Int)) = true := decide_eq_true c46
                                                  have c46m : decide (x90_6 < max x78_5 0) = true := by rw [← hmx_]; exact c46b0
                                                  have c46p : (x90_6 < max x78_5 0) = True := eq_true (of_decide_eq_true c46m)
                                                  clear c46
                                                  by_cases c47 : (rdOf ByteArray.empty (l0_0.take (x78_5 : Int).toNat) x90_6).toList = (rdOf ByteArray.empty l0_0 x78_5).toList
                                                  · rw [if_pos c47] at H
                                                    have c47b0 : ((rdOf ByteArray.empty (l0_0.take (x78_5 : Int).toNat) x90_6).toList == (rdOf ByteArray.empty l0_0 x78_5).toList) = true := beq_iff_eq.mpr c47
                                                    have c47b1 : ((rdOf ByteArray.empty (l0_0.take (x78_5 : Int).toNat) x90_6).toList != (rdOf ByteArray.empty l0_0 x78_5).toList) = false := bne_eq_false_iff_eq.mpr c47
                                                    clear c47
                                                    obtain rfl := Option.some.inj H
                                                    have p150 : 0 ≤ (x90_6 : Int) := of_decide_eq_true (by first | (with_reducible assumption) | assumption)
                                                    have q150 : x90_6 < ((l0_0.take (x78_5 : Int).toNat).length : Int) := of_decide_eq_true (by first | (with_reducible assumption) | assumption)
                                                    obtain ⟨ad150, e150, hx150_0⟩ := Kd.at_string HR149.out x90_6 p150 q150
                                                    obtain rfl : ad148 = ad150 := (by injection e150)
                                                    replace hx150_0 := (HB.out.cell (World.block_lt_of_cell? w _ hx150_0)).trans hx150_0
                                                    replace p150 := eq_true p150
                                                    replace q150 := eq_true q150
                                                    go_wp2
                                                    go_ret
                                                    exact ⟨by first | rfl | (simp [errW_none, errW_some] <;> rfl) | (simp [*, errW_none, errW_some] <;> rfl), by repeat (first | (with_reducible first | exact HB.out | apply below_alloc | apply pw_below_drewN | apply below_drew1 | refine below_set ?_ GE140.out) | exact HB.out)⟩
                                                  · rw [if_neg c47] at H
                                                    have c47b0 : ((rdOf ByteArray.empty (l0_0.take (x78_5 : Int).toNat) x90_6).toList == (rdOf ByteArray.empty l0_0 x78_5).toList) = false := beq_eq_false_iff_ne.mpr c47
                                                    have c47b1 : ((rdOf ByteArray.empty (l0_0.take (x78_5 : Int).toNat) x90_6).toList != (rdOf ByteArray.empty l0_0 x78_5).toList) = true := bne_iff_ne.mpr c47
                                                    have H' := Aside0.mk H
                                                    clear H
                                                    have p150 : 0 ≤ (x90_6 : Int) := of_decide_eq_true (by first | (with_reducible assumption) | assumption)
                                                    have q150 : x90_6 < ((l0_0.take (x78_5 : Int).toNat).length : Int) := of_decide_eq_true (by first | (with_reducible assumption) | assumption)
                                                    obtain ⟨ad150, e150, hx150_0⟩ := Kd.at_string HR149.out x90_6 p150 q150
                                                    obtain rfl : ad148 = ad150 := (by injection e150)
                                                    replace hx150_0 := (HB.out.cell (World.block_lt_of_cell? w _ hx150_0)).trans hx150_0
                                                    replace p150 := eq_true p150
                                                    replace q150 := eq_true q150
                                                    go_wp2
                                                    go_roundg k6
                                                    case measure => have := HJ1.out; have := HK2.out; have := HK3.out; have := HK4.out; have := HK5.out; have := HK6.out; omega
                                                    case rel => exact ⟨(wrap64 (x90_6 + 1)), (by first | rfl | (simp; done) | (simp [*]; done)), H', ⟨by have := HJ1.out; have := HK2.out; have := HK3.out; have := HK4.out; have := HK5.out; have := HK6.out; omega⟩, ⟨by (with_reducible repeat (first | refine blk_drewN ?_ _ | refine blk_drew ?_ | refine blk_alloc ?_ _)); exact BK140.out⟩, ⟨by repeat (first | (with_reducible first | exact HB.out | apply below_alloc | apply pw_below_drewN | apply below_drew1 | refine below_set ?_ GE140.out) | exact HB.out)⟩⟩
                                                · rw [if_neg c46] at H
                                                  exact absurd H (by simp)
                                              · rw [if_neg c45] at H
                                                exact absurd H (by simp)
                                            · rw [if_neg c44] at H
                                              have c44b0 : decide (x90_6 < ((l0_0.take (x78_5 : Int).toNat).length : Int)) = false := decide_eq_false c44
                                              have c44m : decide (x90_6 < max x78_5 0) = false := by rw [← hmx_]; exact c44b0
                                              clear c44
                                              have H' := Aside0.mk H
                                              clear H
                                              go_wp2
                                              go_roundg k6
                                              case measure => have := HJ1.out; have := HK2.out; have := HK3.out; have := HK4.out; have := HK5.out; have := HK6.out; omega
                                              case rel => exact ⟨(wrap64 (x78_5 + 1)), (by first | rfl | (simp; done) | (simp [*]; done)), H', ⟨by have := HJ1.out; have := HK2.out; have := HK3.out; have := HK4.out; have := HK5.out; have := HK6.out; omega⟩, ⟨by (with_reducible repeat (first | refine blk_drewN ?_ _ | refine blk_drew ?_ | refine blk_alloc ?_ _)); exact BK140.out⟩, ⟨by repeat (first | (with_reducible first | exact HB.out | apply below_alloc | apply pw_below_drewN | apply below_drew1 | refine below_set ?_ GE140.out) | exact HB.out)⟩⟩
                                      · rw [if_neg c41] at H
                                        exact absurd H (by simp)
                                  · rw [if_neg c38] at H
                                    exact absurd H (by simp)
                                · rw [if_neg c37] at H
                                  exact absurd H (by simp)
                              · rw [if_neg c36] at H
                                have c36b0 : decide (x78_5 < (l0_0.length : Int)) = false := decide_eq_false c36
                                clear c36
                                obtain rfl := Option.some.inj H
                                go_wp2
                                go_ret
                                exact ⟨by first | rfl | (simp [errW_none, errW_some] <;> rfl) | (simp [*, errW_none, errW_some] <;> rfl), by repeat (first | (with_reducible first | exact HB.out | apply below_alloc | apply pw_below_drewN | apply below_drew1 | refine below_set ?_ GE140.out) | exact HB.out)⟩

end Go.Proofs.YtblmcfebfdegbaaDoor.PPageChecks
