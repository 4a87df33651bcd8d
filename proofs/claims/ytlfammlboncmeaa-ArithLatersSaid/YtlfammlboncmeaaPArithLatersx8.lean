/- The walks of the functions of this part, laid closer by a program of mine. -/
-- The walks of the law's functions, told by a program.
import Derived.Test.YtlfammlboncmeaaY
import Derived.Test.YtlfammlboncmeaaPArithLatersx0
import Derived.Test.YtlfammlboncmeaaPArithLatersx7
namespace Go.Proofs.Ytlfammlboncmeaa.PArithLaters
open Go.RowKit Go.Proofs.YtlfammlboncmeaaW.PrintWords Go.Proofs.YtlfammlboncmeaaW.PrintLast Go.Proofs.YtlfammlboncmeaaW.PrintMore Go.Proofs.Ytlfammlboncmeaa.Y
attribute [local go_sem] max2_int min2_int max_two min_two max_three min_three max_four min_four   -- for this text's walks alone
set_option linter.unusedVariables false
set_option linter.unusedSimpArgs false

/-! ### ephemerisref1_Apart: function 23 -/
mutual
def ephemerisref1_Apart.l0 : Nat → List Int → Int → Int → ByteArray → Int → Int → List (S125) → List Int → ByteArray → Int → Int → List (S125) → List Int → List Bool → Int → Int → Int → Option (ByteArray × Int × Int × (List (S125)) × List Int × List Bool × Int × Int × Int)
 | 0, _, _, _, _, _, _, _, _, _, _, _, _, _, _, _, _, _ => none
 | k + 1, x16, x17, x18, x218000, x218001, x218002, x218003, x218004, x223000, x223001, x223002, x223003, x223004, x223005, x223006, x223007, x223008 => if x18 < x17 then (if 0 ≤ x18 then (if x18 < (x16.length : Int) then (if 0 ≤ (wrap64 ((rd x16 x18) - 1)) then (if (wrap64 ((rd x16 x18) - 1)) < (x223005.length : Int) then (ephemerisref1_Apart.l0 k x16 x17 (wrap64 (x18 + 1)) x218000 x218001 x218002 x218003 x218004 x223000 x223001 x223002 x223003 x223004 (x223005.set ((wrap64 ((rd x16 x18) - 1)) : Int).toNat true) x223006 x223007 x223008) else (none)) else (none)) else (none)) else (none)) else (ephemerisref1_Apart.l1 k x218003 (x218003.length : Int) 0 x223000 x223001 x223002 x223003 x223004 x223005 x223006 x223007 x223008)
def ephemerisref1_Apart.l1 : Nat → List (S125) → Int → Int → ByteArray → Int → Int → List (S125) → List Int → List Bool → Int → Int → Int → Option (ByteArray × Int × Int × (List (S125)) × List Int × List Bool × Int × Int × Int)
 | 0, _, _, _, _, _, _, _, _, _, _, _, _ => none
 | k + 1, x29, x30, x31, x223000, x223001, x223002, x223003, x223004, x223005, x223006, x223007, x223008 => if x31 < x30 then (if 0 ≤ x31 then (if x31 < (x29.length : Int) then (ephemerisref1_Apart.l1 k x29 x30 (wrap64 (x31 + 1)) x223000 x223001 x223002 x223003 x223004 x223005 (wrap64 (x223006 + ((rd_T125 x29 x31).f1))) (wrap64 (x223007 + ((rd_T125 x29 x31).f2))) x223008) else (none)) else (none)) else (ephemerisref1_Apart.l2 k x223005 (x223005.length : Int) 0 x223000 x223001 x223002 x223003 x223004 x223005 x223006 x223007 x223008)
def ephemerisref1_Apart.l2 : Nat → List Bool → Int → Int → ByteArray → Int → Int → List (S125) → List Int → List Bool → Int → Int → Int → Option (ByteArray × Int × Int × (List (S125)) × List Int × List Bool × Int × Int × Int)
 | 0, _, _, _, _, _, _, _, _, _, _, _, _ => none
 | k + 1, x53, x54, x55, x223000, x223001, x223002, x223003, x223004, x223005, x223006, x223007, x223008 => if x55 < x54 then (if 0 ≤ x55 then (if x55 < (x53.length : Int) then ((ephemerisref1_yes.f (rdOf false x53 x55)).bind fun t228 => (if t228 = 0 then (ephemerisref1_Apart.l2 k x53 x54 (wrap64 (x55 + 1)) x223000 x223001 x223002 x223003 x223004 x223005 x223006 x223007 (wrap64 (x223008 + x223006))) else (if t228 = 1 then (ephemerisref1_Apart.l2 k x53 x54 (wrap64 (x55 + 1)) x223000 x223001 x223002 x223003 x223004 x223005 x223006 x223007 (wrap64 (x223008 + x223007))) else (none)))) else (none)) else (none)) else (some (x223000, x223001, x223002, x223003, x223004, x223005, x223006, x223007, x223008))
end
def ephemerisref1_Apart.f (k : Nat) (a0_0 : ByteArray) (a0_1 : Int) (a0_2 : Int) (l0_3 : List (S125)) (l0_4 : List Int) : Option (ByteArray × Int × Int × (List (S125)) × List Int × List Bool × Int × Int × Int) := if 0 ≤ a0_2 then (if (a0_2 : Int).toNat ≤ 281474976710656 then (ephemerisref1_Apart.l0 k l0_4 (l0_4.length : Int) 0 a0_0 a0_1 a0_2 l0_3 l0_4 a0_0 a0_1 a0_2 l0_3 l0_4 (List.replicate (a0_2 : Int).toNat false) 0 0 0) else (none)) else (none)
theorem ephemerisref1_Apart.mono_l : ∀ k, (∀ y0 y1 y2 y3 y4 y5 y6 y7 y8 y9 y10 y11 y12 y13 y14 y15 y16, LeO (ephemerisref1_Apart.l0 k y0 y1 y2 y3 y4 y5 y6 y7 y8 y9 y10 y11 y12 y13 y14 y15 y16) (ephemerisref1_Apart.l0 (k + 1) y0 y1 y2 y3 y4 y5 y6 y7 y8 y9 y10 y11 y12 y13 y14 y15 y16)) ∧ (∀ y0 y1 y2 y3 y4 y5 y6 y7 y8 y9 y10 y11, LeO (ephemerisref1_Apart.l1 k y0 y1 y2 y3 y4 y5 y6 y7 y8 y9 y10 y11) (ephemerisref1_Apart.l1 (k + 1) y0 y1 y2 y3 y4 y5 y6 y7 y8 y9 y10 y11)) ∧ (∀ y0 y1 y2 y3 y4 y5 y6 y7 y8 y9 y10 y11, LeO (ephemerisref1_Apart.l2 k y0 y1 y2 y3 y4 y5 y6 y7 y8 y9 y10 y11) (ephemerisref1_Apart.l2 (k + 1) y0 y1 y2 y3 y4 y5 y6 y7 y8 y9 y10 y11))
 | 0 => ⟨fun _ _ _ _ _ _ _ _ _ _ _ _ _ _ _ _ _ r h => by simp [ephemerisref1_Apart.l0] at h, fun _ _ _ _ _ _ _ _ _ _ _ _ r h => by simp [ephemerisref1_Apart.l1] at h, fun _ _ _ _ _ _ _ _ _ _ _ _ r h => by simp [ephemerisref1_Apart.l2] at h⟩
 | k + 1 => by
  obtain ⟨ih0, ih1, ih2⟩ := ephemerisref1_Apart.mono_l k
  refine ⟨?_, ?_, ?_⟩
  ·intro y0 y1 y2 y3 y4 y5 y6 y7 y8 y9 y10 y11 y12 y13 y14 y15 y16
   unfold ephemerisref1_Apart.l0
   repeat' first
   | (with_reducible exact ih0 _ _ _ _ _ _ _ _ _ _ _ _ _ _ _ _ _)
   | (with_reducible exact ih1 _ _ _ _ _ _ _ _ _ _ _ _)
   | (with_reducible exact ih2 _ _ _ _ _ _ _ _ _ _ _ _)
   | (with_reducible exact LeO.refl _)
   | (with_reducible exact LeO.none _)
   | (with_reducible refine LeO.ite ?_ ?_)
   | (with_reducible refine LeO.bind ?_ (fun _ => ?_))
   | exact ih0 _ _ _ _ _ _ _ _ _ _ _ _ _ _ _ _ _
   | exact ih1 _ _ _ _ _ _ _ _ _ _ _ _
   | exact ih2 _ _ _ _ _ _ _ _ _ _ _ _
   | exact LeO.none _
   | refine LeO.ite ?_ ?_
   | refine LeO.bind ?_ (fun _ => ?_)
  ·intro y0 y1 y2 y3 y4 y5 y6 y7 y8 y9 y10 y11
   unfold ephemerisref1_Apart.l1
   repeat' first
   | (with_reducible exact ih0 _ _ _ _ _ _ _ _ _ _ _ _ _ _ _ _ _)
   | (with_reducible exact ih1 _ _ _ _ _ _ _ _ _ _ _ _)
   | (with_reducible exact ih2 _ _ _ _ _ _ _ _ _ _ _ _)
   | (with_reducible exact LeO.refl _)
   | (with_reducible exact LeO.none _)
   | (with_reducible refine LeO.ite ?_ ?_)
   | (with_reducible refine LeO.bind ?_ (fun _ => ?_))
   | exact ih0 _ _ _ _ _ _ _ _ _ _ _ _ _ _ _ _ _
   | exact ih1 _ _ _ _ _ _ _ _ _ _ _ _
   | exact ih2 _ _ _ _ _ _ _ _ _ _ _ _
   | exact LeO.none _
   | refine LeO.ite ?_ ?_
   | refine LeO.bind ?_ (fun _ => ?_)
  ·intro y0 y1 y2 y3 y4 y5 y6 y7 y8 y9 y10 y11
   unfold ephemerisref1_Apart.l2
   repeat' first
   | (with_reducible exact ih0 _ _ _ _ _ _ _ _ _ _ _ _ _ _ _ _ _)
   | (with_reducible exact ih1 _ _ _ _ _ _ _ _ _ _ _ _)
   | (with_reducible exact ih2 _ _ _ _ _ _ _ _ _ _ _ _)
   | (with_reducible exact LeO.refl _)
   | (with_reducible exact LeO.none _)
   | (with_reducible refine LeO.ite ?_ ?_)
   | (with_reducible refine LeO.bind ?_ (fun _ => ?_))
   | exact ih0 _ _ _ _ _ _ _ _ _ _ _ _ _ _ _ _ _
   | exact ih1 _ _ _ _ _ _ _ _ _ _ _ _
   | exact ih2 _ _ _ _ _ _ _ _ _ _ _ _
   | exact LeO.none _
   | refine LeO.ite ?_ ?_
   | refine LeO.bind ?_ (fun _ => ?_)
theorem ephemerisref1_Apart.mono : ∀ a0 a1 a2 a3 a4 k, LeO (ephemerisref1_Apart.f k a0 a1 a2 a3 a4) (ephemerisref1_Apart.f (k + 1) a0 a1 a2 a3 a4) := by
 intro a0 a1 a2 a3 a4 k
 obtain ⟨ih0, ih1, ih2⟩ := ephemerisref1_Apart.mono_l k
 unfold ephemerisref1_Apart.f
 repeat' first
   | (with_reducible exact ih0 _ _ _ _ _ _ _ _ _ _ _ _ _ _ _ _ _)
   | (with_reducible exact ih1 _ _ _ _ _ _ _ _ _ _ _ _)
   | (with_reducible exact ih2 _ _ _ _ _ _ _ _ _ _ _ _)
   | (with_reducible exact LeO.refl _)
   | (with_reducible exact LeO.none _)
   | (with_reducible refine LeO.ite ?_ ?_)
   | (with_reducible refine LeO.bind ?_ (fun _ => ?_))
   | exact ih0 _ _ _ _ _ _ _ _ _ _ _ _ _ _ _ _ _
   | exact ih1 _ _ _ _ _ _ _ _ _ _ _ _
   | exact ih2 _ _ _ _ _ _ _ _ _ _ _ _
   | exact LeO.none _
   | refine LeO.ite ?_ ?_
   | refine LeO.bind ?_ (fun _ => ?_)
def ephemerisref1_Apart.T16 : Bool × List (List Nat × List Nat) := (true, [([], []), ([0], [0]), ([], []), ([2], [2]), ([], []), ([4, 3], [3, 4]), ([5], [5]), ([1, 6], [1, 6]), ([0, 1, 2, 3, 4, 5, 6, 7], []), ([8, 7, 3, 0, 1, 2, 3, 4, 5, 6, 7], [7, 8])])
def ephemerisref1_Apart.B16 : List Nat := [0, 1, 0, 4, 0, 28, 60, 127, 255, 511]
theorem ephemerisref1_Apart.tab16 : rtab .any (opsOf Try.f23 16) = ephemerisref1_Apart.T16 := by kernel_rfl
theorem ephemerisref1_Apart.bits16 : waitsOk ephemerisref1_Apart.T16.2 ephemerisref1_Apart.B16 = true := by kernel_rfl
set_option maxHeartbeats 8000000 in
set_option maxRecDepth 100000 in
theorem ephemerisref1_Apart.calls (k : Nat) (a0_0 : ByteArray) (a0_1 : Int) (a0_2 : Int) (P0_3_ : Nat → Prop) (A0_3 : Option Addr) (c0_3 : Nat) (l0_3 : List (S125)) (P0_4_ : Nat → Prop) (A0_4 : Option Addr) (c0_4 : Nat) (l0_4 : List Int) (r1 : ByteArray) (r2 : Int) (r3 : Int) (r4 : List (S125)) (r5 : List Int) (r6 : List Bool) (r7 : Int) (r8 : Int) (r9 : Int) (w : World) (hs0_3 : Kd.V k125 125 w w.heap.size (fun k_ => P0_3_ k_) (.slice A0_3 l0_3.length c0_3) l0_3) (hs0_4 : Kd.V (Kd.int .i64) 3 w w.heap.size (fun k_ => P0_4_ k_) (.slice A0_4 l0_4.length c0_4) l0_4) (h : ephemerisref1_Apart.f k a0_0 a0_1 a0_2 l0_3 l0_4 = some (r1, r2, r3, r4, r5, r6, r7, r8, r9)) :
  Calls Try.prog 23 #[.agg #[.string a0_0, .int .i64 a0_1, .int .i64 a0_2, .slice A0_3 l0_3.length c0_3, .slice A0_4 l0_4.length c0_4]] w fun e w' => ∃ v3_ v4_ v5_ : Value, e = .returned (.agg #[.string r1, .int .i64 r2, .int .i64 r3, v3_, v4_, v5_, .int .i64 r7, .int .i64 r8, .int .i64 r9]) ∧ Kd.V k125 125 w' w.heap.size (fun k_ => ((P0_3_ k_ ∨ P0_4_ k_) ∨ w.heap.size ≤ k_) ∧ some k_ ≠ (v5_ : Value).ownBlock) v3_ r4 ∧ Kd.V (Kd.int .i64) 3 w' w.heap.size (fun k_ => ((P0_3_ k_ ∨ P0_4_ k_) ∨ w.heap.size ≤ k_) ∧ some k_ ≠ (v5_ : Value).ownBlock) v4_ r5 ∧ Kd.R Kd.bool 4 w' w.heap.size (fun k_ => (w.heap.size ≤ k_)) v5_ r6 ∧ Below w.heap.size w w' := by
 have hu44 := Try.underlying44
 have hu53 := Try.underlying53
 have hu125 := Try.underlying125
 have HO0_3 := Aside0.mk (show Kd.V k125 125 w w.heap.size (fun k_ => ((P0_3_ k_ ∨ P0_4_ k_) ∨ w.heap.size ≤ k_)) (.slice A0_3 l0_3.length c0_3) l0_3 from Kd.V_mono hs0_3 (fun k_ hk => .inl (.inl hk)))
 have HO0_4 := Aside0.mk (show Kd.V (Kd.int .i64) 3 w w.heap.size (fun k_ => ((P0_3_ k_ ∨ P0_4_ k_) ∨ w.heap.size ≤ k_)) (.slice A0_4 l0_4.length c0_4) l0_4 from Kd.V_mono hs0_4 (fun k_ hk => .inl (.inr hk)))
 have HB := Aside0.mk (Below.refl w.heap.size w)
 have H : (if 0 ≤ a0_2 then (if (a0_2 : Int).toNat ≤ 281474976710656 then (ephemerisref1_Apart.l0 k l0_4 (l0_4.length : Int) 0 a0_0 a0_1 a0_2 l0_3 l0_4 a0_0 a0_1 a0_2 l0_3 l0_4 (List.replicate (a0_2 : Int).toNat false) 0 0 0) else (none)) else (none)) = some (r1, r2, r3, r4, r5, r6, r7, r8, r9) := h
 clear h
 by_cases c2 : 0 ≤ a0_2
 ·rw [if_pos c2] at H
  have c2b0 := eq_true c2
  have c2b1 : decide (0 ≤ a0_2) = true := decide_eq_true c2
  clear c2
  by_cases c3 : (a0_2 : Int).toNat ≤ 281474976710656
  ·rw [if_pos c3] at H
   have c3b0 := eq_true c3
   have c3b1 : decide ((a0_2 : Int).toNat ≤ 281474976710656) = true := decide_eq_true c3
   clear c3
   obtain ⟨y219, hy219⟩ : ∃ y_ : List Bool, y_ = (List.replicate (a0_2 : Int).toNat false) := ⟨_, rfl⟩
   replace H : (ephemerisref1_Apart.l0 k l0_4 (l0_4.length : Int) 0 a0_0 a0_1 a0_2 l0_3 l0_4 a0_0 a0_1 a0_2 l0_3 l0_4 y219 0 0 0) = some (r1, r2, r3, r4, r5, r6, r7, r8, r9) := rp hy219 H
   have Ny219 := Aside0.mk hy219
   clear hy219
   have H' := Aside0.mk H
   clear H
   go_enter Try.func23, Try.ntmps23
   try go_wp2_with (first | ((with_reducible refine gate_dst (N := 1) rfl ?_); refine box_event ?hg (N := 1) ?hd (cs := #[.string a0_0, .int .i64 a0_1, .int .i64 a0_2, .slice A0_3 l0_3.length c0_3, .slice A0_4 l0_4.length c0_4]) (t := 44) ?hr ?_; (case hd => rfl); (case hg => rfl); (case hr => first | (go_simp; done) | (go_simp; rfl)); intro gb217 hg w4 hbox hb; have n0_ := Aside0.mk (Kd.V_below (Kd.V_elderB (by (with_reducible repeat (first | apply Kd.V_alloc | apply Kd.V_drewN | apply Kd.V_drew)); exact HO0_3.out) gb217 (Nat.le_of_eq hg.symm)) hb); have n1_ := Aside0.mk (Kd.V_below (Kd.V_elderB (by (with_reducible repeat (first | apply Kd.V_alloc | apply Kd.V_drewN | apply Kd.V_drew)); exact HO0_4.out) gb217 (Nat.le_of_eq hg.symm)) hb); have n2_ := Aside0.mk (below_step be hb); have n3_ := Aside0.mk (hbox); have n4_ := gs hg HB; have n5_ := n4_; clear HO0_3; clear HO0_4; clear HB; have HO0_3 := n0_; have HO0_4 := n1_; have HB := n2_; have BK217 := n3_; have GW217 := n4_; have GE217 := n5_; clear n0_ n1_ n2_ n3_ n4_ n5_; clear hb hbox hg) | ((with_reducible refine gate_dst (N := 2) rfl ?_); refine box_event ?hg (N := 2) ?hd (cs := #[.string (⟨#[]⟩ : ByteArray), .int .i64 0, .int .i64 0, .slice none 0 0, .slice none 0 0, .slice none 0 0, .int .i64 0, .int .i64 0, .int .i64 0]) (t := 53) ?hr ?_; (case hd => rfl); (case hg => rfl); (case hr => first | (go_simp; done) | (go_simp; rfl)); intro gb218 hg w5 hbox hb; have n0_ := Aside0.mk (Kd.V_below (Kd.V_elderB (by (with_reducible repeat (first | apply Kd.V_alloc | apply Kd.V_drewN | apply Kd.V_drew)); exact HO0_3.out) gb218 (Nat.le_of_eq hg.symm)) hb); have n1_ := Aside0.mk (Kd.V_below (Kd.V_elderB (by (with_reducible repeat (first | apply Kd.V_alloc | apply Kd.V_drewN | apply Kd.V_drew)); exact HO0_4.out) gb218 (Nat.le_of_eq hg.symm)) hb); have n2_ := bb BK217 hb; have n3_ := Aside0.mk (below_step be hb); have n4_ := Aside0.mk (hbox); have n5_ := gs hg HB; have n6_ := n5_; have n7_ := nl BK217 hg; have n8_ := ns n7_; clear HO0_3; clear HO0_4; clear BK217; clear HB; have HO0_3 := n0_; have HO0_4 := n1_; have BK217 := n2_; have HB := n3_; have BK218 := n4_; have GW218 := n5_; have GE218 := n6_; have NB217_218 := n7_; have NB218_217 := n8_; clear n0_ n1_ n2_ n3_ n4_ n5_ n6_ n7_ n8_; clear hb hbox hg))
   have n0_ := Aside0.mk (Kd.V_drew HO0_3.out)
   have n1_ := Aside0.mk (Kd.V_drew HO0_4.out)
   have n2_ := Aside0.mk (blk_drew BK217.out)
   have n3_ := Aside0.mk (blk_drew BK218.out)
   have n4_ := Aside0.mk (below_drew1 HB.out)
   clear HO0_3
   clear HO0_4
   clear BK217
   clear BK218
   clear HB
   have HO0_3 := n0_
   have HO0_4 := n1_
   have BK217 := n2_
   have BK218 := n3_
   have HB := n4_
   clear n0_ n1_ n2_ n3_ n4_
   refine start_ (n := 7) (S := fun w' => w'.cell? ⟨gb217, 0, none⟩ = some (.string a0_0) ∧ w'.cell? ⟨gb217, 1, none⟩ = some (.int .i64 a0_1) ∧ w'.cell? ⟨gb217, 2, none⟩ = some (.int .i64 a0_2) ∧ w'.cell? ⟨gb217, 3, none⟩ = some (.slice A0_3 l0_3.length c0_3) ∧ w'.cell? ⟨gb217, 4, none⟩ = some (.slice A0_4 l0_4.length c0_4)) (ds := []) #[false, false, false, false, false, false, false] kx rfl rfl ⟨(blk_cell BK217.out 0).trans rfl, (blk_cell BK217.out 1).trans rfl, (blk_cell BK217.out 2).trans rfl, (blk_cell BK217.out 3).trans rfl, (blk_cell BK217.out 4).trans rfl⟩ (fun hHeld => ?_)
   generalize w5.drew = w6 at HO0_3 HO0_4 BK217 BK218 HB hHeld ⊢
   refine pure_ (i := 1) (N := some 11) (v := ?_) (a' := ?_) #[false, true, false, false, false, false, false] rfl rfl kx (fun _ _ _ h => h) (Or.inl ⟨by rfl, ?_⟩) ?_ ?_
   rotate_left
   ·intro w'
    go_simp
    with_reducible rfl
   rotate_left
   ·simp only [Act.put, List.setIfInBounds_toArray, List.set_cons_zero, List.set_cons_succ, i64_w, i32_w]
    rfl
   refine take_ (i := 0) (N := some 10) (v := ?_) (a' := ?_) #[true, true, false, false, false, false, false] rfl rfl kx (fun _ _ _ h => h) (Or.inl ⟨by rfl, ?_⟩) hHeld ?_ ?_
   rotate_left
   ·rintro w' ⟨s0, s1, s2, s3, s4⟩
    go_simp
    with_reducible rfl
   rotate_left
   ·simp only [Act.put, List.setIfInBounds_toArray, List.set_cons_zero, List.set_cons_succ, i64_w, i32_w]
    rfl
   refine take_ (i := 2) (N := some 12) (v := ?_) (a' := ?_) #[true, true, true, false, false, false, false] rfl rfl kx (fun _ _ _ h => h) (Or.inl ⟨by rfl, ?_⟩) hHeld ?_ ?_
   rotate_left
   ·rintro w' ⟨s0, s1, s2, s3, s4⟩
    go_simp
    with_reducible rfl
   rotate_left
   ·simp only [Act.put, List.setIfInBounds_toArray, List.set_cons_zero, List.set_cons_succ, i64_w, i32_w]
    rfl
   refine join_ (σ := Value × Nat) 1 #[true, true, true, true, true, true, false] (fun s_ => [(13, s_.1), (3, .pointer (some ⟨s_.2, 0, none⟩)), (14, .agg #[.string a0_0, .int .i64 a0_1, .int .i64 a0_2, .slice A0_3 l0_3.length c0_3, .slice A0_4 l0_4.length c0_4, s_.1, .int .i64 0, .int .i64 0, .int .i64 0])]) (fun s_ w' => (w'.cell? ⟨gb217, 0, none⟩ = some (.string a0_0) ∧ w'.cell? ⟨gb217, 1, none⟩ = some (.int .i64 a0_1) ∧ w'.cell? ⟨gb217, 2, none⟩ = some (.int .i64 a0_2) ∧ w'.cell? ⟨gb217, 3, none⟩ = some (.slice A0_3 l0_3.length c0_3) ∧ w'.cell? ⟨gb217, 4, none⟩ = some (.slice A0_4 l0_4.length c0_4)) ∧ (Kd.V k125 125 w' w.heap.size (fun k_ => ((P0_3_ k_ ∨ P0_4_ k_) ∨ w.heap.size ≤ k_) ∧ some k_ ≠ (s_.1 : Value).ownBlock ∧ k_ ≠ gb217 ∧ k_ ≠ gb218 ∧ k_ ≠ s_.2) (.slice A0_3 l0_3.length c0_3) l0_3) ∧ (Kd.V (Kd.int .i64) 3 w' w.heap.size (fun k_ => ((P0_3_ k_ ∨ P0_4_ k_) ∨ w.heap.size ≤ k_) ∧ some k_ ≠ (s_.1 : Value).ownBlock ∧ k_ ≠ gb217 ∧ k_ ≠ gb218 ∧ k_ ≠ s_.2) (.slice A0_4 l0_4.length c0_4) l0_4) ∧ (Kd.R Kd.bool 4 w' w.heap.size (fun k_ => (w.heap.size ≤ k_)) s_.1 y219) ∧ (w'.heap[gb217]? = some (.cells #[.string a0_0, .int .i64 a0_1, .int .i64 a0_2, .slice A0_3 l0_3.length c0_3, .slice A0_4 l0_4.length c0_4] 44 (0, 0))) ∧ (w'.heap[gb218]? = some (.cells #[.string (⟨#[]⟩ : ByteArray), .int .i64 0, .int .i64 0, .slice none 0 0, .slice none 0 0, .slice none 0 0, .int .i64 0, .int .i64 0, .int .i64 0] 53 (0, 0))) ∧ (w'.heap[s_.2]? = some (.cells #[.string (⟨#[]⟩ : ByteArray), .int .i64 0, .int .i64 0, .slice none 0 0, .slice none 0 0, .slice none 0 0, .int .i64 0, .int .i64 0, .int .i64 0] 53 (0, 0))) ∧ (w.heap.size ≤ s_.2) ∧ (w.heap.size ≤ s_.2) ∧ (gb217 ≠ s_.2) ∧ (s_.2 ≠ gb217) ∧ (gb218 ≠ s_.2) ∧ (s_.2 ≠ gb218) ∧ (Below w.heap.size w w')) ?_ ?_
   rotate_left
   ·intro hCont
    refine two_ (i := 3) (j := 5) (Ni := some 13) (Nj := some 3) #[true, true, true, true, false, false, false] #[true, true, true, false, false, true, false] rfl rfl rfl rfl kx (by decide) (by decide) (fun K hK => ?_) (fun K hK => ?_)
    ·skip
     refine Kd.R_make_step Kd.bool _ 4 (by rfl) (N := 13) rfl 50 _ _ rfl a0_2 rfl rfl Try.underlying50 (.bool false) 1 info4 rfl (by decide) (by omega) false (ok := fun _ => True) (okp := fun _ => True) rfl (fun _ hk => hk) trivial (of_decide_eq_true ka) (Nat.le_trans (Nat.mul_le_mul_right _ (of_decide_eq_true ka : a0_2.toNat ≤ 281474976710656)) (by omega)) (Below.refl _ _) (Nat.le_refl _) ?_
     intro v220 w7 ho8 hb hg_ hnew_
     clear hg_ hnew_
     (first | rw [← Ny219.out] at ho8 | (simp only [Int.reduceToNat] at ho8; rw [← Ny219.out] at ho8))
     have n0_ := Aside0.mk (Kd.V_elder' (by (with_reducible repeat (first | apply Kd.V_alloc | apply Kd.V_drewN | apply Kd.V_drew)); exact HO0_3.out) (Kd.R_base ho8) hb)
     have n1_ := Aside0.mk (Kd.V_elder' (by (with_reducible repeat (first | apply Kd.V_alloc | apply Kd.V_drewN | apply Kd.V_drew)); exact HO0_4.out) (Kd.R_base ho8) hb)
     have n2_ := Aside0.mk (Kd.R_lower (Kd.R_newM (M := fun k_ => (w.heap.size ≤ k_)) ho8 (below_size be) (fun k_ h_ => h_)) (below_size be))
     have n3_ := bb BK217 hb
     have n4_ := bb BK218 hb
     have n5_ := Aside0.mk (below_step be hb)
     clear HO0_3
     clear HO0_4
     clear BK217
     clear BK218
     clear HB
     have HO0_3 := n0_
     have HO0_4 := n1_
     have HO221 := n2_
     have BK217 := n3_
     have BK218 := n4_
     have HB := n5_
     clear n0_ n1_ n2_ n3_ n4_ n5_
     clear hb ho8
     obtain ⟨Ao9, co9, eo9⟩ := Kd.R_slice HO221.out
     (first | subst eo9 | (injection eo9 with f1_ f2_ f3_; have f4_ := f1_.symm; have f5_ := f3_.symm; clear f1_ f2_ f3_; subst f4_; subst f5_))
     refine hK.out _ _ ⟨(blk_cell BK217.out 0).trans rfl, (blk_cell BK217.out 1).trans rfl, (blk_cell BK217.out 2).trans rfl, (blk_cell BK217.out 3).trans rfl, (blk_cell BK217.out 4).trans rfl⟩ (fun hHeld => ?_)
     clear hK K
     refine norm_ (a' := ?_) ?_ ?_
     rotate_left
     ·show Act.put _ (some 13) _ = _
      simp only [Act.put, List.setIfInBounds_toArray, List.set_cons_zero, List.set_cons_succ, i64_w, i32_w]
      rfl
     refine pure_ (i := 4) (N := some 14) (v := ?_) (a' := ?_) #[true, true, true, true, true, false, false] rfl rfl kx (fun _ _ _ h => h) (Or.inl ⟨by rfl, ?_⟩) ?_ ?_
     rotate_left
     ·intro w'
      go_simp
      with_reducible rfl
     rotate_left
     ·simp only [Act.put, List.setIfInBounds_toArray, List.set_cons_zero, List.set_cons_succ, i64_w, i32_w]
      rfl
     refine one_ (i := 5) (N := some 3) #[true, true, true, true, true, true, false] rfl rfl kx (by decide) (fun K hK => ?_)
     refine box_step ?hg (N := 3) ?hd (cs := #[.string (⟨#[]⟩ : ByteArray), .int .i64 0, .int .i64 0, .slice none 0 0, .slice none 0 0, .slice none 0 0, .int .i64 0, .int .i64 0, .int .i64 0]) (t := 53) ?hr ?_; (case hd => rfl); (case hg => rfl); (case hr => first | (go_simp; done) | (go_simp; rfl))
     intro gb222 hg w10 hbox hb
     have n0_ := Aside0.mk (Kd.V_below (Kd.V_elderB (by (with_reducible repeat (first | apply Kd.V_alloc | apply Kd.V_drewN | apply Kd.V_drew)); exact HO0_3.out) gb222 (Nat.le_of_eq hg.symm)) hb)
     have n1_ := Aside0.mk (Kd.V_below (Kd.V_elderB (by (with_reducible repeat (first | apply Kd.V_alloc | apply Kd.V_drewN | apply Kd.V_drew)); exact HO0_4.out) gb222 (Nat.le_of_eq hg.symm)) hb)
     have n2_ := Aside0.mk (Kd.R_below (by (with_reducible repeat (first | apply Kd.R_alloc | apply Kd.R_drewN | apply Kd.R_drew)); exact HO221.out) hb)
     have n3_ := bb BK217 hb
     have n4_ := bb BK218 hb
     have n5_ := Aside0.mk (below_step be hb)
     have n6_ := Aside0.mk (hbox)
     have n7_ := gs hg HB
     have n8_ := gs hg HB
     have n9_ := nl BK217 hg
     have n10_ := ns (nl BK217 hg)
     have n11_ := nl BK218 hg
     have n12_ := ns (nl BK218 hg)
     clear HO0_3
     clear HO0_4
     clear HO221
     clear BK217
     clear BK218
     clear HB
     have HO0_3 := n0_
     have HO0_4 := n1_
     have HO221 := n2_
     have BK217 := n3_
     have BK218 := n4_
     have HB := n5_
     have BK222 := n6_
     have GW222 := n7_
     have GE222 := n8_
     have NB217_222 := n9_
     have NB222_217 := n10_
     have NB218_222 := n11_
     have NB222_218 := n12_
     clear n0_ n1_ n2_ n3_ n4_ n5_ n6_ n7_ n8_ n9_ n10_ n11_ n12_
     clear hb hbox hg
     refine hK.out _ _ ⟨(blk_cell BK217.out 0).trans rfl, (blk_cell BK217.out 1).trans rfl, (blk_cell BK217.out 2).trans rfl, (blk_cell BK217.out 3).trans rfl, (blk_cell BK217.out 4).trans rfl⟩ (fun hHeld => ?_)
     clear hK K
     refine norm_ (a' := ?_) ?_ ?_
     rotate_left
     ·show Act.put _ (some 3) _ = _
      simp only [Act.put, List.setIfInBounds_toArray, List.set_cons_zero, List.set_cons_succ, i64_w, i32_w]
      rfl
     exact norm_ (by simp only [putAll, Act.put, List.setIfInBounds_toArray, List.set_cons_zero, List.set_cons_succ]) (hCont (.slice Ao9 y219.length co9, gb222) _ ⟨hHeld, (by (with_reducible repeat (first | apply Kd.V_alloc | apply Kd.V_drewN | apply Kd.V_drew)); exact Kd.V_mono HO0_3.out (fun _ hk => ⟨hk.1.1.1.1, ⟨hk.1.2, ⟨hk.1.1.1.2, ⟨hk.1.1.2, hk.2⟩⟩⟩⟩)), (by (with_reducible repeat (first | apply Kd.V_alloc | apply Kd.V_drewN | apply Kd.V_drew)); exact Kd.V_mono HO0_4.out (fun _ hk => ⟨hk.1.1.1.1, ⟨hk.1.2, ⟨hk.1.1.1.2, ⟨hk.1.1.2, hk.2⟩⟩⟩⟩)), (by (with_reducible repeat (first | apply Kd.R_alloc | apply Kd.R_drewN | apply Kd.R_drew)); exact Kd.R_mono HO221.out (fun _ hk => hk.1)), (bk BK217), (bk BK218), (bk BK222), GW222.out, GE222.out, NB217_222.out, NB222_217.out, NB218_222.out, NB222_218.out, be⟩)
    ·skip
     refine box_step ?hg (N := 3) ?hd (cs := #[.string (⟨#[]⟩ : ByteArray), .int .i64 0, .int .i64 0, .slice none 0 0, .slice none 0 0, .slice none 0 0, .int .i64 0, .int .i64 0, .int .i64 0]) (t := 53) ?hr ?_; (case hd => rfl); (case hg => rfl); (case hr => first | (go_simp; done) | (go_simp; rfl))
     intro gb222 hg w7 hbox hb
     have n0_ := Aside0.mk (Kd.V_below (Kd.V_elderB (by (with_reducible repeat (first | apply Kd.V_alloc | apply Kd.V_drewN | apply Kd.V_drew)); exact HO0_3.out) gb222 (Nat.le_of_eq hg.symm)) hb)
     have n1_ := Aside0.mk (Kd.V_below (Kd.V_elderB (by (with_reducible repeat (first | apply Kd.V_alloc | apply Kd.V_drewN | apply Kd.V_drew)); exact HO0_4.out) gb222 (Nat.le_of_eq hg.symm)) hb)
     have n2_ := bb BK217 hb
     have n3_ := bb BK218 hb
     have n4_ := Aside0.mk (below_step be hb)
     have n5_ := Aside0.mk (hbox)
     have n6_ := gs hg HB
     have n7_ := gs hg HB
     have n8_ := nl BK217 hg
     have n9_ := ns (nl BK217 hg)
     have n10_ := nl BK218 hg
     have n11_ := ns (nl BK218 hg)
     clear HO0_3
     clear HO0_4
     clear BK217
     clear BK218
     clear HB
     have HO0_3 := n0_
     have HO0_4 := n1_
     have BK217 := n2_
     have BK218 := n3_
     have HB := n4_
     have BK222 := n5_
     have GW222 := n6_
     have GE222 := n7_
     have NB217_222 := n8_
     have NB222_217 := n9_
     have NB218_222 := n10_
     have NB222_218 := n11_
     clear n0_ n1_ n2_ n3_ n4_ n5_ n6_ n7_ n8_ n9_ n10_ n11_
     clear hb hbox hg
     refine hK.out _ _ ⟨(blk_cell BK217.out 0).trans rfl, (blk_cell BK217.out 1).trans rfl, (blk_cell BK217.out 2).trans rfl, (blk_cell BK217.out 3).trans rfl, (blk_cell BK217.out 4).trans rfl⟩ (fun hHeld => ?_)
     clear hK K
     refine norm_ (a' := ?_) ?_ ?_
     rotate_left
     ·show Act.put _ (some 3) _ = _
      simp only [Act.put, List.setIfInBounds_toArray, List.set_cons_zero, List.set_cons_succ, i64_w, i32_w]
      rfl
     refine one_ (i := 3) (N := some 13) #[true, true, true, true, false, true, false] rfl rfl kx (by decide) (fun K hK => ?_)
     refine Kd.R_make_step Kd.bool _ 4 (by rfl) (N := 13) rfl 50 _ _ rfl a0_2 rfl rfl Try.underlying50 (.bool false) 1 info4 rfl (by decide) (by omega) false (ok := fun _ => True) (okp := fun _ => True) rfl (fun _ hk => hk) trivial (of_decide_eq_true ka) (Nat.le_trans (Nat.mul_le_mul_right _ (of_decide_eq_true ka : a0_2.toNat ≤ 281474976710656)) (by omega)) (Below.refl _ _) (Nat.le_refl _) ?_
     intro v220 w8 ho9 hb hg_ hnew_
     clear hg_ hnew_
     (first | rw [← Ny219.out] at ho9 | (simp only [Int.reduceToNat] at ho9; rw [← Ny219.out] at ho9))
     have n0_ := Aside0.mk (Kd.V_elder' (by (with_reducible repeat (first | apply Kd.V_alloc | apply Kd.V_drewN | apply Kd.V_drew)); exact HO0_3.out) (Kd.R_base ho9) hb)
     have n1_ := Aside0.mk (Kd.V_elder' (by (with_reducible repeat (first | apply Kd.V_alloc | apply Kd.V_drewN | apply Kd.V_drew)); exact HO0_4.out) (Kd.R_base ho9) hb)
     have n2_ := Aside0.mk (Kd.R_lower (Kd.R_newM (M := fun k_ => (w.heap.size ≤ k_)) ho9 (below_size be) (fun k_ h_ => h_)) (below_size be))
     have n3_ := bb BK217 hb
     have n4_ := bb BK218 hb
     have n5_ := bb BK222 hb
     have n6_ := Aside0.mk (below_step be hb)
     clear HO0_3
     clear HO0_4
     clear BK217
     clear BK218
     clear BK222
     clear HB
     have HO0_3 := n0_
     have HO0_4 := n1_
     have HO221 := n2_
     have BK217 := n3_
     have BK218 := n4_
     have BK222 := n5_
     have HB := n6_
     clear n0_ n1_ n2_ n3_ n4_ n5_ n6_
     clear hb ho9
     obtain ⟨Ao10, co10, eo10⟩ := Kd.R_slice HO221.out
     (first | subst eo10 | (injection eo10 with f1_ f2_ f3_; have f4_ := f1_.symm; have f5_ := f3_.symm; clear f1_ f2_ f3_; subst f4_; subst f5_))
     refine hK.out _ _ ⟨(blk_cell BK217.out 0).trans rfl, (blk_cell BK217.out 1).trans rfl, (blk_cell BK217.out 2).trans rfl, (blk_cell BK217.out 3).trans rfl, (blk_cell BK217.out 4).trans rfl⟩ (fun hHeld => ?_)
     clear hK K
     refine norm_ (a' := ?_) ?_ ?_
     rotate_left
     ·show Act.put _ (some 13) _ = _
      simp only [Act.put, List.setIfInBounds_toArray, List.set_cons_zero, List.set_cons_succ, i64_w, i32_w]
      rfl
     refine pure_ (i := 4) (N := some 14) (v := ?_) (a' := ?_) #[true, true, true, true, true, true, false] rfl rfl kx (fun _ _ _ h => h) (Or.inl ⟨by rfl, ?_⟩) ?_ ?_
     rotate_left
     ·intro w'
      go_simp
      with_reducible rfl
     rotate_left
     ·simp only [Act.put, List.setIfInBounds_toArray, List.set_cons_zero, List.set_cons_succ, i64_w, i32_w]
      rfl
     exact norm_ (by simp only [putAll, Act.put, List.setIfInBounds_toArray, List.set_cons_zero, List.set_cons_succ]) (hCont (.slice Ao10 y219.length co10, gb222) _ ⟨hHeld, (by (with_reducible repeat (first | apply Kd.V_alloc | apply Kd.V_drewN | apply Kd.V_drew)); exact Kd.V_mono HO0_3.out (fun _ hk => ⟨hk.1.1.1.1, ⟨hk.2, ⟨hk.1.1.1.2, ⟨hk.1.1.2, hk.1.2⟩⟩⟩⟩)), (by (with_reducible repeat (first | apply Kd.V_alloc | apply Kd.V_drewN | apply Kd.V_drew)); exact Kd.V_mono HO0_4.out (fun _ hk => ⟨hk.1.1.1.1, ⟨hk.2, ⟨hk.1.1.1.2, ⟨hk.1.1.2, hk.1.2⟩⟩⟩⟩)), (by (with_reducible repeat (first | apply Kd.R_alloc | apply Kd.R_drewN | apply Kd.R_drew)); exact Kd.R_mono HO221.out (fun _ hk => hk.1)), (bk BK217), (bk BK218), (bk BK222), GW222.out, GE222.out, NB217_222.out, NB222_217.out, NB218_222.out, NB222_218.out, be⟩)
   rintro ⟨v220, gb222⟩ w11 ⟨hS_, h0_, h1_, h2_, h3_, h4_, h5_, h6_, h7_, h8_, h9_, h10_, h11_, h12_⟩
   have n0_ : Aside0 (Kd.V k125 125 w11 w.heap.size (fun k_ => ((P0_3_ k_ ∨ P0_4_ k_) ∨ w.heap.size ≤ k_) ∧ some k_ ≠ (v220 : Value).ownBlock ∧ k_ ≠ gb217 ∧ k_ ≠ gb218 ∧ k_ ≠ gb222) (.slice A0_3 l0_3.length c0_3) l0_3) := ⟨h0_⟩
   have n1_ : Aside0 (Kd.V (Kd.int .i64) 3 w11 w.heap.size (fun k_ => ((P0_3_ k_ ∨ P0_4_ k_) ∨ w.heap.size ≤ k_) ∧ some k_ ≠ (v220 : Value).ownBlock ∧ k_ ≠ gb217 ∧ k_ ≠ gb218 ∧ k_ ≠ gb222) (.slice A0_4 l0_4.length c0_4) l0_4) := ⟨h1_⟩
   have n2_ : Aside0 (Kd.R Kd.bool 4 w11 w.heap.size (fun k_ => (w.heap.size ≤ k_)) v220 y219) := ⟨h2_⟩
   have n3_ : Aside0 (w11.heap[gb217]? = some (.cells #[.string a0_0, .int .i64 a0_1, .int .i64 a0_2, .slice A0_3 l0_3.length c0_3, .slice A0_4 l0_4.length c0_4] 44 (0, 0))) := ⟨h3_⟩
   have n4_ : Aside0 (w11.heap[gb218]? = some (.cells #[.string (⟨#[]⟩ : ByteArray), .int .i64 0, .int .i64 0, .slice none 0 0, .slice none 0 0, .slice none 0 0, .int .i64 0, .int .i64 0, .int .i64 0] 53 (0, 0))) := ⟨h4_⟩
   have n5_ : Aside0 (w11.heap[gb222]? = some (.cells #[.string (⟨#[]⟩ : ByteArray), .int .i64 0, .int .i64 0, .slice none 0 0, .slice none 0 0, .slice none 0 0, .int .i64 0, .int .i64 0, .int .i64 0] 53 (0, 0))) := ⟨h5_⟩
   have n6_ : Aside0 (w.heap.size ≤ gb222) := ⟨h6_⟩
   have n7_ : Aside0 (w.heap.size ≤ gb222) := ⟨h7_⟩
   have n8_ : Aside0 (gb217 ≠ gb222) := ⟨h8_⟩
   have n9_ : Aside0 (gb222 ≠ gb217) := ⟨h9_⟩
   have n10_ : Aside0 (gb218 ≠ gb222) := ⟨h10_⟩
   have n11_ : Aside0 (gb222 ≠ gb218) := ⟨h11_⟩
   have n12_ : Aside0 (Below w.heap.size w w11) := ⟨h12_⟩
   clear HO0_3
   clear HO0_4
   clear BK217
   clear BK218
   clear HB
   clear h0_ h1_ h2_ h3_ h4_ h5_ h6_ h7_ h8_ h9_ h10_ h11_ h12_
   have HO0_3 := n0_
   have HO0_4 := n1_
   have HO221 := n2_
   have BK217 := n3_
   have BK218 := n4_
   have BK222 := n5_
   have GW222 := n6_
   have GE222 := n7_
   have NB217_222 := n8_
   have NB222_217 := n9_
   have NB218_222 := n10_
   have NB222_218 := n11_
   have HB := n12_
   clear n0_ n1_ n2_ n3_ n4_ n5_ n6_ n7_ n8_ n9_ n10_ n11_ n12_
   have hHeld : w11.cell? ⟨gb217, 0, none⟩ = some (.string a0_0) ∧ w11.cell? ⟨gb217, 1, none⟩ = some (.int .i64 a0_1) ∧ w11.cell? ⟨gb217, 2, none⟩ = some (.int .i64 a0_2) ∧ w11.cell? ⟨gb217, 3, none⟩ = some (.slice A0_3 l0_3.length c0_3) ∧ w11.cell? ⟨gb217, 4, none⟩ = some (.slice A0_4 l0_4.length c0_4) := hS_
   obtain ⟨Ao12, co12, eo12⟩ := Kd.R_slice HO221.out
   (first | subst eo12 | (injection eo12 with f1_ f2_ f3_; have f4_ := f1_.symm; have f5_ := f3_.symm; clear f1_ f2_ f3_; subst f4_; subst f5_))
   refine norm_ (a' := ?_) ?_ ?_
   rotate_left
   ·simp only [putAll, Act.put, List.setIfInBounds_toArray, List.set_cons_zero, List.set_cons_succ]
    rfl
   refine one_ (i := 6) (N := none) #[true, true, true, true, true, true, true] rfl rfl kx (by decide) (fun K hK => ?_)
   have hs13 : w11.cell? ⟨gb222, 0, none⟩ = some (.string (⟨#[]⟩ : ByteArray)) := (blk_cell BK222.out 0).trans rfl
   have hfs13 := blk_frozen BK222.out 0
   have hns13_0 := NB217_222.out
   have hns13_1 := NB218_222.out
   have hms13_0 := NB222_217.out
   have hms13_1 := NB222_218.out
   have hs14 : w11.cell? ⟨gb222, 1, none⟩ = some (.int .i64 0) := (blk_cell BK222.out 1).trans rfl
   have hfs14 := blk_frozen BK222.out 1
   have hns14_0 := NB217_222.out
   have hns14_1 := NB218_222.out
   have hms14_0 := NB222_217.out
   have hms14_1 := NB222_218.out
   have hs15 : w11.cell? ⟨gb222, 2, none⟩ = some (.int .i64 0) := (blk_cell BK222.out 2).trans rfl
   have hfs15 := blk_frozen BK222.out 2
   have hns15_0 := NB217_222.out
   have hns15_1 := NB218_222.out
   have hms15_0 := NB222_217.out
   have hms15_1 := NB222_218.out
   have hs16 : w11.cell? ⟨gb222, 3, none⟩ = some (.slice none 0 0) := (blk_cell BK222.out 3).trans rfl
   have hfs16 := blk_frozen BK222.out 3
   have hns16_0 := NB217_222.out
   have hns16_1 := NB218_222.out
   have hms16_0 := NB222_217.out
   have hms16_1 := NB222_218.out
   have hs17 : w11.cell? ⟨gb222, 4, none⟩ = some (.slice none 0 0) := (blk_cell BK222.out 4).trans rfl
   have hfs17 := blk_frozen BK222.out 4
   have hns17_0 := NB217_222.out
   have hns17_1 := NB218_222.out
   have hms17_0 := NB222_217.out
   have hms17_1 := NB222_218.out
   have hs18 : w11.cell? ⟨gb222, 5, none⟩ = some (.slice none 0 0) := (blk_cell BK222.out 5).trans rfl
   have hfs18 := blk_frozen BK222.out 5
   have hns18_0 := NB217_222.out
   have hns18_1 := NB218_222.out
   have hms18_0 := NB222_217.out
   have hms18_1 := NB222_218.out
   have hs19 : w11.cell? ⟨gb222, 6, none⟩ = some (.int .i64 0) := (blk_cell BK222.out 6).trans rfl
   have hfs19 := blk_frozen BK222.out 6
   have hns19_0 := NB217_222.out
   have hns19_1 := NB218_222.out
   have hms19_0 := NB222_217.out
   have hms19_1 := NB222_218.out
   have hs20 : w11.cell? ⟨gb222, 7, none⟩ = some (.int .i64 0) := (blk_cell BK222.out 7).trans rfl
   have hfs20 := blk_frozen BK222.out 7
   have hns20_0 := NB217_222.out
   have hns20_1 := NB218_222.out
   have hms20_0 := NB222_217.out
   have hms20_1 := NB222_218.out
   have hs21 : w11.cell? ⟨gb222, 8, none⟩ = some (.int .i64 0) := (blk_cell BK222.out 8).trans rfl
   have hfs21 := blk_frozen BK222.out 8
   have hns21_0 := NB217_222.out
   have hns21_1 := NB218_222.out
   have hms21_0 := NB222_217.out
   have hms21_1 := NB222_218.out
   refine skip_ (w1 := ?_) (by rfl) rfl ?_ ?_
   rotate_left
   ·go_simp
    rfl
   refine hK.out _ _ ⟨((cell_far (p := ⟨gb222, _, none⟩) NB217_222.out _).trans (((cell_far (p := ⟨gb222, _, none⟩) NB217_222.out _).trans (((cell_far (p := ⟨gb222, _, none⟩) NB217_222.out _).trans (((cell_far (p := ⟨gb222, _, none⟩) NB217_222.out _).trans (((cell_far (p := ⟨gb222, _, none⟩) NB217_222.out _).trans (((cell_far (p := ⟨gb222, _, none⟩) NB217_222.out _).trans (((cell_far (p := ⟨gb222, _, none⟩) NB217_222.out _).trans (((cell_far (p := ⟨gb222, _, none⟩) NB217_222.out _).trans (((cell_far (p := ⟨gb222, _, none⟩) NB217_222.out _).trans (hHeld.1)))))))))))))))))), ((cell_far (p := ⟨gb222, _, none⟩) NB217_222.out _).trans (((cell_far (p := ⟨gb222, _, none⟩) NB217_222.out _).trans (((cell_far (p := ⟨gb222, _, none⟩) NB217_222.out _).trans (((cell_far (p := ⟨gb222, _, none⟩) NB217_222.out _).trans (((cell_far (p := ⟨gb222, _, none⟩) NB217_222.out _).trans (((cell_far (p := ⟨gb222, _, none⟩) NB217_222.out _).trans (((cell_far (p := ⟨gb222, _, none⟩) NB217_222.out _).trans (((cell_far (p := ⟨gb222, _, none⟩) NB217_222.out _).trans (((cell_far (p := ⟨gb222, _, none⟩) NB217_222.out _).trans (hHeld.2.1)))))))))))))))))), ((cell_far (p := ⟨gb222, _, none⟩) NB217_222.out _).trans (((cell_far (p := ⟨gb222, _, none⟩) NB217_222.out _).trans (((cell_far (p := ⟨gb222, _, none⟩) NB217_222.out _).trans (((cell_far (p := ⟨gb222, _, none⟩) NB217_222.out _).trans (((cell_far (p := ⟨gb222, _, none⟩) NB217_222.out _).trans (((cell_far (p := ⟨gb222, _, none⟩) NB217_222.out _).trans (((cell_far (p := ⟨gb222, _, none⟩) NB217_222.out _).trans (((cell_far (p := ⟨gb222, _, none⟩) NB217_222.out _).trans (((cell_far (p := ⟨gb222, _, none⟩) NB217_222.out _).trans (hHeld.2.2.1)))))))))))))))))), ((cell_far (p := ⟨gb222, _, none⟩) NB217_222.out _).trans (((cell_far (p := ⟨gb222, _, none⟩) NB217_222.out _).trans (((cell_far (p := ⟨gb222, _, none⟩) NB217_222.out _).trans (((cell_far (p := ⟨gb222, _, none⟩) NB217_222.out _).trans (((cell_far (p := ⟨gb222, _, none⟩) NB217_222.out _).trans (((cell_far (p := ⟨gb222, _, none⟩) NB217_222.out _).trans (((cell_far (p := ⟨gb222, _, none⟩) NB217_222.out _).trans (((cell_far (p := ⟨gb222, _, none⟩) NB217_222.out _).trans (((cell_far (p := ⟨gb222, _, none⟩) NB217_222.out _).trans (hHeld.2.2.2.1)))))))))))))))))), ((cell_far (p := ⟨gb222, _, none⟩) NB217_222.out _).trans (((cell_far (p := ⟨gb222, _, none⟩) NB217_222.out _).trans (((cell_far (p := ⟨gb222, _, none⟩) NB217_222.out _).trans (((cell_far (p := ⟨gb222, _, none⟩) NB217_222.out _).trans (((cell_far (p := ⟨gb222, _, none⟩) NB217_222.out _).trans (((cell_far (p := ⟨gb222, _, none⟩) NB217_222.out _).trans (((cell_far (p := ⟨gb222, _, none⟩) NB217_222.out _).trans (((cell_far (p := ⟨gb222, _, none⟩) NB217_222.out _).trans (((cell_far (p := ⟨gb222, _, none⟩) NB217_222.out _).trans (hHeld.2.2.2.2))))))))))))))))))⟩ (fun hHeld => ?_)
   clear hK K
   refine done_ kx ?_
   have hnb22 := NB217_218.out
   have hnc22 := NB218_217.out
   have hnb23 := NB217_222.out
   have hnc23 := NB222_217.out
   obtain ⟨hcz24_0, hcz24_1, hcz24_2, hcz24_3, hcz24_4, hfz24_0, hfz24_1, hfz24_2, hfz24_3, hfz24_4⟩ := bc5 BK217
   try go_wp2
   go_loopg [18] k (fun kq v18 w' => ∃ (x18_1 : Int) (x223005_1 : List Bool) (u223005 : Value), v18 = .int .i64 x18_1 ∧ Aside0 (ephemerisref1_Apart.l0 kq l0_4 (l0_4.length : Int) x18_1 a0_0 a0_1 a0_2 l0_3 l0_4 a0_0 a0_1 a0_2 l0_3 l0_4 x223005_1 0 0 0 = some (r1, r2, r3, r4, r5, r6, r7, r8, r9)) ∧ Aside0 (kq ≤ k) ∧ Aside0 (Kd.V (Kd.int .i64) 3 w' w.heap.size (fun k_ => ((P0_3_ k_ ∨ P0_4_ k_) ∨ w.heap.size ≤ k_) ∧ some k_ ≠ (u223005 : Value).ownBlock ∧ k_ ≠ gb217 ∧ k_ ≠ gb218 ∧ k_ ≠ gb222) (.slice A0_4 l0_4.length c0_4) l0_4) ∧ Aside0 (Kd.V k125 125 w' w.heap.size (fun k_ => ((P0_3_ k_ ∨ P0_4_ k_) ∨ w.heap.size ≤ k_) ∧ some k_ ≠ (u223005 : Value).ownBlock ∧ k_ ≠ gb217 ∧ k_ ≠ gb218 ∧ k_ ≠ gb222) (.slice A0_3 l0_3.length c0_3) l0_3) ∧ Aside0 (Kd.V (Kd.int .i64) 3 w' w.heap.size (fun k_ => ((P0_3_ k_ ∨ P0_4_ k_) ∨ w.heap.size ≤ k_) ∧ some k_ ≠ (u223005 : Value).ownBlock ∧ k_ ≠ gb217 ∧ k_ ≠ gb218 ∧ k_ ≠ gb222) (.slice A0_4 l0_4.length c0_4) l0_4) ∧ Aside0 (Kd.V k125 125 w' w.heap.size (fun k_ => ((P0_3_ k_ ∨ P0_4_ k_) ∨ w.heap.size ≤ k_) ∧ some k_ ≠ (u223005 : Value).ownBlock ∧ k_ ≠ gb217 ∧ k_ ≠ gb218 ∧ k_ ≠ gb222) (.slice A0_3 l0_3.length c0_3) l0_3) ∧ Aside0 (Kd.V (Kd.int .i64) 3 w' w.heap.size (fun k_ => ((P0_3_ k_ ∨ P0_4_ k_) ∨ w.heap.size ≤ k_) ∧ some k_ ≠ (u223005 : Value).ownBlock ∧ k_ ≠ gb217 ∧ k_ ≠ gb218 ∧ k_ ≠ gb222) (.slice A0_4 l0_4.length c0_4) l0_4) ∧ Aside0 (Kd.R Kd.bool 4 w' w.heap.size (fun k_ => (w.heap.size ≤ k_)) u223005 x223005_1) ∧ Aside0 (w'.heap[gb217]? = some (.cells #[.string a0_0, .int .i64 a0_1, .int .i64 a0_2, (.slice A0_3 l0_3.length c0_3), (.slice A0_4 l0_4.length c0_4)] 44 (0, 0))) ∧ Aside0 (w'.heap[gb218]? = some (.cells #[.string (⟨#[]⟩ : ByteArray), .int .i64 0, .int .i64 0, (.slice none 0 0), (.slice none 0 0), (.slice none 0 0), .int .i64 0, .int .i64 0, .int .i64 0] 53 (0, 0))) ∧ Aside0 (w'.heap[gb222]? = some (.cells #[.string a0_0, .int .i64 a0_1, .int .i64 a0_2, (.slice A0_3 l0_3.length c0_3), (.slice A0_4 l0_4.length c0_4), u223005, .int .i64 0, .int .i64 0, .int .i64 0] 53 (0, 0))) ∧ Aside0 (Below w.heap.size w w'))
   case atStart => exact ⟨(0), (y219), (.slice Ao12 y219.length co12), rs, H', ⟨Nat.le_refl _⟩, ⟨by (with_reducible repeat (first | apply Kd.V_alloc | apply Kd.V_drewN | apply Kd.V_drew)); exact Kd.V_mono (Kd.V_far (p := ⟨gb222, 8, none⟩) (Kd.V_far (p := ⟨gb222, 7, none⟩) (Kd.V_far (p := ⟨gb222, 6, none⟩) (Kd.V_far (p := ⟨gb222, 5, none⟩) (Kd.V_far (p := ⟨gb222, 4, none⟩) (Kd.V_far (p := ⟨gb222, 3, none⟩) (Kd.V_far (p := ⟨gb222, 2, none⟩) (Kd.V_far (p := ⟨gb222, 1, none⟩) (Kd.V_far (p := ⟨gb222, 0, none⟩) (Kd.V_mono HO0_4.out (fun k_ hk => (⟨hk, hk.2.2.2.2⟩ : _ ∧ k_ ≠ gb222))) (fun _ hk => hk.2) (.string a0_0)) (fun _ hk => hk.2) (.int .i64 a0_1)) (fun _ hk => hk.2) (.int .i64 a0_2)) (fun _ hk => hk.2) (.slice A0_3 l0_3.length c0_3)) (fun _ hk => hk.2) (.slice A0_4 l0_4.length c0_4)) (fun _ hk => hk.2) (.slice Ao12 y219.length co12)) (fun _ hk => hk.2) (.int .i64 0)) (fun _ hk => hk.2) (.int .i64 0)) (fun _ hk => hk.2) (.int .i64 0)) (fun _ hk => ⟨hk.1.1, ⟨hk.1.2.1, ⟨hk.1.2.2.1, ⟨hk.1.2.2.2.1, hk.1.2.2.2.2⟩⟩⟩⟩)⟩, ⟨by (with_reducible repeat (first | apply Kd.V_alloc | apply Kd.V_drewN | apply Kd.V_drew)); exact Kd.V_mono (Kd.V_far (p := ⟨gb222, 8, none⟩) (Kd.V_far (p := ⟨gb222, 7, none⟩) (Kd.V_far (p := ⟨gb222, 6, none⟩) (Kd.V_far (p := ⟨gb222, 5, none⟩) (Kd.V_far (p := ⟨gb222, 4, none⟩) (Kd.V_far (p := ⟨gb222, 3, none⟩) (Kd.V_far (p := ⟨gb222, 2, none⟩) (Kd.V_far (p := ⟨gb222, 1, none⟩) (Kd.V_far (p := ⟨gb222, 0, none⟩) (Kd.V_mono HO0_3.out (fun k_ hk => (⟨hk, hk.2.2.2.2⟩ : _ ∧ k_ ≠ gb222))) (fun _ hk => hk.2) (.string a0_0)) (fun _ hk => hk.2) (.int .i64 a0_1)) (fun _ hk => hk.2) (.int .i64 a0_2)) (fun _ hk => hk.2) (.slice A0_3 l0_3.length c0_3)) (fun _ hk => hk.2) (.slice A0_4 l0_4.length c0_4)) (fun _ hk => hk.2) (.slice Ao12 y219.length co12)) (fun _ hk => hk.2) (.int .i64 0)) (fun _ hk => hk.2) (.int .i64 0)) (fun _ hk => hk.2) (.int .i64 0)) (fun _ hk => ⟨hk.1.1, ⟨hk.1.2.1, ⟨hk.1.2.2.1, ⟨hk.1.2.2.2.1, hk.1.2.2.2.2⟩⟩⟩⟩)⟩, ⟨by (with_reducible repeat (first | apply Kd.V_alloc | apply Kd.V_drewN | apply Kd.V_drew)); exact Kd.V_mono (Kd.V_far (p := ⟨gb222, 8, none⟩) (Kd.V_far (p := ⟨gb222, 7, none⟩) (Kd.V_far (p := ⟨gb222, 6, none⟩) (Kd.V_far (p := ⟨gb222, 5, none⟩) (Kd.V_far (p := ⟨gb222, 4, none⟩) (Kd.V_far (p := ⟨gb222, 3, none⟩) (Kd.V_far (p := ⟨gb222, 2, none⟩) (Kd.V_far (p := ⟨gb222, 1, none⟩) (Kd.V_far (p := ⟨gb222, 0, none⟩) (Kd.V_mono HO0_4.out (fun k_ hk => (⟨hk, hk.2.2.2.2⟩ : _ ∧ k_ ≠ gb222))) (fun _ hk => hk.2) (.string a0_0)) (fun _ hk => hk.2) (.int .i64 a0_1)) (fun _ hk => hk.2) (.int .i64 a0_2)) (fun _ hk => hk.2) (.slice A0_3 l0_3.length c0_3)) (fun _ hk => hk.2) (.slice A0_4 l0_4.length c0_4)) (fun _ hk => hk.2) (.slice Ao12 y219.length co12)) (fun _ hk => hk.2) (.int .i64 0)) (fun _ hk => hk.2) (.int .i64 0)) (fun _ hk => hk.2) (.int .i64 0)) (fun _ hk => ⟨hk.1.1, ⟨hk.1.2.1, ⟨hk.1.2.2.1, ⟨hk.1.2.2.2.1, hk.1.2.2.2.2⟩⟩⟩⟩)⟩, ⟨by (with_reducible repeat (first | apply Kd.V_alloc | apply Kd.V_drewN | apply Kd.V_drew)); exact Kd.V_mono (Kd.V_far (p := ⟨gb222, 8, none⟩) (Kd.V_far (p := ⟨gb222, 7, none⟩) (Kd.V_far (p := ⟨gb222, 6, none⟩) (Kd.V_far (p := ⟨gb222, 5, none⟩) (Kd.V_far (p := ⟨gb222, 4, none⟩) (Kd.V_far (p := ⟨gb222, 3, none⟩) (Kd.V_far (p := ⟨gb222, 2, none⟩) (Kd.V_far (p := ⟨gb222, 1, none⟩) (Kd.V_far (p := ⟨gb222, 0, none⟩) (Kd.V_mono HO0_3.out (fun k_ hk => (⟨hk, hk.2.2.2.2⟩ : _ ∧ k_ ≠ gb222))) (fun _ hk => hk.2) (.string a0_0)) (fun _ hk => hk.2) (.int .i64 a0_1)) (fun _ hk => hk.2) (.int .i64 a0_2)) (fun _ hk => hk.2) (.slice A0_3 l0_3.length c0_3)) (fun _ hk => hk.2) (.slice A0_4 l0_4.length c0_4)) (fun _ hk => hk.2) (.slice Ao12 y219.length co12)) (fun _ hk => hk.2) (.int .i64 0)) (fun _ hk => hk.2) (.int .i64 0)) (fun _ hk => hk.2) (.int .i64 0)) (fun _ hk => ⟨hk.1.1, ⟨hk.1.2.1, ⟨hk.1.2.2.1, ⟨hk.1.2.2.2.1, hk.1.2.2.2.2⟩⟩⟩⟩)⟩, ⟨by (with_reducible repeat (first | apply Kd.V_alloc | apply Kd.V_drewN | apply Kd.V_drew)); exact Kd.V_mono (Kd.V_far (p := ⟨gb222, 8, none⟩) (Kd.V_far (p := ⟨gb222, 7, none⟩) (Kd.V_far (p := ⟨gb222, 6, none⟩) (Kd.V_far (p := ⟨gb222, 5, none⟩) (Kd.V_far (p := ⟨gb222, 4, none⟩) (Kd.V_far (p := ⟨gb222, 3, none⟩) (Kd.V_far (p := ⟨gb222, 2, none⟩) (Kd.V_far (p := ⟨gb222, 1, none⟩) (Kd.V_far (p := ⟨gb222, 0, none⟩) (Kd.V_mono HO0_4.out (fun k_ hk => (⟨hk, hk.2.2.2.2⟩ : _ ∧ k_ ≠ gb222))) (fun _ hk => hk.2) (.string a0_0)) (fun _ hk => hk.2) (.int .i64 a0_1)) (fun _ hk => hk.2) (.int .i64 a0_2)) (fun _ hk => hk.2) (.slice A0_3 l0_3.length c0_3)) (fun _ hk => hk.2) (.slice A0_4 l0_4.length c0_4)) (fun _ hk => hk.2) (.slice Ao12 y219.length co12)) (fun _ hk => hk.2) (.int .i64 0)) (fun _ hk => hk.2) (.int .i64 0)) (fun _ hk => hk.2) (.int .i64 0)) (fun _ hk => ⟨hk.1.1, ⟨hk.1.2.1, ⟨hk.1.2.2.1, ⟨hk.1.2.2.2.1, hk.1.2.2.2.2⟩⟩⟩⟩)⟩, ⟨by (with_reducible repeat (first | apply Kd.R_alloc | apply Kd.R_drewN | apply Kd.R_drew)); exact Kd.R_mono (Kd.R_far (p := ⟨gb222, 8, none⟩) (Kd.R_far (p := ⟨gb222, 7, none⟩) (Kd.R_far (p := ⟨gb222, 6, none⟩) (Kd.R_far (p := ⟨gb222, 5, none⟩) (Kd.R_far (p := ⟨gb222, 4, none⟩) (Kd.R_far (p := ⟨gb222, 3, none⟩) (Kd.R_far (p := ⟨gb222, 2, none⟩) (Kd.R_far (p := ⟨gb222, 1, none⟩) (Kd.R_far (p := ⟨gb222, 0, none⟩) (Kd.R_types HO221.out BK222.out (by decide)) (fun _ hk => hk.2) (.string a0_0)) (fun _ hk => hk.2) (.int .i64 a0_1)) (fun _ hk => hk.2) (.int .i64 a0_2)) (fun _ hk => hk.2) (.slice A0_3 l0_3.length c0_3)) (fun _ hk => hk.2) (.slice A0_4 l0_4.length c0_4)) (fun _ hk => hk.2) (.slice Ao12 y219.length co12)) (fun _ hk => hk.2) (.int .i64 0)) (fun _ hk => hk.2) (.int .i64 0)) (fun _ hk => hk.2) (.int .i64 0)) (fun _ hk => hk.1)⟩, ⟨bk BK217⟩, ⟨bk BK218⟩, ⟨bk BK222⟩, ⟨be⟩⟩
   case round =>
    clear H'
    (try clear c2); (try clear c2b0); (try clear c2b1); (try clear p2); (try clear c3); (try clear c3b0); (try clear c3b1); (try clear c22); (try clear c23); (try clear hcz24_0); (try clear hcz24_1); (try clear hcz24_2); (try clear hcz24_3); (try clear hcz24_4); (try clear hfz24_0); (try clear hfz24_1); (try clear hfz24_2); (try clear hfz24_3); (try clear hfz24_4)
    obtain ⟨x18_1, x223005_1, u223005, rfl, HA, HK1, HO_16, HO_218003, HO_218004, HO_223003, HO_223004, HO_223005, BK217, BK218, BK222, HB⟩ := hrel
    cases gk with
    | zero => exact absurd HA.out (by simp [ephemerisref1_Apart.l0])
    | succ k1 =>
     have H := HA.out
     clear HA
     simp only [ephemerisref1_Apart.l0] at H
     by_cases c25 : x18_1 < (l0_4.length : Int)
     ·rw [if_pos c25] at H
      have c25b0 : decide (x18_1 < (l0_4.length : Int)) = true := decide_eq_true c25
      clear c25
      by_cases c26 : 0 ≤ x18_1
      ·rw [if_pos c26] at H
       have c26b0 : decide (0 ≤ x18_1) = true := decide_eq_true c26
       clear c26
       by_cases c27 : x18_1 < (l0_4.length : Int)
       ·rw [if_pos c27] at H
        have c27b0 : decide (x18_1 < (l0_4.length : Int)) = true := decide_eq_true c27
        clear c27
        obtain ⟨ji28, hji28⟩ : ∃ j_ : Int, (wrap64 ((rd l0_4 x18_1) - 1)) = j_ := ⟨_, rfl⟩
        replace H : (if 0 ≤ (ji28) then (if (ji28) < (x223005_1.length : Int) then (ephemerisref1_Apart.l0 k1 l0_4 (l0_4.length : Int) (wrap64 (x18_1 + 1)) a0_0 a0_1 a0_2 l0_3 l0_4 a0_0 a0_1 a0_2 l0_3 l0_4 (x223005_1.set ((ji28) : Int).toNat true) 0 0 0) else (none)) else (none)) = some (r1, r2, r3, r4, r5, r6, r7, r8, r9) := by first | (rw [hji28] at H; exact H) | (simp only [hji28] at H ⊢; exact H)
        have hji28w : (IntKind.i64.wrap ((rd l0_4 x18_1) - 1)) = ji28 := (i64_w _).trans hji28
        by_cases c29 : 0 ≤ (ji28)
        ·rw [if_pos c29] at H
         have c29b0 : decide (0 ≤ (ji28)) = true := decide_eq_true c29
         clear c29
         by_cases c30 : (ji28) < (x223005_1.length : Int)
         ·rw [if_pos c30] at H
          have c30b0 : decide ((ji28) < (x223005_1.length : Int)) = true := decide_eq_true c30
          clear c30
          obtain ⟨y224, hy224⟩ : ∃ y_ : List Bool, y_ = (x223005_1.set ((ji28) : Int).toNat true) := ⟨_, rfl⟩
          replace H : (ephemerisref1_Apart.l0 k1 l0_4 (l0_4.length : Int) (wrap64 (x18_1 + 1)) a0_0 a0_1 a0_2 l0_3 l0_4 a0_0 a0_1 a0_2 l0_3 l0_4 y224 0 0 0) = some (r1, r2, r3, r4, r5, r6, r7, r8, r9) := rp hy224 H
          have Ny224 := Aside0.mk hy224
          clear hy224
          have H' := Aside0.mk H
          clear H
          have p223 : 0 ≤ (x18_1 : Int) := of_decide_eq_true ka
          have q223 : x18_1 < (l0_4.length : Int) := of_decide_eq_true ka
          obtain ⟨ad223, e223, hx223_0⟩ := Kd.at_int (Kd.V_reads' HO_16.out).2.2 x18_1 p223 q223
          cases e223
          replace p223 := eq_true p223
          replace q223 := eq_true q223
          have hnb32 := NB222_217.out
          have hnc32 := NB217_222.out
          have hnb33 := NB222_218.out
          have hnc33 := NB218_222.out
          obtain ⟨hcz34_0, hcz34_1, hcz34_2, hcz34_3, hcz34_4, hcz34_5, hcz34_6, hcz34_7, hcz34_8, hfz34_0, hfz34_1, hfz34_2, hfz34_3, hfz34_4, hfz34_5, hfz34_6, hfz34_7, hfz34_8⟩ := bc9 BK222
          have p31 : 0 ≤ ((ji28) : Int) := of_decide_eq_true ka
          have q31 : ((ji28) : Int) < ((x223005_1.length : Int) : Int) := of_decide_eq_true ka
          obtain ⟨go31, co31, eo31, gb31, gl31, cl31, HG31⟩ := Kd.R_form HO_223005.out (by omega)
          (first | cases eo31 | (injection eo31 with ea_ en_ ec_; (first | subst ea_ | (injection ea_ with ea_; subst ea_)); subst ec_; clear en_))
          have GB31 := Aside0.mk gb31
          have GG31 := Aside0.mk HG31
          clear gb31 gl31 HG31
          obtain ⟨hx31_0, hf31_0⟩ := Kd.R_celln false HO_223005.out ((ji28) : Int) p31 q31
          replace p31 := eq_true p31
          replace q31 := eq_true q31
          have HP35 := Kd.R_putg HO_223005.out ((ji28) : Int) true
          go_wp2_with (first | ((with_reducible refine gate_store (t := 4) (p := 26) rfl ?_); refine store_event (t := 4) (p := 26) (v := ?vo_w36) (w1 := (wr.setCell ⟨go31, ((ji28) : Int).toNat, none⟩ (.bool true))) ?hg ?ho ?hn ?hr ?_; (case ho => rfl); (case hg => rfl); (case hn => rfl); (case hr => first | (go_simp; done) | (go_simp; rfl)); intro w36 hw; have hg : wr.grownBy w36 (some go31) := (by rw [hw]; exact HP35.2); have hp_ : Kd.R Kd.bool 4 w36 w.heap.size (fun k_ => (w.heap.size ≤ k_)) (.slice (some ⟨go31, 0, none⟩) x223005_1.length co31) y224 := (by rw [hw, Ny224.out]; exact HP35.1); clear HP35; have n0_ := Aside0.mk (Kd.V_afterv (v := (.slice (some ⟨go31, 0, none⟩) x223005_1.length co31)) (v1 := (.slice (some ⟨go31, 0, none⟩) x223005_1.length co31)) (ok := (fun k_ => ((P0_3_ k_ ∨ P0_4_ k_) ∨ w.heap.size ≤ k_) ∧ k_ ≠ gb217 ∧ k_ ≠ gb218 ∧ k_ ≠ gb222)) (by (with_reducible repeat (first | apply Kd.V_alloc | apply Kd.V_drewN | apply Kd.V_drew)); exact Kd.V_mono HO_16.out (fun _ hk => ⟨⟨hk.1, ⟨hk.2.2.1, ⟨hk.2.2.2.1, hk.2.2.2.2⟩⟩⟩, hk.2.1⟩)) hg (.inl rfl)); have n1_ := Aside0.mk (Kd.V_afterv (v := (.slice (some ⟨go31, 0, none⟩) x223005_1.length co31)) (v1 := (.slice (some ⟨go31, 0, none⟩) x223005_1.length co31)) (ok := (fun k_ => ((P0_3_ k_ ∨ P0_4_ k_) ∨ w.heap.size ≤ k_) ∧ k_ ≠ gb217 ∧ k_ ≠ gb218 ∧ k_ ≠ gb222)) (by (with_reducible repeat (first | apply Kd.V_alloc | apply Kd.V_drewN | apply Kd.V_drew)); exact Kd.V_mono HO_218003.out (fun _ hk => ⟨⟨hk.1, ⟨hk.2.2.1, ⟨hk.2.2.2.1, hk.2.2.2.2⟩⟩⟩, hk.2.1⟩)) hg (.inl rfl)); have n2_ := Aside0.mk (Kd.V_afterv (v := (.slice (some ⟨go31, 0, none⟩) x223005_1.length co31)) (v1 := (.slice (some ⟨go31, 0, none⟩) x223005_1.length co31)) (ok := (fun k_ => ((P0_3_ k_ ∨ P0_4_ k_) ∨ w.heap.size ≤ k_) ∧ k_ ≠ gb217 ∧ k_ ≠ gb218 ∧ k_ ≠ gb222)) (by (with_reducible repeat (first | apply Kd.V_alloc | apply Kd.V_drewN | apply Kd.V_drew)); exact Kd.V_mono HO_218004.out (fun _ hk => ⟨⟨hk.1, ⟨hk.2.2.1, ⟨hk.2.2.2.1, hk.2.2.2.2⟩⟩⟩, hk.2.1⟩)) hg (.inl rfl)); have n3_ := Aside0.mk (Kd.V_afterv (v := (.slice (some ⟨go31, 0, none⟩) x223005_1.length co31)) (v1 := (.slice (some ⟨go31, 0, none⟩) x223005_1.length co31)) (ok := (fun k_ => ((P0_3_ k_ ∨ P0_4_ k_) ∨ w.heap.size ≤ k_) ∧ k_ ≠ gb217 ∧ k_ ≠ gb218 ∧ k_ ≠ gb222)) (by (with_reducible repeat (first | apply Kd.V_alloc | apply Kd.V_drewN | apply Kd.V_drew)); exact Kd.V_mono HO_223003.out (fun _ hk => ⟨⟨hk.1, ⟨hk.2.2.1, ⟨hk.2.2.2.1, hk.2.2.2.2⟩⟩⟩, hk.2.1⟩)) hg (.inl rfl)); have n4_ := Aside0.mk (Kd.V_afterv (v := (.slice (some ⟨go31, 0, none⟩) x223005_1.length co31)) (v1 := (.slice (some ⟨go31, 0, none⟩) x223005_1.length co31)) (ok := (fun k_ => ((P0_3_ k_ ∨ P0_4_ k_) ∨ w.heap.size ≤ k_) ∧ k_ ≠ gb217 ∧ k_ ≠ gb218 ∧ k_ ≠ gb222)) (by (with_reducible repeat (first | apply Kd.V_alloc | apply Kd.V_drewN | apply Kd.V_drew)); exact Kd.V_mono HO_223004.out (fun _ hk => ⟨⟨hk.1, ⟨hk.2.2.1, ⟨hk.2.2.2.1, hk.2.2.2.2⟩⟩⟩, hk.2.1⟩)) hg (.inl rfl)); have n5_ := Aside0.mk (hp_); have n6_ := Aside0.mk (blk_grown (g := gb217) (o := .cells #[.string a0_0, .int .i64 a0_1, .int .i64 a0_2, .slice A0_3 l0_3.length c0_3, .slice (some ad223) l0_4.length c0_4] 44 (0, 0)) (bk BK217) hg (Kd.R_ne HO_223005.out BK217.out (by decide))); have n7_ := Aside0.mk (blk_grown (g := gb218) (o := .cells #[.string (⟨#[]⟩ : ByteArray), .int .i64 0, .int .i64 0, .slice none 0 0, .slice none 0 0, .slice none 0 0, .int .i64 0, .int .i64 0, .int .i64 0] 53 (0, 0)) (bk BK218) hg (Kd.R_ne HO_223005.out BK218.out (by decide))); have n8_ := Aside0.mk (blk_grown (g := gb222) (o := .cells #[.string a0_0, .int .i64 a0_1, .int .i64 a0_2, .slice A0_3 l0_3.length c0_3, .slice (some ad223) l0_4.length c0_4, .slice (some ⟨go31, 0, none⟩) x223005_1.length co31, .int .i64 0, .int .i64 0, .int .i64 0] 53 (0, 0)) (bk BK222) hg (Kd.R_ne HO_223005.out BK222.out (by decide))); have n9_ := Aside0.mk ((by rw [hw]; exact below_set (HB.out) GB31.out : Below w.heap.size w w36)); clear HO_16; clear HO_218003; clear HO_218004; clear HO_223003; clear HO_223004; clear HO_223005; clear BK217; clear BK218; clear BK222; clear HB; have HO_16 := n0_; have HO_218003 := n1_; have HO_218004 := n2_; have HO_223003 := n3_; have HO_223004 := n4_; have HO_223005 := n5_; have BK217 := n6_; have BK218 := n7_; have BK222 := n8_; have HB := n9_; clear n0_ n1_ n2_ n3_ n4_ n5_ n6_ n7_ n8_ n9_; clear hg hw hp_))
          go_roundg k1
          case measure => have := HK1.out; omega
          case rel => exact ⟨(wrap64 (x18_1 + 1)), (y224), (.slice (some ⟨go31, 0, none⟩) x223005_1.length co31), rs, H', ⟨by have := HK1.out; omega⟩, ⟨by (with_reducible repeat (first | apply Kd.V_alloc | apply Kd.V_drewN | apply Kd.V_drew)); exact Kd.V_mono HO_16.out (fun _ hk => ⟨hk.1.1, ⟨hk.2, ⟨hk.1.2.1, ⟨hk.1.2.2.1, hk.1.2.2.2⟩⟩⟩⟩)⟩, ⟨by (with_reducible repeat (first | apply Kd.V_alloc | apply Kd.V_drewN | apply Kd.V_drew)); exact Kd.V_mono HO_218003.out (fun _ hk => ⟨hk.1.1, ⟨hk.2, ⟨hk.1.2.1, ⟨hk.1.2.2.1, hk.1.2.2.2⟩⟩⟩⟩)⟩, ⟨by (with_reducible repeat (first | apply Kd.V_alloc | apply Kd.V_drewN | apply Kd.V_drew)); exact Kd.V_mono HO_218004.out (fun _ hk => ⟨hk.1.1, ⟨hk.2, ⟨hk.1.2.1, ⟨hk.1.2.2.1, hk.1.2.2.2⟩⟩⟩⟩)⟩, ⟨by (with_reducible repeat (first | apply Kd.V_alloc | apply Kd.V_drewN | apply Kd.V_drew)); exact Kd.V_mono HO_223003.out (fun _ hk => ⟨hk.1.1, ⟨hk.2, ⟨hk.1.2.1, ⟨hk.1.2.2.1, hk.1.2.2.2⟩⟩⟩⟩)⟩, ⟨by (with_reducible repeat (first | apply Kd.V_alloc | apply Kd.V_drewN | apply Kd.V_drew)); exact Kd.V_mono HO_223004.out (fun _ hk => ⟨hk.1.1, ⟨hk.2, ⟨hk.1.2.1, ⟨hk.1.2.2.1, hk.1.2.2.2⟩⟩⟩⟩)⟩, ⟨by (with_reducible repeat (first | apply Kd.R_alloc | apply Kd.R_drewN | apply Kd.R_drew)); exact HO_223005.out⟩, ⟨bk BK217⟩, ⟨bk BK218⟩, ⟨bk BK222⟩, ⟨be⟩⟩
         ·rw [if_neg c30] at H
          exact absurd H (by simp)
        ·rw [if_neg c29] at H
         exact absurd H (by simp)
       ·rw [if_neg c27] at H
        exact absurd H (by simp)
      ·rw [if_neg c26] at H
       exact absurd H (by simp)
     ·rw [if_neg c25] at H
      have c25b0 : decide (x18_1 < (l0_4.length : Int)) = false := decide_eq_false c25
      clear c25
      have H' := Aside0.mk H
      clear H
      have hnb37 := NB217_218.out
      have hnc37 := NB218_217.out
      have hnb38 := NB217_222.out
      have hnc38 := NB222_217.out
      obtain ⟨hcz39_0, hcz39_1, hcz39_2, hcz39_3, hcz39_4, hfz39_0, hfz39_1, hfz39_2, hfz39_3, hfz39_4⟩ := bc5 BK217
      go_wp2
      go_loopg [31] k1 (fun kq v31 w' => ∃ (x31_2 : Int) (x223006_2 : Int) (x223007_2 : Int), v31 = .int .i64 x31_2 ∧ Aside0 (ephemerisref1_Apart.l1 kq l0_3 (l0_3.length : Int) x31_2 a0_0 a0_1 a0_2 l0_3 l0_4 x223005_1 x223006_2 x223007_2 0 = some (r1, r2, r3, r4, r5, r6, r7, r8, r9)) ∧ Aside0 (kq ≤ k1) ∧ Aside0 (Kd.V k125 125 w' w.heap.size (fun k_ => ((P0_3_ k_ ∨ P0_4_ k_) ∨ w.heap.size ≤ k_) ∧ some k_ ≠ (u223005 : Value).ownBlock ∧ k_ ≠ gb217 ∧ k_ ≠ gb218 ∧ k_ ≠ gb222) (.slice A0_3 l0_3.length c0_3) l0_3) ∧ Aside0 (Kd.V k125 125 w' w.heap.size (fun k_ => ((P0_3_ k_ ∨ P0_4_ k_) ∨ w.heap.size ≤ k_) ∧ some k_ ≠ (u223005 : Value).ownBlock ∧ k_ ≠ gb217 ∧ k_ ≠ gb218 ∧ k_ ≠ gb222) (.slice A0_3 l0_3.length c0_3) l0_3) ∧ Aside0 (Kd.V (Kd.int .i64) 3 w' w.heap.size (fun k_ => ((P0_3_ k_ ∨ P0_4_ k_) ∨ w.heap.size ≤ k_) ∧ some k_ ≠ (u223005 : Value).ownBlock ∧ k_ ≠ gb217 ∧ k_ ≠ gb218 ∧ k_ ≠ gb222) (.slice A0_4 l0_4.length c0_4) l0_4) ∧ Aside0 (Kd.V k125 125 w' w.heap.size (fun k_ => ((P0_3_ k_ ∨ P0_4_ k_) ∨ w.heap.size ≤ k_) ∧ some k_ ≠ (u223005 : Value).ownBlock ∧ k_ ≠ gb217 ∧ k_ ≠ gb218 ∧ k_ ≠ gb222) (.slice A0_3 l0_3.length c0_3) l0_3) ∧ Aside0 (Kd.V (Kd.int .i64) 3 w' w.heap.size (fun k_ => ((P0_3_ k_ ∨ P0_4_ k_) ∨ w.heap.size ≤ k_) ∧ some k_ ≠ (u223005 : Value).ownBlock ∧ k_ ≠ gb217 ∧ k_ ≠ gb218 ∧ k_ ≠ gb222) (.slice A0_4 l0_4.length c0_4) l0_4) ∧ Aside0 (Kd.R Kd.bool 4 w' w.heap.size (fun k_ => (w.heap.size ≤ k_)) u223005 x223005_1) ∧ Aside0 (w'.heap[gb217]? = some (.cells #[.string a0_0, .int .i64 a0_1, .int .i64 a0_2, (.slice A0_3 l0_3.length c0_3), (.slice A0_4 l0_4.length c0_4)] 44 (0, 0))) ∧ Aside0 (w'.heap[gb218]? = some (.cells #[.string (⟨#[]⟩ : ByteArray), .int .i64 0, .int .i64 0, (.slice none 0 0), (.slice none 0 0), (.slice none 0 0), .int .i64 0, .int .i64 0, .int .i64 0] 53 (0, 0))) ∧ Aside0 (w'.heap[gb222]? = some (.cells #[.string a0_0, .int .i64 a0_1, .int .i64 a0_2, (.slice A0_3 l0_3.length c0_3), (.slice A0_4 l0_4.length c0_4), u223005, .int .i64 x223006_2, .int .i64 x223007_2, .int .i64 0] 53 (0, 0))) ∧ Aside0 (Below w.heap.size w w'))
      case atStart => exact ⟨(0), (0), (0), rs, H', ⟨Nat.le_refl _⟩, ⟨by (with_reducible repeat (first | apply Kd.V_alloc | apply Kd.V_drewN | apply Kd.V_drew)); exact HO_218003.out⟩, ⟨by (with_reducible repeat (first | apply Kd.V_alloc | apply Kd.V_drewN | apply Kd.V_drew)); exact HO_218003.out⟩, ⟨by (with_reducible repeat (first | apply Kd.V_alloc | apply Kd.V_drewN | apply Kd.V_drew)); exact HO_218004.out⟩, ⟨by (with_reducible repeat (first | apply Kd.V_alloc | apply Kd.V_drewN | apply Kd.V_drew)); exact HO_223003.out⟩, ⟨by (with_reducible repeat (first | apply Kd.V_alloc | apply Kd.V_drewN | apply Kd.V_drew)); exact HO_223004.out⟩, ⟨by (with_reducible repeat (first | apply Kd.R_alloc | apply Kd.R_drewN | apply Kd.R_drew)); exact HO_223005.out⟩, ⟨bk BK217⟩, ⟨bk BK218⟩, ⟨bk BK222⟩, ⟨be⟩⟩
      case round =>
       clear H'
       (try clear c2); (try clear c2b0); (try clear c2b1); (try clear p2); (try clear q2); (try clear hx2); (try clear c3); (try clear c3b0); (try clear c3b1); (try clear p3); (try clear q3); (try clear hx3); (try clear hf3); (try clear p6); (try clear c22); (try clear p22); (try clear q22); (try clear hx22); (try clear c23); (try clear c25); (try clear c25b0); (try clear c26); (try clear c26b0); (try clear c27); (try clear c27b0); (try clear c29); (try clear c29b0); (try clear c30); (try clear c30b0); (try clear p31); (try clear q31); (try clear hx31); (try clear hf31); (try clear c32); (try clear c33); (try clear c37); (try clear c38); (try clear hcz24_0); (try clear hcz24_1); (try clear hcz24_2); (try clear hcz24_3); (try clear hcz24_4); (try clear hcz34_0); (try clear hcz34_1); (try clear hcz34_2); (try clear hcz34_3); (try clear hcz34_4); (try clear hcz34_5); (try clear hcz34_6); (try clear hcz34_7); (try clear hcz34_8); (try clear hcz39_0); (try clear hcz39_1); (try clear hcz39_2); (try clear hcz39_3); (try clear hcz39_4); (try clear hfz24_0); (try clear hfz24_1); (try clear hfz24_2); (try clear hfz24_3); (try clear hfz24_4); (try clear hfz34_0); (try clear hfz34_1); (try clear hfz34_2); (try clear hfz34_3); (try clear hfz34_4); (try clear hfz34_5); (try clear hfz34_6); (try clear hfz34_7); (try clear hfz34_8); (try clear hfz39_0); (try clear hfz39_1); (try clear hfz39_2); (try clear hfz39_3); (try clear hfz39_4); (try clear hx223_0); (try clear hx31_0); (try clear p2); (try clear p223); (try clear p31); (try clear q223); (try clear q31)
       obtain ⟨x31_2, x223006_2, x223007_2, rfl, HA, HK2, HO_29, HO_218003, HO_218004, HO_223003, HO_223004, HO_223005, BK217, BK218, BK222, HB⟩ := hrel
       cases gk with
       | zero => exact absurd HA.out (by simp [ephemerisref1_Apart.l1])
       | succ k2 =>
        have H := HA.out
        clear HA
        simp only [ephemerisref1_Apart.l1] at H
        by_cases c40 : x31_2 < (l0_3.length : Int)
        ·rw [if_pos c40] at H
         have c40b0 : decide (x31_2 < (l0_3.length : Int)) = true := decide_eq_true c40
         clear c40
         by_cases c41 : 0 ≤ x31_2
         ·rw [if_pos c41] at H
          have c41b0 : decide (0 ≤ x31_2) = true := decide_eq_true c41
          clear c41
          by_cases c42 : x31_2 < (l0_3.length : Int)
          ·rw [if_pos c42] at H
           have c42b0 : decide (x31_2 < (l0_3.length : Int)) = true := decide_eq_true c42
           clear c42
           have H' := Aside0.mk H
           clear H
           have p225 : 0 ≤ (x31_2 : Int) := of_decide_eq_true ka
           have q225 : x31_2 < (l0_3.length : Int) := of_decide_eq_true ka
           obtain ⟨ad225, e225, hx225_0, hx225_1, hx225_2⟩ := at_T125 (Kd.V_reads' HO_29.out).2.2 x31_2 p225 q225
           cases e225
           replace p225 := eq_true p225
           replace q225 := eq_true q225
           go_wp2_with (first | ((with_reducible refine gate_dst (N := 7) rfl ?_); refine box_event ?hg (N := 7) ?hd (cs := #[.string (⟨#[]⟩ : ByteArray), .int .i64 0, .int .i64 0]) (t := 125) ?hr ?_; (case hd => rfl); (case hg => rfl); (case hr => first | (go_simp; done) | (go_simp; rfl)); intro gb226 hg w43 hbox hb; have n0_ := Aside0.mk (Kd.V_below (Kd.V_elderB (by (with_reducible repeat (first | apply Kd.V_alloc | apply Kd.V_drewN | apply Kd.V_drew)); exact HO_29.out) gb226 (Nat.le_of_eq hg.symm)) hb); have n1_ := Aside0.mk (Kd.V_below (Kd.V_elderB (by (with_reducible repeat (first | apply Kd.V_alloc | apply Kd.V_drewN | apply Kd.V_drew)); exact HO_218003.out) gb226 (Nat.le_of_eq hg.symm)) hb); have n2_ := Aside0.mk (Kd.V_below (Kd.V_elderB (by (with_reducible repeat (first | apply Kd.V_alloc | apply Kd.V_drewN | apply Kd.V_drew)); exact HO_218004.out) gb226 (Nat.le_of_eq hg.symm)) hb); have n3_ := Aside0.mk (Kd.V_below (Kd.V_elderB (by (with_reducible repeat (first | apply Kd.V_alloc | apply Kd.V_drewN | apply Kd.V_drew)); exact HO_223003.out) gb226 (Nat.le_of_eq hg.symm)) hb); have n4_ := Aside0.mk (Kd.V_below (Kd.V_elderB (by (with_reducible repeat (first | apply Kd.V_alloc | apply Kd.V_drewN | apply Kd.V_drew)); exact HO_223004.out) gb226 (Nat.le_of_eq hg.symm)) hb); have n5_ := Aside0.mk (Kd.R_below (by (with_reducible repeat (first | apply Kd.R_alloc | apply Kd.R_drewN | apply Kd.R_drew)); exact HO_223005.out) hb); have n6_ := bb BK217 hb; have n7_ := bb BK218 hb; have n8_ := bb BK222 hb; have n9_ := Aside0.mk (below_step be hb); have n10_ := Aside0.mk (hbox); have n11_ := gs hg HB; have n12_ := n11_; have n13_ := nl BK217 hg; have n14_ := ns n13_; have n15_ := nl BK218 hg; have n16_ := ns n15_; have n17_ := nl BK222 hg; have n18_ := ns n17_; clear HO_29; clear HO_218003; clear HO_218004; clear HO_223003; clear HO_223004; clear HO_223005; clear BK217; clear BK218; clear BK222; clear HB; have HO_29 := n0_; have HO_218003 := n1_; have HO_218004 := n2_; have HO_223003 := n3_; have HO_223004 := n4_; have HO_223005 := n5_; have BK217 := n6_; have BK218 := n7_; have BK222 := n8_; have HB := n9_; have BK226 := n10_; have GW226 := n11_; have GE226 := n12_; have NB217_226 := n13_; have NB226_217 := n14_; have NB218_226 := n15_; have NB226_218 := n16_; have NB222_226 := n17_; have NB226_222 := n18_; clear n0_ n1_ n2_ n3_ n4_ n5_ n6_ n7_ n8_ n9_ n10_ n11_ n12_ n13_ n14_ n15_ n16_ n17_ n18_; clear hb hbox hg; have hnb44 := NB226_217.out; have hnc44 := NB217_226.out; have hnb45 := NB226_218.out; have hnc45 := NB218_226.out; have hnb46 := NB226_222.out; have hnc46 := NB222_226.out; obtain ⟨hcz47_0, hcz47_1, hcz47_2, hfz47_0, hfz47_1, hfz47_2⟩ := bc3 BK226; have hnb48 := NB222_217.out; have hnc48 := NB217_222.out; have hnb49 := NB222_218.out; have hnc49 := NB218_222.out; obtain ⟨hcz50_0, hcz50_1, hcz50_2, hcz50_3, hcz50_4, hcz50_5, hcz50_6, hcz50_7, hcz50_8, hfz50_0, hfz50_1, hfz50_2, hfz50_3, hfz50_4, hfz50_5, hfz50_6, hfz50_7, hfz50_8⟩ := bc9 BK222))
           go_roundg k2
           case measure => have := HK1.out; have := HK2.out; omega
           case rel => exact ⟨(wrap64 (x31_2 + 1)), (wrap64 (x223006_2 + ((rd_T125 l0_3 x31_2).f1))), (wrap64 (x223007_2 + ((rd_T125 l0_3 x31_2).f2))), rs, H', ⟨by have := HK1.out; have := HK2.out; omega⟩, ⟨by (with_reducible repeat (first | apply Kd.V_alloc | apply Kd.V_drewN | apply Kd.V_drew)); exact Kd.V_mono (Kd.V_far (p := ⟨gb222, 7, none⟩) (Kd.V_far (p := ⟨gb222, 6, none⟩) (Kd.V_far (p := ⟨gb226, 2, none⟩) (Kd.V_far (p := ⟨gb226, 1, none⟩) (Kd.V_far (p := ⟨gb226, 0, none⟩) (Kd.V_mono (Kd.V_mono HO_29.out (fun k_ hk => (⟨hk, hk.2⟩ : _ ∧ k_ ≠ gb226))) (fun k_ hk => (⟨hk, hk.1.1.2.2.2.2⟩ : _ ∧ k_ ≠ gb222))) (fun _ hk => hk.1.2) (.string ((rd_T125 l0_3 x31_2).f0))) (fun _ hk => hk.1.2) (.int .i64 ((rd_T125 l0_3 x31_2).f1))) (fun _ hk => hk.1.2) (.int .i64 ((rd_T125 l0_3 x31_2).f2))) (fun _ hk => hk.2) (.int .i64 (wrap64 (x223006_2 + ((rd_T125 l0_3 x31_2).f1))))) (fun _ hk => hk.2) (.int .i64 (wrap64 (x223007_2 + ((rd_T125 l0_3 x31_2).f2))))) (fun _ hk => ⟨hk.1.1.1.1, ⟨hk.1.1.1.2.1, ⟨hk.1.1.1.2.2.1, ⟨hk.1.1.1.2.2.2.1, hk.1.1.1.2.2.2.2⟩⟩⟩⟩)⟩, ⟨by (with_reducible repeat (first | apply Kd.V_alloc | apply Kd.V_drewN | apply Kd.V_drew)); exact Kd.V_mono (Kd.V_far (p := ⟨gb222, 7, none⟩) (Kd.V_far (p := ⟨gb222, 6, none⟩) (Kd.V_far (p := ⟨gb226, 2, none⟩) (Kd.V_far (p := ⟨gb226, 1, none⟩) (Kd.V_far (p := ⟨gb226, 0, none⟩) (Kd.V_mono (Kd.V_mono HO_218003.out (fun k_ hk => (⟨hk, hk.2⟩ : _ ∧ k_ ≠ gb226))) (fun k_ hk => (⟨hk, hk.1.1.2.2.2.2⟩ : _ ∧ k_ ≠ gb222))) (fun _ hk => hk.1.2) (.string ((rd_T125 l0_3 x31_2).f0))) (fun _ hk => hk.1.2) (.int .i64 ((rd_T125 l0_3 x31_2).f1))) (fun _ hk => hk.1.2) (.int .i64 ((rd_T125 l0_3 x31_2).f2))) (fun _ hk => hk.2) (.int .i64 (wrap64 (x223006_2 + ((rd_T125 l0_3 x31_2).f1))))) (fun _ hk => hk.2) (.int .i64 (wrap64 (x223007_2 + ((rd_T125 l0_3 x31_2).f2))))) (fun _ hk => ⟨hk.1.1.1.1, ⟨hk.1.1.1.2.1, ⟨hk.1.1.1.2.2.1, ⟨hk.1.1.1.2.2.2.1, hk.1.1.1.2.2.2.2⟩⟩⟩⟩)⟩, ⟨by (with_reducible repeat (first | apply Kd.V_alloc | apply Kd.V_drewN | apply Kd.V_drew)); exact Kd.V_mono (Kd.V_far (p := ⟨gb222, 7, none⟩) (Kd.V_far (p := ⟨gb222, 6, none⟩) (Kd.V_far (p := ⟨gb226, 2, none⟩) (Kd.V_far (p := ⟨gb226, 1, none⟩) (Kd.V_far (p := ⟨gb226, 0, none⟩) (Kd.V_mono (Kd.V_mono HO_218004.out (fun k_ hk => (⟨hk, hk.2⟩ : _ ∧ k_ ≠ gb226))) (fun k_ hk => (⟨hk, hk.1.1.2.2.2.2⟩ : _ ∧ k_ ≠ gb222))) (fun _ hk => hk.1.2) (.string ((rd_T125 l0_3 x31_2).f0))) (fun _ hk => hk.1.2) (.int .i64 ((rd_T125 l0_3 x31_2).f1))) (fun _ hk => hk.1.2) (.int .i64 ((rd_T125 l0_3 x31_2).f2))) (fun _ hk => hk.2) (.int .i64 (wrap64 (x223006_2 + ((rd_T125 l0_3 x31_2).f1))))) (fun _ hk => hk.2) (.int .i64 (wrap64 (x223007_2 + ((rd_T125 l0_3 x31_2).f2))))) (fun _ hk => ⟨hk.1.1.1.1, ⟨hk.1.1.1.2.1, ⟨hk.1.1.1.2.2.1, ⟨hk.1.1.1.2.2.2.1, hk.1.1.1.2.2.2.2⟩⟩⟩⟩)⟩, ⟨by (with_reducible repeat (first | apply Kd.V_alloc | apply Kd.V_drewN | apply Kd.V_drew)); exact Kd.V_mono (Kd.V_far (p := ⟨gb222, 7, none⟩) (Kd.V_far (p := ⟨gb222, 6, none⟩) (Kd.V_far (p := ⟨gb226, 2, none⟩) (Kd.V_far (p := ⟨gb226, 1, none⟩) (Kd.V_far (p := ⟨gb226, 0, none⟩) (Kd.V_mono (Kd.V_mono HO_223003.out (fun k_ hk => (⟨hk, hk.2⟩ : _ ∧ k_ ≠ gb226))) (fun k_ hk => (⟨hk, hk.1.1.2.2.2.2⟩ : _ ∧ k_ ≠ gb222))) (fun _ hk => hk.1.2) (.string ((rd_T125 l0_3 x31_2).f0))) (fun _ hk => hk.1.2) (.int .i64 ((rd_T125 l0_3 x31_2).f1))) (fun _ hk => hk.1.2) (.int .i64 ((rd_T125 l0_3 x31_2).f2))) (fun _ hk => hk.2) (.int .i64 (wrap64 (x223006_2 + ((rd_T125 l0_3 x31_2).f1))))) (fun _ hk => hk.2) (.int .i64 (wrap64 (x223007_2 + ((rd_T125 l0_3 x31_2).f2))))) (fun _ hk => ⟨hk.1.1.1.1, ⟨hk.1.1.1.2.1, ⟨hk.1.1.1.2.2.1, ⟨hk.1.1.1.2.2.2.1, hk.1.1.1.2.2.2.2⟩⟩⟩⟩)⟩, ⟨by (with_reducible repeat (first | apply Kd.V_alloc | apply Kd.V_drewN | apply Kd.V_drew)); exact Kd.V_mono (Kd.V_far (p := ⟨gb222, 7, none⟩) (Kd.V_far (p := ⟨gb222, 6, none⟩) (Kd.V_far (p := ⟨gb226, 2, none⟩) (Kd.V_far (p := ⟨gb226, 1, none⟩) (Kd.V_far (p := ⟨gb226, 0, none⟩) (Kd.V_mono (Kd.V_mono HO_223004.out (fun k_ hk => (⟨hk, hk.2⟩ : _ ∧ k_ ≠ gb226))) (fun k_ hk => (⟨hk, hk.1.1.2.2.2.2⟩ : _ ∧ k_ ≠ gb222))) (fun _ hk => hk.1.2) (.string ((rd_T125 l0_3 x31_2).f0))) (fun _ hk => hk.1.2) (.int .i64 ((rd_T125 l0_3 x31_2).f1))) (fun _ hk => hk.1.2) (.int .i64 ((rd_T125 l0_3 x31_2).f2))) (fun _ hk => hk.2) (.int .i64 (wrap64 (x223006_2 + ((rd_T125 l0_3 x31_2).f1))))) (fun _ hk => hk.2) (.int .i64 (wrap64 (x223007_2 + ((rd_T125 l0_3 x31_2).f2))))) (fun _ hk => ⟨hk.1.1.1.1, ⟨hk.1.1.1.2.1, ⟨hk.1.1.1.2.2.1, ⟨hk.1.1.1.2.2.2.1, hk.1.1.1.2.2.2.2⟩⟩⟩⟩)⟩, ⟨by (with_reducible repeat (first | apply Kd.R_alloc | apply Kd.R_drewN | apply Kd.R_drew)); exact Kd.R_mono (Kd.R_far (p := ⟨gb222, 7, none⟩) (Kd.R_far (p := ⟨gb222, 6, none⟩) (Kd.R_far (p := ⟨gb226, 2, none⟩) (Kd.R_far (p := ⟨gb226, 1, none⟩) (Kd.R_far (p := ⟨gb226, 0, none⟩) (Kd.R_types (Kd.R_types HO_223005.out BK226.out (by decide)) BK222.out (by decide)) (fun _ hk => hk.1.2) (.string ((rd_T125 l0_3 x31_2).f0))) (fun _ hk => hk.1.2) (.int .i64 ((rd_T125 l0_3 x31_2).f1))) (fun _ hk => hk.1.2) (.int .i64 ((rd_T125 l0_3 x31_2).f2))) (fun _ hk => hk.2) (.int .i64 (wrap64 (x223006_2 + ((rd_T125 l0_3 x31_2).f1))))) (fun _ hk => hk.2) (.int .i64 (wrap64 (x223007_2 + ((rd_T125 l0_3 x31_2).f2))))) (fun _ hk => hk.1.1)⟩, ⟨bk BK217⟩, ⟨bk BK218⟩, ⟨bk BK222⟩, ⟨be⟩⟩
          ·rw [if_neg c42] at H
           exact absurd H (by simp)
         ·rw [if_neg c41] at H
          exact absurd H (by simp)
        ·rw [if_neg c40] at H
         have c40b0 : decide (x31_2 < (l0_3.length : Int)) = false := decide_eq_false c40
         clear c40
         have H' := Aside0.mk H
         clear H
         have hnb51 := NB222_217.out
         have hnc51 := NB217_222.out
         have hnb52 := NB222_218.out
         have hnc52 := NB218_222.out
         obtain ⟨hcz53_0, hcz53_1, hcz53_2, hcz53_3, hcz53_4, hcz53_5, hcz53_6, hcz53_7, hcz53_8, hfz53_0, hfz53_1, hfz53_2, hfz53_3, hfz53_4, hfz53_5, hfz53_6, hfz53_7, hfz53_8⟩ := bc9 BK222
         obtain ⟨Ao54, co54, eo54⟩ := Kd.R_slice HO_223005.out
         subst eo54
         go_wp2
         go_loopg [55] k2 (fun kq v55 w' => ∃ (x55_3 : Int) (x223008_3 : Int), v55 = .int .i64 x55_3 ∧ Aside0 (ephemerisref1_Apart.l2 kq x223005_1 (x223005_1.length : Int) x55_3 a0_0 a0_1 a0_2 l0_3 l0_4 x223005_1 x223006_2 x223007_2 x223008_3 = some (r1, r2, r3, r4, r5, r6, r7, r8, r9)) ∧ Aside0 (kq ≤ k2) ∧ Aside0 (Kd.R Kd.bool 4 w' w.heap.size (fun k_ => (w.heap.size ≤ k_)) (.slice Ao54 x223005_1.length co54) x223005_1) ∧ Aside0 (Kd.V k125 125 w' w.heap.size (fun k_ => ((P0_3_ k_ ∨ P0_4_ k_) ∨ w.heap.size ≤ k_) ∧ some k_ ≠ ((.slice Ao54 x223005_1.length co54) : Value).ownBlock ∧ some k_ ≠ ((.slice Ao54 x223005_1.length co54) : Value).ownBlock ∧ k_ ≠ gb217 ∧ k_ ≠ gb218 ∧ k_ ≠ gb222) (.slice A0_3 l0_3.length c0_3) l0_3) ∧ Aside0 (Kd.V (Kd.int .i64) 3 w' w.heap.size (fun k_ => ((P0_3_ k_ ∨ P0_4_ k_) ∨ w.heap.size ≤ k_) ∧ some k_ ≠ ((.slice Ao54 x223005_1.length co54) : Value).ownBlock ∧ some k_ ≠ ((.slice Ao54 x223005_1.length co54) : Value).ownBlock ∧ k_ ≠ gb217 ∧ k_ ≠ gb218 ∧ k_ ≠ gb222) (.slice A0_4 l0_4.length c0_4) l0_4) ∧ Aside0 (Kd.V k125 125 w' w.heap.size (fun k_ => ((P0_3_ k_ ∨ P0_4_ k_) ∨ w.heap.size ≤ k_) ∧ some k_ ≠ ((.slice Ao54 x223005_1.length co54) : Value).ownBlock ∧ some k_ ≠ ((.slice Ao54 x223005_1.length co54) : Value).ownBlock ∧ k_ ≠ gb217 ∧ k_ ≠ gb218 ∧ k_ ≠ gb222) (.slice A0_3 l0_3.length c0_3) l0_3) ∧ Aside0 (Kd.V (Kd.int .i64) 3 w' w.heap.size (fun k_ => ((P0_3_ k_ ∨ P0_4_ k_) ∨ w.heap.size ≤ k_) ∧ some k_ ≠ ((.slice Ao54 x223005_1.length co54) : Value).ownBlock ∧ some k_ ≠ ((.slice Ao54 x223005_1.length co54) : Value).ownBlock ∧ k_ ≠ gb217 ∧ k_ ≠ gb218 ∧ k_ ≠ gb222) (.slice A0_4 l0_4.length c0_4) l0_4) ∧ Aside0 (Kd.R Kd.bool 4 w' w.heap.size (fun k_ => (w.heap.size ≤ k_)) (.slice Ao54 x223005_1.length co54) x223005_1) ∧ Aside0 (w'.heap[gb217]? = some (.cells #[.string a0_0, .int .i64 a0_1, .int .i64 a0_2, (.slice A0_3 l0_3.length c0_3), (.slice A0_4 l0_4.length c0_4)] 44 (0, 0))) ∧ Aside0 (w'.heap[gb218]? = some (.cells #[.string (⟨#[]⟩ : ByteArray), .int .i64 0, .int .i64 0, (.slice none 0 0), (.slice none 0 0), (.slice none 0 0), .int .i64 0, .int .i64 0, .int .i64 0] 53 (0, 0))) ∧ Aside0 (w'.heap[gb222]? = some (.cells #[.string a0_0, .int .i64 a0_1, .int .i64 a0_2, (.slice A0_3 l0_3.length c0_3), (.slice A0_4 l0_4.length c0_4), (.slice Ao54 x223005_1.length co54), .int .i64 x223006_2, .int .i64 x223007_2, .int .i64 x223008_3] 53 (0, 0))) ∧ Aside0 (Below w.heap.size w w'))
         case atStart => exact ⟨(0), (0), rs, H', ⟨Nat.le_refl _⟩, ⟨by (with_reducible repeat (first | apply Kd.R_alloc | apply Kd.R_drewN | apply Kd.R_drew)); exact HO_223005.out⟩, ⟨by (with_reducible repeat (first | apply Kd.V_alloc | apply Kd.V_drewN | apply Kd.V_drew)); exact Kd.V_mono HO_218003.out (fun _ hk => ⟨hk.1, ⟨hk.2.1, ⟨hk.2.1, ⟨hk.2.2.1, ⟨hk.2.2.2.1, hk.2.2.2.2⟩⟩⟩⟩⟩)⟩, ⟨by (with_reducible repeat (first | apply Kd.V_alloc | apply Kd.V_drewN | apply Kd.V_drew)); exact Kd.V_mono HO_218004.out (fun _ hk => ⟨hk.1, ⟨hk.2.1, ⟨hk.2.1, ⟨hk.2.2.1, ⟨hk.2.2.2.1, hk.2.2.2.2⟩⟩⟩⟩⟩)⟩, ⟨by (with_reducible repeat (first | apply Kd.V_alloc | apply Kd.V_drewN | apply Kd.V_drew)); exact Kd.V_mono HO_223003.out (fun _ hk => ⟨hk.1, ⟨hk.2.1, ⟨hk.2.1, ⟨hk.2.2.1, ⟨hk.2.2.2.1, hk.2.2.2.2⟩⟩⟩⟩⟩)⟩, ⟨by (with_reducible repeat (first | apply Kd.V_alloc | apply Kd.V_drewN | apply Kd.V_drew)); exact Kd.V_mono HO_223004.out (fun _ hk => ⟨hk.1, ⟨hk.2.1, ⟨hk.2.1, ⟨hk.2.2.1, ⟨hk.2.2.2.1, hk.2.2.2.2⟩⟩⟩⟩⟩)⟩, ⟨by (with_reducible repeat (first | apply Kd.R_alloc | apply Kd.R_drewN | apply Kd.R_drew)); exact HO_223005.out⟩, ⟨bk BK217⟩, ⟨bk BK218⟩, ⟨bk BK222⟩, ⟨be⟩⟩
         case round =>
          clear H'
          (try clear c2); (try clear c2b0); (try clear c2b1); (try clear p2); (try clear q2); (try clear hx2); (try clear c3); (try clear c3b0); (try clear c3b1); (try clear p3); (try clear q3); (try clear hx3); (try clear hf3); (try clear c4); (try clear c5); (try clear p6); (try clear c22); (try clear p22); (try clear q22); (try clear hx22); (try clear c23); (try clear c25); (try clear c25b0); (try clear c26); (try clear c26b0); (try clear c27); (try clear c27b0); (try clear c29); (try clear c29b0); (try clear c30); (try clear c30b0); (try clear p31); (try clear q31); (try clear hx31); (try clear hf31); (try clear c32); (try clear c33); (try clear c37); (try clear c38); (try clear c40); (try clear c40b0); (try clear c41); (try clear c41b0); (try clear c42); (try clear c42b0); (try clear c44); (try clear c45); (try clear c46); (try clear c48); (try clear c49); (try clear c51); (try clear c52); (try clear hcz24_0); (try clear hcz24_1); (try clear hcz24_2); (try clear hcz24_3); (try clear hcz24_4); (try clear hcz34_0); (try clear hcz34_1); (try clear hcz34_2); (try clear hcz34_3); (try clear hcz34_4); (try clear hcz34_5); (try clear hcz34_6); (try clear hcz34_7); (try clear hcz34_8); (try clear hcz39_0); (try clear hcz39_1); (try clear hcz39_2); (try clear hcz39_3); (try clear hcz39_4); (try clear hcz47_0); (try clear hcz47_1); (try clear hcz47_2); (try clear hcz50_0); (try clear hcz50_1); (try clear hcz50_2); (try clear hcz50_3); (try clear hcz50_4); (try clear hcz50_5); (try clear hcz50_6); (try clear hcz50_7); (try clear hcz50_8); (try clear hcz53_0); (try clear hcz53_1); (try clear hcz53_2); (try clear hcz53_3); (try clear hcz53_4); (try clear hcz53_5); (try clear hcz53_6); (try clear hcz53_7); (try clear hcz53_8); (try clear hfz24_0); (try clear hfz24_1); (try clear hfz24_2); (try clear hfz24_3); (try clear hfz24_4); (try clear hfz34_0); (try clear hfz34_1); (try clear hfz34_2); (try clear hfz34_3); (try clear hfz34_4); (try clear hfz34_5); (try clear hfz34_6); (try clear hfz34_7); (try clear hfz34_8); (try clear hfz39_0); (try clear hfz39_1); (try clear hfz39_2); (try clear hfz39_3); (try clear hfz39_4); (try clear hfz47_0); (try clear hfz47_1); (try clear hfz47_2); (try clear hfz50_0); (try clear hfz50_1); (try clear hfz50_2); (try clear hfz50_3); (try clear hfz50_4); (try clear hfz50_5); (try clear hfz50_6); (try clear hfz50_7); (try clear hfz50_8); (try clear hfz53_0); (try clear hfz53_1); (try clear hfz53_2); (try clear hfz53_3); (try clear hfz53_4); (try clear hfz53_5); (try clear hfz53_6); (try clear hfz53_7); (try clear hfz53_8); (try clear hx223_0); (try clear hx225_0); (try clear hx225_1); (try clear hx225_2); (try clear hx31_0); (try clear p2); (try clear p22); (try clear p223); (try clear p225); (try clear p3); (try clear p31); (try clear p6); (try clear q2); (try clear q22); (try clear q223); (try clear q225); (try clear q3); (try clear q31)
          obtain ⟨x55_3, x223008_3, rfl, HA, HK3, HO_53, HO_218003, HO_218004, HO_223003, HO_223004, HO_223005, BK217, BK218, BK222, HB⟩ := hrel
          cases gk with
          | zero => exact absurd HA.out (by simp [ephemerisref1_Apart.l2])
          | succ k3 =>
           have H := HA.out
           clear HA
           simp only [ephemerisref1_Apart.l2] at H
           by_cases c55 : x55_3 < (x223005_1.length : Int)
           ·rw [if_pos c55] at H
            have c55b0 : decide (x55_3 < (x223005_1.length : Int)) = true := decide_eq_true c55
            clear c55
            by_cases c56 : 0 ≤ x55_3
            ·rw [if_pos c56] at H
             have c56b0 : decide (0 ≤ x55_3) = true := decide_eq_true c56
             clear c56
             by_cases c57 : x55_3 < (x223005_1.length : Int)
             ·rw [if_pos c57] at H
              have c57b0 : decide (x55_3 < (x223005_1.length : Int)) = true := decide_eq_true c57
              clear c57
              replace H := Option.bind_eq_some_iff.mp H
              obtain ⟨t228, A580, H⟩ := H
              replace H : (if t228 = 0 then (ephemerisref1_Apart.l2 k3 x223005_1 (x223005_1.length : Int) (wrap64 (x55_3 + 1)) a0_0 a0_1 a0_2 l0_3 l0_4 x223005_1 x223006_2 x223007_2 (wrap64 (x223008_3 + x223006_2))) else (if t228 = 1 then (ephemerisref1_Apart.l2 k3 x223005_1 (x223005_1.length : Int) (wrap64 (x55_3 + 1)) a0_0 a0_1 a0_2 l0_3 l0_4 x223005_1 x223006_2 x223007_2 (wrap64 (x223008_3 + x223007_2))) else (none))) = some (r1, r2, r3, r4, r5, r6, r7, r8, r9) := H
              have A58 := Aside0.mk A580
              clear A580
              by_cases c59 : t228 = 0
              ·subst c59
               have H1 : (ephemerisref1_Apart.l2 k3 x223005_1 (x223005_1.length : Int) (wrap64 (x55_3 + 1)) a0_0 a0_1 a0_2 l0_3 l0_4 x223005_1 x223006_2 x223007_2 (wrap64 (x223008_3 + x223006_2))) = some (r1, r2, r3, r4, r5, r6, r7, r8, r9) := by rw [if_pos rfl] at H; exact H
               clear H
               have H := H1
               clear H1
               have H' := Aside0.mk H
               clear H
               have p227 : 0 ≤ (x55_3 : Int) := of_decide_eq_true ka
               have q227 : x55_3 < (x223005_1.length : Int) := of_decide_eq_true ka
               obtain ⟨ad227, e227, hx227_0⟩ := Kd.at_bool (Kd.R_reads' HO_53.out).2.2 x55_3 p227 q227
               cases e227
               replace p227 := eq_true p227
               replace q227 := eq_true q227
               try go_wp2
               have n0_ := Aside0.mk (Kd.R_drew HO_53.out)
               have n1_ := Aside0.mk (Kd.V_drew HO_218003.out)
               have n2_ := Aside0.mk (Kd.V_drew HO_218004.out)
               have n3_ := Aside0.mk (Kd.V_drew HO_223003.out)
               have n4_ := Aside0.mk (Kd.V_drew HO_223004.out)
               have n5_ := Aside0.mk (Kd.R_drew HO_223005.out)
               have n6_ := Aside0.mk (blk_drew BK217.out)
               have n7_ := Aside0.mk (blk_drew BK218.out)
               have n8_ := Aside0.mk (blk_drew BK222.out)
               have n9_ := Aside0.mk (below_drew1 HB.out)
               clear HO_53
               clear HO_218003
               clear HO_218004
               clear HO_223003
               clear HO_223004
               clear HO_223005
               clear BK217
               clear BK218
               clear BK222
               clear HB
               have HO_53 := n0_
               have HO_218003 := n1_
               have HO_218004 := n2_
               have HO_223003 := n3_
               have HO_223004 := n4_
               have HO_223005 := n5_
               have BK217 := n6_
               have BK218 := n7_
               have BK222 := n8_
               have HB := n9_
               clear n0_ n1_ n2_ n3_ n4_ n5_ n6_ n7_ n8_ n9_
               refine start_ (n := 10) (S := fun w' => w'.cell? ⟨gb222, 0, none⟩ = some (.string a0_0) ∧ w'.cell? ⟨gb222, 1, none⟩ = some (.int .i64 a0_1) ∧ w'.cell? ⟨gb222, 2, none⟩ = some (.int .i64 a0_2) ∧ w'.cell? ⟨gb222, 3, none⟩ = some (.slice A0_3 l0_3.length c0_3) ∧ w'.cell? ⟨gb222, 4, none⟩ = some (.slice A0_4 l0_4.length c0_4) ∧ w'.cell? ⟨gb222, 5, none⟩ = some (.slice (some ad227) x223005_1.length co54) ∧ w'.cell? ⟨gb222, 6, none⟩ = some (.int .i64 x223006_2) ∧ w'.cell? ⟨gb222, 7, none⟩ = some (.int .i64 x223007_2) ∧ w'.cell? ⟨gb222, 8, none⟩ = some (.int .i64 x223008_3)) (ds := [9]) #[false, false, false, false, false, false, false, false, false, false] kx rfl rfl ⟨(blk_cell BK222.out 0).trans rfl, (blk_cell BK222.out 1).trans rfl, (blk_cell BK222.out 2).trans rfl, (blk_cell BK222.out 3).trans rfl, (blk_cell BK222.out 4).trans rfl, (blk_cell BK222.out 5).trans rfl, (blk_cell BK222.out 6).trans rfl, (blk_cell BK222.out 7).trans rfl, (blk_cell BK222.out 8).trans rfl⟩ (fun hHeld => ?_); refine with_tabW ephemerisref1_Apart.tab16 ephemerisref1_Apart.bits16 (fun HT_ HW_ => ?_)
               generalize wr.drew = w60 at HO_53 HO_218003 HO_218004 HO_223003 HO_223004 HO_223005 BK217 BK218 BK222 HB hHeld ⊢
               refine pure_ (i := 0) (N := some 59) (v := ?_) (a' := ?_) #[true, false, false, false, false, false, false, false, false, false] rfl rfl (any_of HT_.out kx) (fun _ _ _ h => h) (Or.inl ⟨by rfl, ?_⟩) ?_ ?_
               rotate_left
               ·intro w'
                go_simp
                with_reducible rfl
               rotate_left
               ·simp only [Act.put, List.setIfInBounds_toArray, List.set_cons_zero, List.set_cons_succ, i64_w, i32_w]
                rfl
               refine pure_ (i := 2) (N := some 61) (v := ?_) (a' := ?_) #[true, false, true, false, false, false, false, false, false, false] rfl rfl (any_of HT_.out kx) (fun _ _ _ h => h) (Or.inl ⟨by rfl, ?_⟩) ?_ ?_
               rotate_left
               ·intro w'
                go_simp
                with_reducible rfl
               rotate_left
               ·simp only [Act.put, List.setIfInBounds_toArray, List.set_cons_zero, List.set_cons_succ, i64_w, i32_w]
                rfl
               refine pure_ (i := 4) (N := some 63) (v := ?_) (a' := ?_) #[true, false, true, false, true, false, false, false, false, false] rfl rfl (any_of HT_.out kx) (fun _ _ _ h => h) (Or.inl ⟨by rfl, ?_⟩) ?_ ?_
               rotate_left
               ·intro w'
                go_simp
                with_reducible rfl
               rotate_left
               ·simp only [Act.put, List.setIfInBounds_toArray, List.set_cons_zero, List.set_cons_succ, i64_w, i32_w]
                rfl
               refine take_ (i := 1) (N := some 60) (v := ?_) (a' := ?_) #[true, true, true, false, true, false, false, false, false, false] rfl rfl (take_ofW HT_.out HW_.out kx) (fun _ _ _ h => h) (Or.inl ⟨by rfl, ?_⟩) hHeld ?_ ?_
               rotate_left
               ·rintro w' ⟨s0, s1, s2, s3, s4, s5, s6, s7, s8⟩
                go_simp
                with_reducible rfl
               rotate_left
               ·simp only [Act.put, List.setIfInBounds_toArray, List.set_cons_zero, List.set_cons_succ, i64_w, i32_w]
                rfl
               refine one_ (i := 3) (N := some 62) #[true, true, true, true, true, false, false, false, false, false] rfl rfl (one_of HT_.out kx) (by decide) (fun K hK => ?_)
               refine goes_ Try.func68 kx rfl #[.bool (rdOf false x223005_1 x55_3)] (by rfl) rfl rfl aa ?_
               with_reducible refine (ephemerisref1_yes.calls (rdOf false x223005_1 x55_3) 0 _ A58.out).mono ?_
               rintro e w' ⟨rfl, ⟨nd, rfl⟩⟩
               refine ⟨_, rfl, ?_⟩
               refine hK.out _ _ ⟨(blk_cell BK222.out 0).trans rfl, (blk_cell BK222.out 1).trans rfl, (blk_cell BK222.out 2).trans rfl, (blk_cell BK222.out 3).trans rfl, (blk_cell BK222.out 4).trans rfl, (blk_cell BK222.out 5).trans rfl, (blk_cell BK222.out 6).trans rfl, (blk_cell BK222.out 7).trans rfl, (blk_cell BK222.out 8).trans rfl⟩ (fun hHeld => ?_)
               clear hK K
               refine norm_ (a' := ?_) ?_ ?_
               rotate_left
               ·show Act.put _ (some 62) _ = _
                simp only [Act.put, List.setIfInBounds_toArray, List.set_cons_zero, List.set_cons_succ, i64_w, i32_w]
                rfl
               refine pure_ (i := 5) (N := some 64) (v := ?_) (a' := ?_) #[true, true, true, true, true, true, false, false, false, false] rfl rfl (any_of HT_.out kx) (fun _ _ _ h => h) (Or.inl ⟨by rfl, ?_⟩) ?_ ?_
               rotate_left
               ·intro w'
                go_simp
                with_reducible rfl
               rotate_left
               ·simp only [Act.put, List.setIfInBounds_toArray, List.set_cons_zero, List.set_cons_succ, i64_w, i32_w]
                rfl
               refine take_ (i := 6) (N := some 65) (v := ?_) (a' := ?_) #[true, true, true, true, true, true, true, false, false, false] rfl rfl (take_ofW HT_.out HW_.out kx) (fun _ _ _ h => h) (Or.inl ⟨by rfl, ?_⟩) hHeld ?_ ?_
               rotate_left
               ·rintro w' ⟨s0, s1, s2, s3, s4, s5, s6, s7, s8⟩
                go_simp
                with_reducible rfl
               rotate_left
               ·simp only [Act.put, List.setIfInBounds_toArray, List.set_cons_zero, List.set_cons_succ, i64_w, i32_w]
                rfl
               refine pure_ (i := 7) (N := some 66) (v := ?_) (a' := ?_) #[true, true, true, true, true, true, true, true, false, false] rfl rfl (any_of HT_.out kx) (fun _ _ _ h => h) (Or.inl ⟨by rfl, ?_⟩) ?_ ?_
               rotate_left
               ·intro w'
                go_simp
                with_reducible rfl
               rotate_left
               ·simp only [Act.put, List.setIfInBounds_toArray, List.set_cons_zero, List.set_cons_succ, i64_w, i32_w]
                rfl
               refine pure_ (i := 8) (N := some 67) (v := ?_) (a' := ?_) #[true, true, true, true, true, true, true, true, true, false] rfl rfl (any_of HT_.out kx) (fun _ _ _ h => h) (Or.inl ⟨by rfl, ?_⟩) ?_ ?_
               rotate_left
               ·intro w'
                go_simp
                with_reducible rfl
               rotate_left
               ·simp only [Act.put, List.setIfInBounds_toArray, List.set_cons_zero, List.set_cons_succ, i64_w, i32_w]
                rfl
               refine last_ (i := 9) (N := none) #[true, true, true, true, true, true, true, true, true, true] rfl rfl (one_of HT_.out kx) (by decide) (fun K hK => ?_)
               have hs61 : w60.cell? ⟨gb222, 8, none⟩ = some (.int .i64 x223008_3) := (blk_cell BK222.out 8).trans rfl
               have hfs61 := blk_frozen BK222.out 8
               have hns61_0 := NB217_222.out
               have hns61_1 := NB218_222.out
               have hms61_0 := NB222_217.out
               have hms61_1 := NB222_218.out
               refine skip_ (w1 := ?_) (by rfl) rfl ?_ ?_
               rotate_left
               ·go_simp
                rfl
               refine hK.out _ _ ?_
               clear hK K
               refine done_ (done_of HT_.out kx) ?_
               try go_wp2
               go_roundg k3
               case measure => have := HK1.out; have := HK2.out; have := HK3.out; omega
               case rel => exact ⟨(wrap64 (x55_3 + 1)), (wrap64 (x223008_3 + x223006_2)), rs, H', ⟨by have := HK1.out; have := HK2.out; have := HK3.out; omega⟩, ⟨by (with_reducible repeat (first | apply Kd.R_alloc | apply Kd.R_drewN | apply Kd.R_drew)); exact Kd.R_mono (Kd.R_far (p := ⟨gb222, 8, none⟩) (Kd.R_types HO_53.out BK222.out (by decide)) (fun _ hk => hk.2) (.int .i64 (wrap64 (x223008_3 + x223006_2)))) (fun _ hk => hk.1)⟩, ⟨by (with_reducible repeat (first | apply Kd.V_alloc | apply Kd.V_drewN | apply Kd.V_drew)); exact Kd.V_mono (Kd.V_far (p := ⟨gb222, 8, none⟩) (Kd.V_mono HO_218003.out (fun k_ hk => (⟨hk, hk.2.2.2.2.2⟩ : _ ∧ k_ ≠ gb222))) (fun _ hk => hk.2) (.int .i64 (wrap64 (x223008_3 + x223006_2)))) (fun _ hk => ⟨hk.1.1, ⟨hk.1.2.1, ⟨hk.1.2.2.1, ⟨hk.1.2.2.2.1, ⟨hk.1.2.2.2.2.1, hk.1.2.2.2.2.2⟩⟩⟩⟩⟩)⟩, ⟨by (with_reducible repeat (first | apply Kd.V_alloc | apply Kd.V_drewN | apply Kd.V_drew)); exact Kd.V_mono (Kd.V_far (p := ⟨gb222, 8, none⟩) (Kd.V_mono HO_218004.out (fun k_ hk => (⟨hk, hk.2.2.2.2.2⟩ : _ ∧ k_ ≠ gb222))) (fun _ hk => hk.2) (.int .i64 (wrap64 (x223008_3 + x223006_2)))) (fun _ hk => ⟨hk.1.1, ⟨hk.1.2.1, ⟨hk.1.2.2.1, ⟨hk.1.2.2.2.1, ⟨hk.1.2.2.2.2.1, hk.1.2.2.2.2.2⟩⟩⟩⟩⟩)⟩, ⟨by (with_reducible repeat (first | apply Kd.V_alloc | apply Kd.V_drewN | apply Kd.V_drew)); exact Kd.V_mono (Kd.V_far (p := ⟨gb222, 8, none⟩) (Kd.V_mono HO_223003.out (fun k_ hk => (⟨hk, hk.2.2.2.2.2⟩ : _ ∧ k_ ≠ gb222))) (fun _ hk => hk.2) (.int .i64 (wrap64 (x223008_3 + x223006_2)))) (fun _ hk => ⟨hk.1.1, ⟨hk.1.2.1, ⟨hk.1.2.2.1, ⟨hk.1.2.2.2.1, ⟨hk.1.2.2.2.2.1, hk.1.2.2.2.2.2⟩⟩⟩⟩⟩)⟩, ⟨by (with_reducible repeat (first | apply Kd.V_alloc | apply Kd.V_drewN | apply Kd.V_drew)); exact Kd.V_mono (Kd.V_far (p := ⟨gb222, 8, none⟩) (Kd.V_mono HO_223004.out (fun k_ hk => (⟨hk, hk.2.2.2.2.2⟩ : _ ∧ k_ ≠ gb222))) (fun _ hk => hk.2) (.int .i64 (wrap64 (x223008_3 + x223006_2)))) (fun _ hk => ⟨hk.1.1, ⟨hk.1.2.1, ⟨hk.1.2.2.1, ⟨hk.1.2.2.2.1, ⟨hk.1.2.2.2.2.1, hk.1.2.2.2.2.2⟩⟩⟩⟩⟩)⟩, ⟨by (with_reducible repeat (first | apply Kd.R_alloc | apply Kd.R_drewN | apply Kd.R_drew)); exact Kd.R_mono (Kd.R_far (p := ⟨gb222, 8, none⟩) (Kd.R_types HO_223005.out BK222.out (by decide)) (fun _ hk => hk.2) (.int .i64 (wrap64 (x223008_3 + x223006_2)))) (fun _ hk => hk.1)⟩, ⟨bk BK217⟩, ⟨bk BK218⟩, ⟨bk BK222⟩, ⟨be⟩⟩
              ·rw [if_neg c59] at H
               by_cases c62 : t228 = 1
               ·subst c62
                have H1 : (ephemerisref1_Apart.l2 k3 x223005_1 (x223005_1.length : Int) (wrap64 (x55_3 + 1)) a0_0 a0_1 a0_2 l0_3 l0_4 x223005_1 x223006_2 x223007_2 (wrap64 (x223008_3 + x223007_2))) = some (r1, r2, r3, r4, r5, r6, r7, r8, r9) := by rw [if_pos rfl] at H; exact H
                clear H
                have H := H1
                clear H1
                have H' := Aside0.mk H
                clear H
                have p227 : 0 ≤ (x55_3 : Int) := of_decide_eq_true ka
                have q227 : x55_3 < (x223005_1.length : Int) := of_decide_eq_true ka
                obtain ⟨ad227, e227, hx227_0⟩ := Kd.at_bool (Kd.R_reads' HO_53.out).2.2 x55_3 p227 q227
                cases e227
                replace p227 := eq_true p227
                replace q227 := eq_true q227
                try go_wp2
                have n0_ := Aside0.mk (Kd.R_drew HO_53.out)
                have n1_ := Aside0.mk (Kd.V_drew HO_218003.out)
                have n2_ := Aside0.mk (Kd.V_drew HO_218004.out)
                have n3_ := Aside0.mk (Kd.V_drew HO_223003.out)
                have n4_ := Aside0.mk (Kd.V_drew HO_223004.out)
                have n5_ := Aside0.mk (Kd.R_drew HO_223005.out)
                have n6_ := Aside0.mk (blk_drew BK217.out)
                have n7_ := Aside0.mk (blk_drew BK218.out)
                have n8_ := Aside0.mk (blk_drew BK222.out)
                have n9_ := Aside0.mk (below_drew1 HB.out)
                clear HO_53
                clear HO_218003
                clear HO_218004
                clear HO_223003
                clear HO_223004
                clear HO_223005
                clear BK217
                clear BK218
                clear BK222
                clear HB
                have HO_53 := n0_
                have HO_218003 := n1_
                have HO_218004 := n2_
                have HO_223003 := n3_
                have HO_223004 := n4_
                have HO_223005 := n5_
                have BK217 := n6_
                have BK218 := n7_
                have BK222 := n8_
                have HB := n9_
                clear n0_ n1_ n2_ n3_ n4_ n5_ n6_ n7_ n8_ n9_
                refine start_ (n := 10) (S := fun w' => w'.cell? ⟨gb222, 0, none⟩ = some (.string a0_0) ∧ w'.cell? ⟨gb222, 1, none⟩ = some (.int .i64 a0_1) ∧ w'.cell? ⟨gb222, 2, none⟩ = some (.int .i64 a0_2) ∧ w'.cell? ⟨gb222, 3, none⟩ = some (.slice A0_3 l0_3.length c0_3) ∧ w'.cell? ⟨gb222, 4, none⟩ = some (.slice A0_4 l0_4.length c0_4) ∧ w'.cell? ⟨gb222, 5, none⟩ = some (.slice (some ad227) x223005_1.length co54) ∧ w'.cell? ⟨gb222, 6, none⟩ = some (.int .i64 x223006_2) ∧ w'.cell? ⟨gb222, 7, none⟩ = some (.int .i64 x223007_2) ∧ w'.cell? ⟨gb222, 8, none⟩ = some (.int .i64 x223008_3)) (ds := [9]) #[false, false, false, false, false, false, false, false, false, false] kx rfl rfl ⟨(blk_cell BK222.out 0).trans rfl, (blk_cell BK222.out 1).trans rfl, (blk_cell BK222.out 2).trans rfl, (blk_cell BK222.out 3).trans rfl, (blk_cell BK222.out 4).trans rfl, (blk_cell BK222.out 5).trans rfl, (blk_cell BK222.out 6).trans rfl, (blk_cell BK222.out 7).trans rfl, (blk_cell BK222.out 8).trans rfl⟩ (fun hHeld => ?_); refine with_tabW ephemerisref1_Apart.tab16 ephemerisref1_Apart.bits16 (fun HT_ HW_ => ?_)
                generalize wr.drew = w63 at HO_53 HO_218003 HO_218004 HO_223003 HO_223004 HO_223005 BK217 BK218 BK222 HB hHeld ⊢
                refine pure_ (i := 0) (N := some 59) (v := ?_) (a' := ?_) #[true, false, false, false, false, false, false, false, false, false] rfl rfl (any_of HT_.out kx) (fun _ _ _ h => h) (Or.inl ⟨by rfl, ?_⟩) ?_ ?_
                rotate_left
                ·intro w'
                 go_simp
                 with_reducible rfl
                rotate_left
                ·simp only [Act.put, List.setIfInBounds_toArray, List.set_cons_zero, List.set_cons_succ, i64_w, i32_w]
                 rfl
                refine pure_ (i := 2) (N := some 61) (v := ?_) (a' := ?_) #[true, false, true, false, false, false, false, false, false, false] rfl rfl (any_of HT_.out kx) (fun _ _ _ h => h) (Or.inl ⟨by rfl, ?_⟩) ?_ ?_
                rotate_left
                ·intro w'
                 go_simp
                 with_reducible rfl
                rotate_left
                ·simp only [Act.put, List.setIfInBounds_toArray, List.set_cons_zero, List.set_cons_succ, i64_w, i32_w]
                 rfl
                refine pure_ (i := 4) (N := some 63) (v := ?_) (a' := ?_) #[true, false, true, false, true, false, false, false, false, false] rfl rfl (any_of HT_.out kx) (fun _ _ _ h => h) (Or.inl ⟨by rfl, ?_⟩) ?_ ?_
                rotate_left
                ·intro w'
                 go_simp
                 with_reducible rfl
                rotate_left
                ·simp only [Act.put, List.setIfInBounds_toArray, List.set_cons_zero, List.set_cons_succ, i64_w, i32_w]
                 rfl
                refine take_ (i := 1) (N := some 60) (v := ?_) (a' := ?_) #[true, true, true, false, true, false, false, false, false, false] rfl rfl (take_ofW HT_.out HW_.out kx) (fun _ _ _ h => h) (Or.inl ⟨by rfl, ?_⟩) hHeld ?_ ?_
                rotate_left
                ·rintro w' ⟨s0, s1, s2, s3, s4, s5, s6, s7, s8⟩
                 go_simp
                 with_reducible rfl
                rotate_left
                ·simp only [Act.put, List.setIfInBounds_toArray, List.set_cons_zero, List.set_cons_succ, i64_w, i32_w]
                 rfl
                refine one_ (i := 3) (N := some 62) #[true, true, true, true, true, false, false, false, false, false] rfl rfl (one_of HT_.out kx) (by decide) (fun K hK => ?_)
                refine goes_ Try.func68 kx rfl #[.bool (rdOf false x223005_1 x55_3)] (by rfl) rfl rfl aa ?_
                with_reducible refine (ephemerisref1_yes.calls (rdOf false x223005_1 x55_3) 1 _ A58.out).mono ?_
                rintro e w' ⟨rfl, ⟨nd, rfl⟩⟩
                refine ⟨_, rfl, ?_⟩
                refine hK.out _ _ ⟨(blk_cell BK222.out 0).trans rfl, (blk_cell BK222.out 1).trans rfl, (blk_cell BK222.out 2).trans rfl, (blk_cell BK222.out 3).trans rfl, (blk_cell BK222.out 4).trans rfl, (blk_cell BK222.out 5).trans rfl, (blk_cell BK222.out 6).trans rfl, (blk_cell BK222.out 7).trans rfl, (blk_cell BK222.out 8).trans rfl⟩ (fun hHeld => ?_)
                clear hK K
                refine norm_ (a' := ?_) ?_ ?_
                rotate_left
                ·show Act.put _ (some 62) _ = _
                 simp only [Act.put, List.setIfInBounds_toArray, List.set_cons_zero, List.set_cons_succ, i64_w, i32_w]
                 rfl
                refine pure_ (i := 5) (N := some 64) (v := ?_) (a' := ?_) #[true, true, true, true, true, true, false, false, false, false] rfl rfl (any_of HT_.out kx) (fun _ _ _ h => h) (Or.inl ⟨by rfl, ?_⟩) ?_ ?_
                rotate_left
                ·intro w'
                 go_simp
                 with_reducible rfl
                rotate_left
                ·simp only [Act.put, List.setIfInBounds_toArray, List.set_cons_zero, List.set_cons_succ, i64_w, i32_w]
                 rfl
                refine take_ (i := 6) (N := some 65) (v := ?_) (a' := ?_) #[true, true, true, true, true, true, true, false, false, false] rfl rfl (take_ofW HT_.out HW_.out kx) (fun _ _ _ h => h) (Or.inl ⟨by rfl, ?_⟩) hHeld ?_ ?_
                rotate_left
                ·rintro w' ⟨s0, s1, s2, s3, s4, s5, s6, s7, s8⟩
                 go_simp
                 with_reducible rfl
                rotate_left
                ·simp only [Act.put, List.setIfInBounds_toArray, List.set_cons_zero, List.set_cons_succ, i64_w, i32_w]
                 rfl
                refine pure_ (i := 7) (N := some 66) (v := ?_) (a' := ?_) #[true, true, true, true, true, true, true, true, false, false] rfl rfl (any_of HT_.out kx) (fun _ _ _ h => h) (Or.inl ⟨by rfl, ?_⟩) ?_ ?_
                rotate_left
                ·intro w'
                 go_simp
                 with_reducible rfl
                rotate_left
                ·simp only [Act.put, List.setIfInBounds_toArray, List.set_cons_zero, List.set_cons_succ, i64_w, i32_w]
                 rfl
                refine pure_ (i := 8) (N := some 67) (v := ?_) (a' := ?_) #[true, true, true, true, true, true, true, true, true, false] rfl rfl (any_of HT_.out kx) (fun _ _ _ h => h) (Or.inl ⟨by rfl, ?_⟩) ?_ ?_
                rotate_left
                ·intro w'
                 go_simp
                 with_reducible rfl
                rotate_left
                ·simp only [Act.put, List.setIfInBounds_toArray, List.set_cons_zero, List.set_cons_succ, i64_w, i32_w]
                 rfl
                refine last_ (i := 9) (N := none) #[true, true, true, true, true, true, true, true, true, true] rfl rfl (one_of HT_.out kx) (by decide) (fun K hK => ?_)
                have hs64 : w63.cell? ⟨gb222, 8, none⟩ = some (.int .i64 x223008_3) := (blk_cell BK222.out 8).trans rfl
                have hfs64 := blk_frozen BK222.out 8
                have hns64_0 := NB217_222.out
                have hns64_1 := NB218_222.out
                have hms64_0 := NB222_217.out
                have hms64_1 := NB222_218.out
                refine skip_ (w1 := ?_) (by rfl) rfl ?_ ?_
                rotate_left
                ·go_simp
                 rfl
                refine hK.out _ _ ?_
                clear hK K
                refine done_ (done_of HT_.out kx) ?_
                try go_wp2
                go_roundg k3
                case measure => have := HK1.out; have := HK2.out; have := HK3.out; omega
                case rel => exact ⟨(wrap64 (x55_3 + 1)), (wrap64 (x223008_3 + x223007_2)), rs, H', ⟨by have := HK1.out; have := HK2.out; have := HK3.out; omega⟩, ⟨by (with_reducible repeat (first | apply Kd.R_alloc | apply Kd.R_drewN | apply Kd.R_drew)); exact Kd.R_mono (Kd.R_far (p := ⟨gb222, 8, none⟩) (Kd.R_types HO_53.out BK222.out (by decide)) (fun _ hk => hk.2) (.int .i64 (wrap64 (x223008_3 + x223007_2)))) (fun _ hk => hk.1)⟩, ⟨by (with_reducible repeat (first | apply Kd.V_alloc | apply Kd.V_drewN | apply Kd.V_drew)); exact Kd.V_mono (Kd.V_far (p := ⟨gb222, 8, none⟩) (Kd.V_mono HO_218003.out (fun k_ hk => (⟨hk, hk.2.2.2.2.2⟩ : _ ∧ k_ ≠ gb222))) (fun _ hk => hk.2) (.int .i64 (wrap64 (x223008_3 + x223007_2)))) (fun _ hk => ⟨hk.1.1, ⟨hk.1.2.1, ⟨hk.1.2.2.1, ⟨hk.1.2.2.2.1, ⟨hk.1.2.2.2.2.1, hk.1.2.2.2.2.2⟩⟩⟩⟩⟩)⟩, ⟨by (with_reducible repeat (first | apply Kd.V_alloc | apply Kd.V_drewN | apply Kd.V_drew)); exact Kd.V_mono (Kd.V_far (p := ⟨gb222, 8, none⟩) (Kd.V_mono HO_218004.out (fun k_ hk => (⟨hk, hk.2.2.2.2.2⟩ : _ ∧ k_ ≠ gb222))) (fun _ hk => hk.2) (.int .i64 (wrap64 (x223008_3 + x223007_2)))) (fun _ hk => ⟨hk.1.1, ⟨hk.1.2.1, ⟨hk.1.2.2.1, ⟨hk.1.2.2.2.1, ⟨hk.1.2.2.2.2.1, hk.1.2.2.2.2.2⟩⟩⟩⟩⟩)⟩, ⟨by (with_reducible repeat (first | apply Kd.V_alloc | apply Kd.V_drewN | apply Kd.V_drew)); exact Kd.V_mono (Kd.V_far (p := ⟨gb222, 8, none⟩) (Kd.V_mono HO_223003.out (fun k_ hk => (⟨hk, hk.2.2.2.2.2⟩ : _ ∧ k_ ≠ gb222))) (fun _ hk => hk.2) (.int .i64 (wrap64 (x223008_3 + x223007_2)))) (fun _ hk => ⟨hk.1.1, ⟨hk.1.2.1, ⟨hk.1.2.2.1, ⟨hk.1.2.2.2.1, ⟨hk.1.2.2.2.2.1, hk.1.2.2.2.2.2⟩⟩⟩⟩⟩)⟩, ⟨by (with_reducible repeat (first | apply Kd.V_alloc | apply Kd.V_drewN | apply Kd.V_drew)); exact Kd.V_mono (Kd.V_far (p := ⟨gb222, 8, none⟩) (Kd.V_mono HO_223004.out (fun k_ hk => (⟨hk, hk.2.2.2.2.2⟩ : _ ∧ k_ ≠ gb222))) (fun _ hk => hk.2) (.int .i64 (wrap64 (x223008_3 + x223007_2)))) (fun _ hk => ⟨hk.1.1, ⟨hk.1.2.1, ⟨hk.1.2.2.1, ⟨hk.1.2.2.2.1, ⟨hk.1.2.2.2.2.1, hk.1.2.2.2.2.2⟩⟩⟩⟩⟩)⟩, ⟨by (with_reducible repeat (first | apply Kd.R_alloc | apply Kd.R_drewN | apply Kd.R_drew)); exact Kd.R_mono (Kd.R_far (p := ⟨gb222, 8, none⟩) (Kd.R_types HO_223005.out BK222.out (by decide)) (fun _ hk => hk.2) (.int .i64 (wrap64 (x223008_3 + x223007_2)))) (fun _ hk => hk.1)⟩, ⟨bk BK217⟩, ⟨bk BK218⟩, ⟨bk BK222⟩, ⟨be⟩⟩
               ·rw [if_neg c62] at H
                exact absurd H (by simp)
             ·rw [if_neg c57] at H
              exact absurd H (by simp)
            ·rw [if_neg c56] at H
             exact absurd H (by simp)
           ·rw [if_neg c55] at H
            have c55b0 : decide (x55_3 < (x223005_1.length : Int)) = false := decide_eq_false c55
            clear c55
            simp only [Option.some.injEq, Prod.mk.injEq] at H
            obtain ⟨rfl, rfl, rfl, rfl, rfl, rfl, rfl, rfl, rfl⟩ := H
            have hnb65 := NB222_217.out
            have hnc65 := NB217_222.out
            have hnb66 := NB222_218.out
            have hnc66 := NB218_222.out
            obtain ⟨hcz67_0, hcz67_1, hcz67_2, hcz67_3, hcz67_4, hcz67_5, hcz67_6, hcz67_7, hcz67_8, hfz67_0, hfz67_1, hfz67_2, hfz67_3, hfz67_4, hfz67_5, hfz67_6, hfz67_7, hfz67_8⟩ := bc9 BK222
            have hnb68 := NB218_217.out
            have hnc68 := NB217_218.out
            obtain ⟨hcz69_0, hcz69_1, hcz69_2, hcz69_3, hcz69_4, hcz69_5, hcz69_6, hcz69_7, hcz69_8, hfz69_0, hfz69_1, hfz69_2, hfz69_3, hfz69_4, hfz69_5, hfz69_6, hfz69_7, hfz69_8⟩ := bc9 BK218
            go_wp2
            refine bodyPost_ret (results_cell_row rfl _ _ gb218 53 #[.string a0_0, .int .i64 a0_1, .int .i64 a0_2, .slice A0_3 l0_3.length c0_3, .slice A0_4 l0_4.length c0_4, .slice Ao54 x223005_1.length co54, .int .i64 x223006_2, .int .i64 x223007_2, .int .i64 x223008_3] (0, 0) _ rfl (bk BK218) Try.underlying53 rfl kx) rfl ?_
            exact ⟨_, _, _, by first | rfl | (simp [errW_none, errW_some] <;> rfl) | (simp [*, errW_none, errW_some] <;> rfl), by (with_reducible repeat (first | apply Kd.V_alloc | apply Kd.V_drewN | apply Kd.V_drew)); exact Kd.V_mono (Kd.V_far (p := ⟨gb218, 8, none⟩) (Kd.V_far (p := ⟨gb218, 7, none⟩) (Kd.V_far (p := ⟨gb218, 6, none⟩) (Kd.V_far (p := ⟨gb218, 5, none⟩) (Kd.V_far (p := ⟨gb218, 4, none⟩) (Kd.V_far (p := ⟨gb218, 3, none⟩) (Kd.V_far (p := ⟨gb218, 2, none⟩) (Kd.V_far (p := ⟨gb218, 1, none⟩) (Kd.V_far (p := ⟨gb218, 0, none⟩) (Kd.V_mono HO_223003.out (fun k_ hk => (⟨hk, hk.2.2.2.2.1⟩ : _ ∧ k_ ≠ gb218))) (fun _ hk => hk.2) (.string a0_0)) (fun _ hk => hk.2) (.int .i64 a0_1)) (fun _ hk => hk.2) (.int .i64 a0_2)) (fun _ hk => hk.2) (.slice A0_3 l0_3.length c0_3)) (fun _ hk => hk.2) (.slice A0_4 l0_4.length c0_4)) (fun _ hk => hk.2) (.slice Ao54 x223005_1.length co54)) (fun _ hk => hk.2) (.int .i64 x223006_2)) (fun _ hk => hk.2) (.int .i64 x223007_2)) (fun _ hk => hk.2) (.int .i64 x223008_3)) (fun _ hk => ⟨hk.1.1, hk.1.2.2.1⟩), by (with_reducible repeat (first | apply Kd.V_alloc | apply Kd.V_drewN | apply Kd.V_drew)); exact Kd.V_mono (Kd.V_far (p := ⟨gb218, 8, none⟩) (Kd.V_far (p := ⟨gb218, 7, none⟩) (Kd.V_far (p := ⟨gb218, 6, none⟩) (Kd.V_far (p := ⟨gb218, 5, none⟩) (Kd.V_far (p := ⟨gb218, 4, none⟩) (Kd.V_far (p := ⟨gb218, 3, none⟩) (Kd.V_far (p := ⟨gb218, 2, none⟩) (Kd.V_far (p := ⟨gb218, 1, none⟩) (Kd.V_far (p := ⟨gb218, 0, none⟩) (Kd.V_mono HO_223004.out (fun k_ hk => (⟨hk, hk.2.2.2.2.1⟩ : _ ∧ k_ ≠ gb218))) (fun _ hk => hk.2) (.string a0_0)) (fun _ hk => hk.2) (.int .i64 a0_1)) (fun _ hk => hk.2) (.int .i64 a0_2)) (fun _ hk => hk.2) (.slice A0_3 l0_3.length c0_3)) (fun _ hk => hk.2) (.slice A0_4 l0_4.length c0_4)) (fun _ hk => hk.2) (.slice Ao54 x223005_1.length co54)) (fun _ hk => hk.2) (.int .i64 x223006_2)) (fun _ hk => hk.2) (.int .i64 x223007_2)) (fun _ hk => hk.2) (.int .i64 x223008_3)) (fun _ hk => ⟨hk.1.1, hk.1.2.2.1⟩), by (with_reducible repeat (first | apply Kd.R_alloc | apply Kd.R_drewN | apply Kd.R_drew)); exact Kd.R_mono (Kd.R_far (p := ⟨gb218, 8, none⟩) (Kd.R_far (p := ⟨gb218, 7, none⟩) (Kd.R_far (p := ⟨gb218, 6, none⟩) (Kd.R_far (p := ⟨gb218, 5, none⟩) (Kd.R_far (p := ⟨gb218, 4, none⟩) (Kd.R_far (p := ⟨gb218, 3, none⟩) (Kd.R_far (p := ⟨gb218, 2, none⟩) (Kd.R_far (p := ⟨gb218, 1, none⟩) (Kd.R_far (p := ⟨gb218, 0, none⟩) (Kd.R_types HO_223005.out BK218.out (by decide)) (fun _ hk => hk.2) (.string a0_0)) (fun _ hk => hk.2) (.int .i64 a0_1)) (fun _ hk => hk.2) (.int .i64 a0_2)) (fun _ hk => hk.2) (.slice A0_3 l0_3.length c0_3)) (fun _ hk => hk.2) (.slice A0_4 l0_4.length c0_4)) (fun _ hk => hk.2) (.slice Ao54 x223005_1.length co54)) (fun _ hk => hk.2) (.int .i64 x223006_2)) (fun _ hk => hk.2) (.int .i64 x223007_2)) (fun _ hk => hk.2) (.int .i64 x223008_3)) (fun _ hk => hk.1), be⟩
  ·rw [if_neg c3] at H
   exact absurd H (by simp)
 ·rw [if_neg c2] at H
  exact absurd H (by simp)

end Go.Proofs.Ytlfammlboncmeaa.PArithLaters
