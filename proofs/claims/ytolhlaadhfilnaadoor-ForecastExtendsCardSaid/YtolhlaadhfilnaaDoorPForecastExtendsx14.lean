/- The walks of the functions of this part, laid closer by a program of mine. -/
-- The walks of the law's functions, told by a program.
import Derived.Test.YtolhlaadhfilnaaDoorY
import Derived.Test.YtolhlaadhfilnaaDoorPForecastExtendsx0
import Derived.Test.YtolhlaadhfilnaaDoorPForecastExtendsx13
namespace Go.Proofs.YtolhlaadhfilnaaDoor.PForecastExtends
open Go.RowKit Go.Proofs.YtolhlaadhfilnaaDoorW.PrintWords Go.Proofs.YtolhlaadhfilnaaDoorW.PrintLast Go.Proofs.YtolhlaadhfilnaaDoorW.PrintMore Go.Proofs.YtolhlaadhfilnaaDoor.Y
attribute [local go_sem] max2_int min2_int max_two min_two max_three min_three max_four min_four   -- for this text's walks alone
set_option linter.unusedVariables false
set_option linter.unusedSimpArgs false

/-! ### ephemerisref1_ZoneRuleDay: function 50 -/
def ephemerisref1_ZoneRuleDay.l0 : Nat → Int → List Int → Int → Int → Int → Int → Int → Int → ByteArray → Option (Int)
 | 0, _, _, _, _, _, _, _, _, _ => none
 | k + 1, x1, x5, x6, x245000, x245001, x245002, x245003, x245004, x245005 => if x6 ≤ 31 then ((ephemerisref1_GregExists.f k x1 x245000 x6).bind fun t248 => (if t248 = true then ((ephemerisref1_GregDay.f k x1 x245000 x6).bind fun t249 => ((ephemerisref1_Week.f k t249).bind fun t250 => (if t250 = x245002 then ((ephemerisref1_GregDay.f k x1 x245000 x6).bind fun t251 => (if x5.length < 17592186044416 then (ephemerisref1_ZoneRuleDay.l0 k x1 (x5 ++ [t251]) (wrap64 (x6 + 1)) x245000 x245001 x245002 x245003 x245004 x245005) else (none))) else (ephemerisref1_ZoneRuleDay.l0 k x1 x5 (wrap64 (x6 + 1)) x245000 x245001 x245002 x245003 x245004 x245005)))) else (ephemerisref1_ZoneRuleDay.l0 k x1 x5 (wrap64 (x6 + 1)) x245000 x245001 x245002 x245003 x245004 x245005))) else (if x245001 = 5 then (if 0 ≤ (wrap64 ((x5.length : Int) - 1)) then (if (wrap64 ((x5.length : Int) - 1)) < (x5.length : Int) then (some (rd x5 (wrap64 ((x5.length : Int) - 1)))) else (none)) else (none)) else (if 0 ≤ (wrap64 (x245001 - 1)) then (if (wrap64 (x245001 - 1)) < (x5.length : Int) then (some (rd x5 (wrap64 (x245001 - 1)))) else (none)) else (none)))
def ephemerisref1_ZoneRuleDay.f (k : Nat) (a0_0 : Int) (a0_1 : Int) (a0_2 : Int) (a0_3 : Int) (a0_4 : Int) (a0_5 : ByteArray) (a1 : Int) : Option (Int) := ephemerisref1_ZoneRuleDay.l0 k a1 ([] : List Int) 1 a0_0 a0_1 a0_2 a0_3 a0_4 a0_5
theorem ephemerisref1_ZoneRuleDay.mono_l : ∀ k, (∀ y0 y1 y2 y3 y4 y5 y6 y7 y8, LeO (ephemerisref1_ZoneRuleDay.l0 k y0 y1 y2 y3 y4 y5 y6 y7 y8) (ephemerisref1_ZoneRuleDay.l0 (k + 1) y0 y1 y2 y3 y4 y5 y6 y7 y8))
 | 0 => fun _ _ _ _ _ _ _ _ _ r h => by simp [ephemerisref1_ZoneRuleDay.l0] at h
 | k + 1 => by
  have ih0 := ephemerisref1_ZoneRuleDay.mono_l k
  ·intro y0 y1 y2 y3 y4 y5 y6 y7 y8
   unfold ephemerisref1_ZoneRuleDay.l0
   repeat' first
   | (with_reducible exact ih0 _ _ _ _ _ _ _ _ _)
   | (with_reducible exact ephemerisref1_GregDay.mono _ _ _ _)
   | (with_reducible exact ephemerisref1_GregExists.mono _ _ _ _)
   | (with_reducible exact ephemerisref1_Week.mono _ _)
   | (with_reducible exact LeO.refl _)
   | (with_reducible exact LeO.none _)
   | (with_reducible refine LeO.ite ?_ ?_)
   | (with_reducible refine LeO.bind ?_ (fun _ => ?_))
   | exact ih0 _ _ _ _ _ _ _ _ _
   | exact ephemerisref1_GregDay.mono _ _ _ _
   | exact ephemerisref1_GregExists.mono _ _ _ _
   | exact ephemerisref1_Week.mono _ _
   | exact LeO.none _
   | refine LeO.ite ?_ ?_
   | refine LeO.bind ?_ (fun _ => ?_)
theorem ephemerisref1_ZoneRuleDay.mono : ∀ a0 a1 a2 a3 a4 a5 a6 k, LeO (ephemerisref1_ZoneRuleDay.f k a0 a1 a2 a3 a4 a5 a6) (ephemerisref1_ZoneRuleDay.f (k + 1) a0 a1 a2 a3 a4 a5 a6) := by
 intro a0 a1 a2 a3 a4 a5 a6 k
 have ih0 := ephemerisref1_ZoneRuleDay.mono_l k
 unfold ephemerisref1_ZoneRuleDay.f
 repeat' first
   | (with_reducible exact ih0 _ _ _ _ _ _ _ _ _)
   | (with_reducible exact ephemerisref1_GregDay.mono _ _ _ _)
   | (with_reducible exact ephemerisref1_GregExists.mono _ _ _ _)
   | (with_reducible exact ephemerisref1_Week.mono _ _)
   | (with_reducible exact LeO.refl _)
   | (with_reducible exact LeO.none _)
   | (with_reducible refine LeO.ite ?_ ?_)
   | (with_reducible refine LeO.bind ?_ (fun _ => ?_))
   | exact ih0 _ _ _ _ _ _ _ _ _
   | exact ephemerisref1_GregDay.mono _ _ _ _
   | exact ephemerisref1_GregExists.mono _ _ _ _
   | exact ephemerisref1_Week.mono _ _
   | exact LeO.none _
   | refine LeO.ite ?_ ?_
   | refine LeO.bind ?_ (fun _ => ?_)
def ephemerisref1_ZoneRuleDay.T6 : Bool × List (List Nat × List Nat) := (true, [([], []), ([0], [0]), ([1, 1], [1]), ([2], [2]), ([3, 2, 2], [2, 3]), ([4, 4, 2], [2, 4]), ([2], [2]), ([6, 2], [2, 6]), ([5, 7, 2], [2, 5, 7]), ([2, 8], [2, 8])])
def ephemerisref1_ZoneRuleDay.B6 : List Nat := [0, 1, 3, 7, 15, 31, 7, 71, 255, 511]
theorem ephemerisref1_ZoneRuleDay.tab6 : rtab .any (opsOf Tryd.f50 6) = ephemerisref1_ZoneRuleDay.T6 := by kernel_rfl
theorem ephemerisref1_ZoneRuleDay.bits6 : waitsOk ephemerisref1_ZoneRuleDay.T6.2 ephemerisref1_ZoneRuleDay.B6 = true := by kernel_rfl
set_option maxHeartbeats 8000000 in
set_option maxRecDepth 100000 in
theorem ephemerisref1_ZoneRuleDay.calls (k : Nat) (a0_0 : Int) (a0_1 : Int) (a0_2 : Int) (a0_3 : Int) (a0_4 : Int) (a0_5 : ByteArray) (a1 : Int) (r : Int) (w : World) (h : ephemerisref1_ZoneRuleDay.f k a0_0 a0_1 a0_2 a0_3 a0_4 a0_5 a1 = some r) :
  Calls Tryd.prog 50 #[.agg #[.int .i64 a0_0, .int .i64 a0_1, .int .i64 a0_2, .int .i64 a0_3, .int .i64 a0_4, .string a0_5], .int .i64 a1] w fun e w' => e = .returned (.int .i64 r) ∧ Below w.heap.size w w' := by
 have hu92 := Tryd.underlying92
 have hu138 := Tryd.underlying138
 have HB := Aside0.mk (Below.refl w.heap.size w)
 have H : (ephemerisref1_ZoneRuleDay.l0 k a1 ([] : List Int) 1 a0_0 a0_1 a0_2 a0_3 a0_4 a0_5) = some r := h
 clear h
 have H' := Aside0.mk H
 clear H
 go_enter Tryd.func50, Tryd.ntmps50
 go_wp2_with (first | ((with_reducible refine gate_dst (N := 2) rfl ?_); refine box_event ?hg (N := 2) ?hd (cs := #[.int .i64 a0_0, .int .i64 a0_1, .int .i64 a0_2, .int .i64 a0_3, .int .i64 a0_4, .string a0_5]) (t := 92) ?hr ?_; (case hd => rfl); (case hg => rfl); (case hr => first | (go_simp; done) | (go_simp; rfl)); intro gb244 hg w3 hbox hb; have n0_ := Aside0.mk (below_step be hb); have n1_ := Aside0.mk (hbox); have n2_ := gs hg HB; have n3_ := n2_; clear HB; have HB := n0_; have BK244 := n1_; have GW244 := n2_; have GE244 := n3_; clear n0_ n1_ n2_ n3_; clear hb hbox hg))
 go_loopg [5, 6] k (fun kq v5 v6 w' => ∃ (x5_1 : List Int) (x6_1 : Int), v6 = .int .i64 x6_1 ∧ Aside0 (ephemerisref1_ZoneRuleDay.l0 kq a1 x5_1 x6_1 a0_0 a0_1 a0_2 a0_3 a0_4 a0_5 = some r) ∧ Aside0 (kq ≤ k) ∧ Aside0 (Kd.R (Kd.int .i64) 3 w' w.heap.size (fun _ => True) v5 x5_1) ∧ Aside0 (w'.heap[gb244]? = some (.cells #[.int .i64 a0_0, .int .i64 a0_1, .int .i64 a0_2, .int .i64 a0_3, .int .i64 a0_4, .string a0_5] 92 (0, 0))) ∧ Aside0 (Below w.heap.size w w'))
 case atStart => exact ⟨(([] : List Int)), (1), rs, H', ⟨Nat.le_refl _⟩, ⟨by first | exact Kd.R_nil _ _ _ _ _ | exact Kd.N_nil _ _ _ _ _ | exact Kd.V_nil _ _ _ _ _ | exact Kd.Q_nil _ _ _ _ _ | exact Kd.S_nil _ _ _ _ _⟩, ⟨bk BK244⟩, ⟨be⟩⟩
 case round =>
  clear H'
  (try clear p2)
  obtain ⟨x5_1, x6_1, rfl, HA, HK1, HO_5, BK244, HB⟩ := hrel
  cases gk with
  | zero => exact absurd HA.out (by simp [ephemerisref1_ZoneRuleDay.l0])
  | succ k1 =>
   have H := HA.out
   clear HA
   simp only [ephemerisref1_ZoneRuleDay.l0] at H
   by_cases c4 : x6_1 ≤ 31
   ·rw [if_pos c4] at H
    have c4b0 : decide (x6_1 ≤ 31) = true := decide_eq_true c4
    clear c4
    replace H := Option.bind_eq_some_iff.mp H
    obtain ⟨t248, A50, H⟩ := H
    replace H : (if t248 = true then ((ephemerisref1_GregDay.f k1 a1 a0_0 x6_1).bind fun t249 => ((ephemerisref1_Week.f k1 t249).bind fun t250 => (if t250 = a0_2 then ((ephemerisref1_GregDay.f k1 a1 a0_0 x6_1).bind fun t251 => (if x5_1.length < 17592186044416 then (ephemerisref1_ZoneRuleDay.l0 k1 a1 (x5_1 ++ [t251]) (wrap64 (x6_1 + 1)) a0_0 a0_1 a0_2 a0_3 a0_4 a0_5) else (none))) else (ephemerisref1_ZoneRuleDay.l0 k1 a1 x5_1 (wrap64 (x6_1 + 1)) a0_0 a0_1 a0_2 a0_3 a0_4 a0_5)))) else (ephemerisref1_ZoneRuleDay.l0 k1 a1 x5_1 (wrap64 (x6_1 + 1)) a0_0 a0_1 a0_2 a0_3 a0_4 a0_5)) = some r := H
    have A5 := Aside0.mk A50
    clear A50
    by_cases c6 : t248 = true
    ·subst c6
     have H1 : ((ephemerisref1_GregDay.f k1 a1 a0_0 x6_1).bind fun t249 => ((ephemerisref1_Week.f k1 t249).bind fun t250 => (if t250 = a0_2 then ((ephemerisref1_GregDay.f k1 a1 a0_0 x6_1).bind fun t251 => (if x5_1.length < 17592186044416 then (ephemerisref1_ZoneRuleDay.l0 k1 a1 (x5_1 ++ [t251]) (wrap64 (x6_1 + 1)) a0_0 a0_1 a0_2 a0_3 a0_4 a0_5) else (none))) else (ephemerisref1_ZoneRuleDay.l0 k1 a1 x5_1 (wrap64 (x6_1 + 1)) a0_0 a0_1 a0_2 a0_3 a0_4 a0_5)))) = some r := by rw [if_pos rfl] at H; exact H
     clear H
     have H := H1
     clear H1
     replace H := Option.bind_eq_some_iff.mp H
     obtain ⟨t249, A70, H⟩ := H
     replace H : ((ephemerisref1_Week.f k1 t249).bind fun t250 => (if t250 = a0_2 then ((ephemerisref1_GregDay.f k1 a1 a0_0 x6_1).bind fun t251 => (if x5_1.length < 17592186044416 then (ephemerisref1_ZoneRuleDay.l0 k1 a1 (x5_1 ++ [t251]) (wrap64 (x6_1 + 1)) a0_0 a0_1 a0_2 a0_3 a0_4 a0_5) else (none))) else (ephemerisref1_ZoneRuleDay.l0 k1 a1 x5_1 (wrap64 (x6_1 + 1)) a0_0 a0_1 a0_2 a0_3 a0_4 a0_5))) = some r := H
     have A7 := Aside0.mk A70
     clear A70
     replace H := Option.bind_eq_some_iff.mp H
     obtain ⟨t250, A80, H⟩ := H
     replace H : (if t250 = a0_2 then ((ephemerisref1_GregDay.f k1 a1 a0_0 x6_1).bind fun t251 => (if x5_1.length < 17592186044416 then (ephemerisref1_ZoneRuleDay.l0 k1 a1 (x5_1 ++ [t251]) (wrap64 (x6_1 + 1)) a0_0 a0_1 a0_2 a0_3 a0_4 a0_5) else (none))) else (ephemerisref1_ZoneRuleDay.l0 k1 a1 x5_1 (wrap64 (x6_1 + 1)) a0_0 a0_1 a0_2 a0_3 a0_4 a0_5)) = some r := H
     have A8 := Aside0.mk A80
     clear A80
     by_cases c9 : t250 = a0_2
     ·rw [if_pos c9] at H
      have c9b0 : (t250 == a0_2) = true := beq_iff_eq.mpr c9
      have c9b1 : (t250 != a0_2) = false := bne_eq_false_iff_eq.mpr c9
      clear c9
      replace H := Option.bind_eq_some_iff.mp H
      obtain ⟨t251, A100, H⟩ := H
      replace H : (if x5_1.length < 17592186044416 then (ephemerisref1_ZoneRuleDay.l0 k1 a1 (x5_1 ++ [t251]) (wrap64 (x6_1 + 1)) a0_0 a0_1 a0_2 a0_3 a0_4 a0_5) else (none)) = some r := H
      have A10 := Aside0.mk A100
      clear A100
      by_cases c11 : x5_1.length < 17592186044416
      ·rw [if_pos c11] at H
       have LMc11 := Aside0.mk c11
       clear c11
       obtain ⟨y252, hy252⟩ : ∃ y_ : List Int, y_ = (x5_1 ++ [t251]) := ⟨_, rfl⟩
       replace H : (ephemerisref1_ZoneRuleDay.l0 k1 a1 y252 (wrap64 (x6_1 + 1)) a0_0 a0_1 a0_2 a0_3 a0_4 a0_5) = some r := rp hy252 H
       have Ny252 := Aside0.mk hy252
       clear hy252
       have H' := Aside0.mk H
       clear H
       obtain ⟨hcz12_0, hcz12_1, hcz12_2, hcz12_3, hcz12_4, hcz12_5, hfz12_0, hfz12_1, hfz12_2, hfz12_3, hfz12_4, hfz12_5⟩ := bc6 BK244
       try go_wp2_with (first | ((with_reducible refine gate_dst (N := 7) rfl ?_); refine box_event ?hg (N := 7) ?hd (cs := #[.int .i64 0, .int .i64 0, .int .i64 0]) (t := 138) ?hr ?_; (case hd => rfl); (case hg => rfl); (case hr => first | (go_simp; done) | (go_simp; rfl)); intro gb247 hg w13 hbox hb; have n0_ := Aside0.mk (Kd.R_below (by (with_reducible repeat (first | apply Kd.R_alloc | apply Kd.R_drewN | apply Kd.R_drew)); exact HO_5.out) hb); have n1_ := bb BK244 hb; have n2_ := Aside0.mk (below_step be hb); have n3_ := Aside0.mk (hbox); have n4_ := gs hg HB; have n5_ := n4_; have n6_ := nl BK244 hg; have n7_ := ns n6_; clear HO_5; clear BK244; clear HB; have HO_5 := n0_; have BK244 := n1_; have HB := n2_; have BK247 := n3_; have GW247 := n4_; have GE247 := n5_; have NB244_247 := n6_; have NB247_244 := n7_; clear n0_ n1_ n2_ n3_ n4_ n5_ n6_ n7_; clear hb hbox hg; have hnb14 := NB247_244.out; have hnc14 := NB244_247.out; obtain ⟨hcz15_0, hcz15_1, hcz15_2, hfz15_0, hfz15_1, hfz15_2⟩ := bc3 BK247))
       have n0_ : Aside0 (Kd.R (Kd.int .i64) 3 (((w13.setCell ⟨gb247, 0, none⟩ (.int .i64 a1)).setCell ⟨gb247, 1, none⟩ (.int .i64 a0_0)).setCell ⟨gb247, 2, none⟩ (.int .i64 x6_1)) w.heap.size (fun _ => True) u5 x5_1) := ⟨by (with_reducible repeat (first | apply Kd.R_alloc | apply Kd.R_drewN | apply Kd.R_drew)); exact Kd.R_mono (Kd.R_far (p := ⟨gb247, 2, none⟩) (Kd.R_far (p := ⟨gb247, 1, none⟩) (Kd.R_far (p := ⟨gb247, 0, none⟩) (Kd.R_types HO_5.out BK247.out (by decide)) (fun _ hk => hk.2) (.int .i64 a1)) (fun _ hk => hk.2) (.int .i64 a0_0)) (fun _ hk => hk.2) (.int .i64 x6_1)) (fun _ hk => trivial)⟩
       have n1_ : Aside0 ((((w13.setCell ⟨gb247, 0, none⟩ (.int .i64 a1)).setCell ⟨gb247, 1, none⟩ (.int .i64 a0_0)).setCell ⟨gb247, 2, none⟩ (.int .i64 x6_1)).heap[gb244]? = some (.cells #[.int .i64 a0_0, .int .i64 a0_1, .int .i64 a0_2, .int .i64 a0_3, .int .i64 a0_4, .string a0_5] 92 (0, 0))) := ⟨bk BK244⟩
       have n2_ : Aside0 ((((w13.setCell ⟨gb247, 0, none⟩ (.int .i64 a1)).setCell ⟨gb247, 1, none⟩ (.int .i64 a0_0)).setCell ⟨gb247, 2, none⟩ (.int .i64 x6_1)).heap[gb247]? = some (.cells #[.int .i64 a1, .int .i64 a0_0, .int .i64 x6_1] 138 (0, 0))) := ⟨bk BK247⟩
       have n3_ : Aside0 (Below w.heap.size w (((w13.setCell ⟨gb247, 0, none⟩ (.int .i64 a1)).setCell ⟨gb247, 1, none⟩ (.int .i64 a0_0)).setCell ⟨gb247, 2, none⟩ (.int .i64 x6_1))) := ⟨be⟩
       (try clear HO_5)
       (try clear BK244)
       (try clear BK247)
       (try clear HB)
       generalize (((w13.setCell ⟨gb247, 0, none⟩ (.int .i64 a1)).setCell ⟨gb247, 1, none⟩ (.int .i64 a0_0)).setCell ⟨gb247, 2, none⟩ (.int .i64 x6_1)) = w16 at n0_ n1_ n2_ n3_ ⊢
       have HO_5 := n0_
       have BK244 := n1_
       have BK247 := n2_
       have HB := n3_
       clear n0_ n1_ n2_ n3_
       have n0_ := Aside0.mk (Kd.R_drew HO_5.out)
       have n1_ := Aside0.mk (blk_drew BK244.out)
       have n2_ := Aside0.mk (blk_drew BK247.out)
       have n3_ := Aside0.mk (below_drew1 HB.out)
       clear HO_5
       clear BK244
       clear BK247
       clear HB
       have HO_5 := n0_
       have BK244 := n1_
       have BK247 := n2_
       have HB := n3_
       clear n0_ n1_ n2_ n3_
       refine start_ (n := 10) (S := fun w' => w'.cell? ⟨gb247, 0, none⟩ = some (.int .i64 a1) ∧ w'.cell? ⟨gb247, 1, none⟩ = some (.int .i64 a0_0) ∧ w'.cell? ⟨gb247, 2, none⟩ = some (.int .i64 x6_1) ∧ w'.cell? ⟨gb244, 0, none⟩ = some (.int .i64 a0_0) ∧ w'.cell? ⟨gb244, 1, none⟩ = some (.int .i64 a0_1) ∧ w'.cell? ⟨gb244, 2, none⟩ = some (.int .i64 a0_2) ∧ w'.cell? ⟨gb244, 3, none⟩ = some (.int .i64 a0_3) ∧ w'.cell? ⟨gb244, 4, none⟩ = some (.int .i64 a0_4) ∧ w'.cell? ⟨gb244, 5, none⟩ = some (.string a0_5)) (ds := []) #[false, false, false, false, false, false, false, false, false, false] kx rfl rfl ⟨(blk_cell BK247.out 0).trans rfl, (blk_cell BK247.out 1).trans rfl, (blk_cell BK247.out 2).trans rfl, (blk_cell BK244.out 0).trans rfl, (blk_cell BK244.out 1).trans rfl, (blk_cell BK244.out 2).trans rfl, (blk_cell BK244.out 3).trans rfl, (blk_cell BK244.out 4).trans rfl, (blk_cell BK244.out 5).trans rfl⟩ (fun hHeld => ?_); refine with_tabW ephemerisref1_ZoneRuleDay.tab6 ephemerisref1_ZoneRuleDay.bits6 (fun HT_ HW_ => ?_)
       generalize w16.drew = w17 at HO_5 BK244 BK247 HB hHeld ⊢
       refine take_ (i := 0) (N := some 17) (v := ?_) (a' := ?_) #[true, false, false, false, false, false, false, false, false, false] rfl rfl (take_ofW HT_.out HW_.out kx) (fun _ _ _ h => h) (Or.inl ⟨by rfl, ?_⟩) hHeld ?_ ?_
       rotate_left
       ·rintro w' ⟨s0, s1, s2, s3, s4, s5, s6, s7, s8⟩
        go_simp
        with_reducible rfl
       rotate_left
       ·simp only [Act.put, List.setIfInBounds_toArray, List.set_cons_zero, List.set_cons_succ, i64_w, i32_w]
        rfl
       refine one_ (i := 1) (N := some 18) #[true, true, false, false, false, false, false, false, false, false] rfl rfl (one_of HT_.out kx) (by decide) (fun K hK => ?_)
       refine goes_ Tryd.func78 kx rfl #[.agg #[.int .i64 a1, .int .i64 a0_0, .int .i64 x6_1]] (by rfl) rfl rfl aa ?_
       with_reducible refine (ephemerisref1_GregExists.calls k1 a1 a0_0 x6_1 true _ A5.out).mono ?_
       rintro e w18 ⟨rfl, hb⟩
       refine ⟨_, rfl, ?_⟩
       have n0_ := Aside0.mk (Kd.R_below (by (with_reducible repeat (first | apply Kd.R_alloc | apply Kd.R_drewN | apply Kd.R_drew)); exact HO_5.out) hb)
       have n1_ := bb BK244 hb
       have n2_ := bb BK247 hb
       have n3_ := Aside0.mk (below_step be hb)
       clear HO_5
       clear BK244
       clear BK247
       clear HB
       have HO_5 := n0_
       have BK244 := n1_
       have BK247 := n2_
       have HB := n3_
       clear n0_ n1_ n2_ n3_
       (try clear hb)
       (try clear hb2)
       (try clear hk)
       (try clear hi)
       refine hK.out _ _ ⟨(blk_cell BK247.out 0).trans rfl, (blk_cell BK247.out 1).trans rfl, (blk_cell BK247.out 2).trans rfl, (blk_cell BK244.out 0).trans rfl, (blk_cell BK244.out 1).trans rfl, (blk_cell BK244.out 2).trans rfl, (blk_cell BK244.out 3).trans rfl, (blk_cell BK244.out 4).trans rfl, (blk_cell BK244.out 5).trans rfl⟩ (fun hHeld => ?_)
       clear hK K
       refine norm_ (a' := ?_) ?_ ?_
       rotate_left
       ·show Act.put _ (some 18) _ = _
        simp only [Act.put, List.setIfInBounds_toArray, List.set_cons_zero, List.set_cons_succ, i64_w, i32_w]
        rfl
       refine pure_ (i := 2) (N := some 19) (v := ?_) (a' := ?_) #[true, true, true, false, false, false, false, false, false, false] rfl rfl (any_of HT_.out kx) (fun _ _ _ h => h) (Or.inl ⟨by rfl, ?_⟩) ?_ ?_
       rotate_left
       ·intro w'
        go_simp
        with_reducible rfl
       rotate_left
       ·simp only [Act.put, List.setIfInBounds_toArray, List.set_cons_zero, List.set_cons_succ, i64_w, i32_w]
        rfl
       refine pure_ (i := 6) (N := some 23) (v := ?_) (a' := ?_) #[true, true, true, false, false, false, true, false, false, false] rfl rfl (any_of HT_.out kx) (fun _ _ _ h => h) (Or.inl ⟨by rfl, ?_⟩) ?_ ?_
       rotate_left
       ·intro w'
        go_simp
        with_reducible rfl
       rotate_left
       ·simp only [Act.put, List.setIfInBounds_toArray, List.set_cons_zero, List.set_cons_succ, i64_w, i32_w]
        rfl
       refine take_ (i := 3) (N := some 20) (v := ?_) (a' := ?_) #[true, true, true, true, false, false, true, false, false, false] rfl rfl (take_ofW HT_.out HW_.out kx) (fun _ _ _ h => h) (Or.inl ⟨by rfl, ?_⟩) hHeld ?_ ?_
       rotate_left
       ·rintro w' ⟨s0, s1, s2, s3, s4, s5, s6, s7, s8⟩
        go_simp
        with_reducible rfl
       rotate_left
       ·simp only [Act.put, List.setIfInBounds_toArray, List.set_cons_zero, List.set_cons_succ, i64_w, i32_w]
        rfl
       refine take_ (i := 7) (N := some 24) (v := ?_) (a' := ?_) #[true, true, true, true, false, false, true, true, false, false] rfl rfl (take_ofW HT_.out HW_.out kx) (fun _ _ _ h => h) (Or.inl ⟨by rfl, ?_⟩) hHeld ?_ ?_
       rotate_left
       ·rintro w' ⟨s0, s1, s2, s3, s4, s5, s6, s7, s8⟩
        go_simp
        with_reducible rfl
       rotate_left
       ·simp only [Act.put, List.setIfInBounds_toArray, List.set_cons_zero, List.set_cons_succ, i64_w, i32_w]
        rfl
       refine one_ (i := 4) (N := some 21) #[true, true, true, true, true, false, true, true, false, false] rfl rfl (one_of HT_.out kx) (by decide) (fun K hK => ?_)
       refine goes_ Tryd.func80 kx rfl #[.agg #[.int .i64 a1, .int .i64 a0_0, .int .i64 x6_1]] (by rfl) rfl rfl aa ?_
       with_reducible refine (ephemerisref1_GregDay.calls k1 a1 a0_0 x6_1 t249 _ A7.out).mono ?_
       rintro e w19 ⟨rfl, hb⟩
       refine ⟨_, rfl, ?_⟩
       have n0_ := Aside0.mk (Kd.R_below (by (with_reducible repeat (first | apply Kd.R_alloc | apply Kd.R_drewN | apply Kd.R_drew)); exact HO_5.out) hb)
       have n1_ := bb BK244 hb
       have n2_ := bb BK247 hb
       have n3_ := Aside0.mk (below_step be hb)
       clear HO_5
       clear BK244
       clear BK247
       clear HB
       have HO_5 := n0_
       have BK244 := n1_
       have BK247 := n2_
       have HB := n3_
       clear n0_ n1_ n2_ n3_
       (try clear hb)
       (try clear hb2)
       (try clear hk)
       (try clear hi)
       refine hK.out _ _ ⟨(blk_cell BK247.out 0).trans rfl, (blk_cell BK247.out 1).trans rfl, (blk_cell BK247.out 2).trans rfl, (blk_cell BK244.out 0).trans rfl, (blk_cell BK244.out 1).trans rfl, (blk_cell BK244.out 2).trans rfl, (blk_cell BK244.out 3).trans rfl, (blk_cell BK244.out 4).trans rfl, (blk_cell BK244.out 5).trans rfl⟩ (fun hHeld => ?_)
       clear hK K
       refine norm_ (a' := ?_) ?_ ?_
       rotate_left
       ·show Act.put _ (some 21) _ = _
        simp only [Act.put, List.setIfInBounds_toArray, List.set_cons_zero, List.set_cons_succ, i64_w, i32_w]
        rfl
       refine one_ (i := 5) (N := some 22) #[true, true, true, true, true, true, true, true, false, false] rfl rfl (one_of HT_.out kx) (by decide) (fun K hK => ?_)
       refine goes_ Tryd.func79 kx rfl #[.int .i64 t249] (by rfl) rfl rfl aa ?_
       with_reducible refine (ephemerisref1_Week.calls k1 t249 t250 _ A8.out).mono ?_
       rintro e w' ⟨rfl, ⟨nd, rfl⟩⟩
       refine ⟨_, rfl, ?_⟩
       refine hK.out _ _ ⟨(blk_cell BK247.out 0).trans rfl, (blk_cell BK247.out 1).trans rfl, (blk_cell BK247.out 2).trans rfl, (blk_cell BK244.out 0).trans rfl, (blk_cell BK244.out 1).trans rfl, (blk_cell BK244.out 2).trans rfl, (blk_cell BK244.out 3).trans rfl, (blk_cell BK244.out 4).trans rfl, (blk_cell BK244.out 5).trans rfl⟩ (fun hHeld => ?_)
       clear hK K
       refine norm_ (a' := ?_) ?_ ?_
       rotate_left
       ·show Act.put _ (some 22) _ = _
        simp only [Act.put, List.setIfInBounds_toArray, List.set_cons_zero, List.set_cons_succ, i64_w, i32_w]
        rfl
       refine pure_ (i := 8) (N := some 25) (v := ?_) (a' := ?_) #[true, true, true, true, true, true, true, true, true, false] rfl rfl (any_of HT_.out kx) (fun _ _ _ h => h) (Or.inl ⟨by rfl, ?_⟩) ?_ ?_
       rotate_left
       ·intro w'
        go_simp
        with_reducible rfl
       rotate_left
       ·simp only [Act.put, List.setIfInBounds_toArray, List.set_cons_zero, List.set_cons_succ, i64_w, i32_w]
        rfl
       refine pure_ (i := 9) (N := some 26) (v := ?_) (a' := ?_) #[true, true, true, true, true, true, true, true, true, true] rfl rfl (any_of HT_.out kx) (fun _ _ _ h => h) (Or.inl ⟨by rfl, ?_⟩) ?_ ?_
       rotate_left
       ·intro w'
        go_simp
        with_reducible rfl
       rotate_left
       ·simp only [Act.put, List.setIfInBounds_toArray, List.set_cons_zero, List.set_cons_succ, i64_w, i32_w]
        rfl
       refine done_ (done_of HT_.out kx) ?_
       obtain ⟨hcz20_0, hcz20_1, hcz20_2, hfz20_0, hfz20_1, hfz20_2⟩ := bc3 BK247
       try go_wp2_with (first | ((with_reducible refine gate_callee (f := 80) rfl ?_); refine goesL_ (some 29) rfl rfl Tryd.func80 kx rfl #[.agg #[.int .i64 a1, .int .i64 a0_0, .int .i64 x6_1]] rfl aa ?_; (with_reducible refine (ephemerisref1_GregDay.calls k1 a1 a0_0 x6_1 t251 _ A10.out).mono ?_); rintro e w21 ⟨rfl, hb⟩; refine ⟨_, rfl, ?_⟩; have n0_ := Aside0.mk (Kd.R_below (by (with_reducible repeat (first | apply Kd.R_alloc | apply Kd.R_drewN | apply Kd.R_drew)); exact HO_5.out) hb); have n1_ := bb BK244 hb; have n2_ := bb BK247 hb; have n3_ := Aside0.mk (below_step be hb); clear HO_5; clear BK244; clear BK247; clear HB; have HO_5 := n0_; have BK244 := n1_; have BK247 := n2_; have HB := n3_; clear n0_ n1_ n2_ n3_; (try clear hb); (try clear hb2); (try clear hk); (try clear hi)) | ((with_reducible refine gate_builtin (b := .append) (xs := #[.tmp 27, .tmp 30]) rfl ?_); at_builtin; refine Kd.R_append (Kd.int .i64) (w0 := w) w.heap.size rfl (.tmp 27) (.tmp 30) 29 3 (.int .i64 0) 8 rfl Tryd.underlying29 info3 rfl (by decide) (by omega) u5 x5_1 t251 [.int .i64 t251] (fun _ => True) (fun _ => False) rfl rfl ?aP (fun _ hk => hk.elim) ?aF ?aO ?aB ?aS ?aL ?_; (case aP => exact rfl); (case aB => exact be); (case aF => exact (fun _ _ => trivial)); (case aO => exact (by (with_reducible repeat (first | apply Kd.R_alloc | apply Kd.R_drewN | apply Kd.R_drew)); exact HO_5.out)); (case aS => exact (below_size be)); (case aL => have := LMc11.out; omega); intro v253 w22 ho hb hg hat; rw [← Ny252.out] at ho; have n0_ := Aside0.mk (blk_grown (g := gb244) (o := .cells #[.int .i64 a0_0, .int .i64 a0_1, .int .i64 a0_2, .int .i64 a0_3, .int .i64 a0_4, .string a0_5] 92 (0, 0)) (bk BK244) hg (Kd.R_ne HO_5.out BK244.out (by decide))); have n1_ := Aside0.mk (blk_grown (g := gb247) (o := .cells #[.int .i64 a1, .int .i64 a0_0, .int .i64 x6_1] 138 (0, 0)) (bk BK247) hg (Kd.R_ne HO_5.out BK247.out (by decide))); have n2_ := Aside0.mk (hb); have n3_ := Aside0.mk (ho); clear BK244; clear BK247; clear HB; clear HO_5; have BK244 := n0_; have BK247 := n1_; have HB := n2_; have HO254 := n3_; clear n0_ n1_ n2_ n3_; clear ho hb hg hat))
       go_roundg k1
       case measure => have := HK1.out; omega
       case rel => exact ⟨(y252), (wrap64 (x6_1 + 1)), rs, H', ⟨by have := HK1.out; omega⟩, ⟨by (with_reducible repeat (first | apply Kd.R_alloc | apply Kd.R_drewN | apply Kd.R_drew)); exact HO254.out⟩, ⟨bk BK244⟩, ⟨be⟩⟩
      ·rw [if_neg c11] at H
       exact absurd H (by simp)
     ·rw [if_neg c9] at H
      have c9b0 : (t250 == a0_2) = false := beq_eq_false_iff_ne.mpr c9
      have c9b1 : (t250 != a0_2) = true := bne_iff_ne.mpr c9
      have H' := Aside0.mk H
      clear H
      obtain ⟨hcz23_0, hcz23_1, hcz23_2, hcz23_3, hcz23_4, hcz23_5, hfz23_0, hfz23_1, hfz23_2, hfz23_3, hfz23_4, hfz23_5⟩ := bc6 BK244
      try go_wp2_with (first | ((with_reducible refine gate_dst (N := 7) rfl ?_); refine box_event ?hg (N := 7) ?hd (cs := #[.int .i64 0, .int .i64 0, .int .i64 0]) (t := 138) ?hr ?_; (case hd => rfl); (case hg => rfl); (case hr => first | (go_simp; done) | (go_simp; rfl)); intro gb247 hg w24 hbox hb; have n0_ := Aside0.mk (Kd.R_below (by (with_reducible repeat (first | apply Kd.R_alloc | apply Kd.R_drewN | apply Kd.R_drew)); exact HO_5.out) hb); have n1_ := bb BK244 hb; have n2_ := Aside0.mk (below_step be hb); have n3_ := Aside0.mk (hbox); have n4_ := gs hg HB; have n5_ := n4_; have n6_ := nl BK244 hg; have n7_ := ns n6_; clear HO_5; clear BK244; clear HB; have HO_5 := n0_; have BK244 := n1_; have HB := n2_; have BK247 := n3_; have GW247 := n4_; have GE247 := n5_; have NB244_247 := n6_; have NB247_244 := n7_; clear n0_ n1_ n2_ n3_ n4_ n5_ n6_ n7_; clear hb hbox hg; have hnb25 := NB247_244.out; have hnc25 := NB244_247.out; obtain ⟨hcz26_0, hcz26_1, hcz26_2, hfz26_0, hfz26_1, hfz26_2⟩ := bc3 BK247))
      have n0_ : Aside0 (Kd.R (Kd.int .i64) 3 (((w24.setCell ⟨gb247, 0, none⟩ (.int .i64 a1)).setCell ⟨gb247, 1, none⟩ (.int .i64 a0_0)).setCell ⟨gb247, 2, none⟩ (.int .i64 x6_1)) w.heap.size (fun _ => True) u5 x5_1) := ⟨by (with_reducible repeat (first | apply Kd.R_alloc | apply Kd.R_drewN | apply Kd.R_drew)); exact Kd.R_mono (Kd.R_far (p := ⟨gb247, 2, none⟩) (Kd.R_far (p := ⟨gb247, 1, none⟩) (Kd.R_far (p := ⟨gb247, 0, none⟩) (Kd.R_types HO_5.out BK247.out (by decide)) (fun _ hk => hk.2) (.int .i64 a1)) (fun _ hk => hk.2) (.int .i64 a0_0)) (fun _ hk => hk.2) (.int .i64 x6_1)) (fun _ hk => trivial)⟩
      have n1_ : Aside0 ((((w24.setCell ⟨gb247, 0, none⟩ (.int .i64 a1)).setCell ⟨gb247, 1, none⟩ (.int .i64 a0_0)).setCell ⟨gb247, 2, none⟩ (.int .i64 x6_1)).heap[gb244]? = some (.cells #[.int .i64 a0_0, .int .i64 a0_1, .int .i64 a0_2, .int .i64 a0_3, .int .i64 a0_4, .string a0_5] 92 (0, 0))) := ⟨bk BK244⟩
      have n2_ : Aside0 ((((w24.setCell ⟨gb247, 0, none⟩ (.int .i64 a1)).setCell ⟨gb247, 1, none⟩ (.int .i64 a0_0)).setCell ⟨gb247, 2, none⟩ (.int .i64 x6_1)).heap[gb247]? = some (.cells #[.int .i64 a1, .int .i64 a0_0, .int .i64 x6_1] 138 (0, 0))) := ⟨bk BK247⟩
      have n3_ : Aside0 (Below w.heap.size w (((w24.setCell ⟨gb247, 0, none⟩ (.int .i64 a1)).setCell ⟨gb247, 1, none⟩ (.int .i64 a0_0)).setCell ⟨gb247, 2, none⟩ (.int .i64 x6_1))) := ⟨be⟩
      (try clear HO_5)
      (try clear BK244)
      (try clear BK247)
      (try clear HB)
      generalize (((w24.setCell ⟨gb247, 0, none⟩ (.int .i64 a1)).setCell ⟨gb247, 1, none⟩ (.int .i64 a0_0)).setCell ⟨gb247, 2, none⟩ (.int .i64 x6_1)) = w27 at n0_ n1_ n2_ n3_ ⊢
      have HO_5 := n0_
      have BK244 := n1_
      have BK247 := n2_
      have HB := n3_
      clear n0_ n1_ n2_ n3_
      have n0_ := Aside0.mk (Kd.R_drew HO_5.out)
      have n1_ := Aside0.mk (blk_drew BK244.out)
      have n2_ := Aside0.mk (blk_drew BK247.out)
      have n3_ := Aside0.mk (below_drew1 HB.out)
      clear HO_5
      clear BK244
      clear BK247
      clear HB
      have HO_5 := n0_
      have BK244 := n1_
      have BK247 := n2_
      have HB := n3_
      clear n0_ n1_ n2_ n3_
      refine start_ (n := 10) (S := fun w' => w'.cell? ⟨gb247, 0, none⟩ = some (.int .i64 a1) ∧ w'.cell? ⟨gb247, 1, none⟩ = some (.int .i64 a0_0) ∧ w'.cell? ⟨gb247, 2, none⟩ = some (.int .i64 x6_1) ∧ w'.cell? ⟨gb244, 0, none⟩ = some (.int .i64 a0_0) ∧ w'.cell? ⟨gb244, 1, none⟩ = some (.int .i64 a0_1) ∧ w'.cell? ⟨gb244, 2, none⟩ = some (.int .i64 a0_2) ∧ w'.cell? ⟨gb244, 3, none⟩ = some (.int .i64 a0_3) ∧ w'.cell? ⟨gb244, 4, none⟩ = some (.int .i64 a0_4) ∧ w'.cell? ⟨gb244, 5, none⟩ = some (.string a0_5)) (ds := []) #[false, false, false, false, false, false, false, false, false, false] kx rfl rfl ⟨(blk_cell BK247.out 0).trans rfl, (blk_cell BK247.out 1).trans rfl, (blk_cell BK247.out 2).trans rfl, (blk_cell BK244.out 0).trans rfl, (blk_cell BK244.out 1).trans rfl, (blk_cell BK244.out 2).trans rfl, (blk_cell BK244.out 3).trans rfl, (blk_cell BK244.out 4).trans rfl, (blk_cell BK244.out 5).trans rfl⟩ (fun hHeld => ?_); refine with_tabW ephemerisref1_ZoneRuleDay.tab6 ephemerisref1_ZoneRuleDay.bits6 (fun HT_ HW_ => ?_)
      generalize w27.drew = w28 at HO_5 BK244 BK247 HB hHeld ⊢
      refine take_ (i := 0) (N := some 17) (v := ?_) (a' := ?_) #[true, false, false, false, false, false, false, false, false, false] rfl rfl (take_ofW HT_.out HW_.out kx) (fun _ _ _ h => h) (Or.inl ⟨by rfl, ?_⟩) hHeld ?_ ?_
      rotate_left
      ·rintro w' ⟨s0, s1, s2, s3, s4, s5, s6, s7, s8⟩
       go_simp
       with_reducible rfl
      rotate_left
      ·simp only [Act.put, List.setIfInBounds_toArray, List.set_cons_zero, List.set_cons_succ, i64_w, i32_w]
       rfl
      refine one_ (i := 1) (N := some 18) #[true, true, false, false, false, false, false, false, false, false] rfl rfl (one_of HT_.out kx) (by decide) (fun K hK => ?_)
      refine goes_ Tryd.func78 kx rfl #[.agg #[.int .i64 a1, .int .i64 a0_0, .int .i64 x6_1]] (by rfl) rfl rfl aa ?_
      with_reducible refine (ephemerisref1_GregExists.calls k1 a1 a0_0 x6_1 true _ A5.out).mono ?_
      rintro e w29 ⟨rfl, hb⟩
      refine ⟨_, rfl, ?_⟩
      have n0_ := Aside0.mk (Kd.R_below (by (with_reducible repeat (first | apply Kd.R_alloc | apply Kd.R_drewN | apply Kd.R_drew)); exact HO_5.out) hb)
      have n1_ := bb BK244 hb
      have n2_ := bb BK247 hb
      have n3_ := Aside0.mk (below_step be hb)
      clear HO_5
      clear BK244
      clear BK247
      clear HB
      have HO_5 := n0_
      have BK244 := n1_
      have BK247 := n2_
      have HB := n3_
      clear n0_ n1_ n2_ n3_
      (try clear hb)
      (try clear hb2)
      (try clear hk)
      (try clear hi)
      refine hK.out _ _ ⟨(blk_cell BK247.out 0).trans rfl, (blk_cell BK247.out 1).trans rfl, (blk_cell BK247.out 2).trans rfl, (blk_cell BK244.out 0).trans rfl, (blk_cell BK244.out 1).trans rfl, (blk_cell BK244.out 2).trans rfl, (blk_cell BK244.out 3).trans rfl, (blk_cell BK244.out 4).trans rfl, (blk_cell BK244.out 5).trans rfl⟩ (fun hHeld => ?_)
      clear hK K
      refine norm_ (a' := ?_) ?_ ?_
      rotate_left
      ·show Act.put _ (some 18) _ = _
       simp only [Act.put, List.setIfInBounds_toArray, List.set_cons_zero, List.set_cons_succ, i64_w, i32_w]
       rfl
      refine pure_ (i := 2) (N := some 19) (v := ?_) (a' := ?_) #[true, true, true, false, false, false, false, false, false, false] rfl rfl (any_of HT_.out kx) (fun _ _ _ h => h) (Or.inl ⟨by rfl, ?_⟩) ?_ ?_
      rotate_left
      ·intro w'
       go_simp
       with_reducible rfl
      rotate_left
      ·simp only [Act.put, List.setIfInBounds_toArray, List.set_cons_zero, List.set_cons_succ, i64_w, i32_w]
       rfl
      refine pure_ (i := 6) (N := some 23) (v := ?_) (a' := ?_) #[true, true, true, false, false, false, true, false, false, false] rfl rfl (any_of HT_.out kx) (fun _ _ _ h => h) (Or.inl ⟨by rfl, ?_⟩) ?_ ?_
      rotate_left
      ·intro w'
       go_simp
       with_reducible rfl
      rotate_left
      ·simp only [Act.put, List.setIfInBounds_toArray, List.set_cons_zero, List.set_cons_succ, i64_w, i32_w]
       rfl
      refine take_ (i := 3) (N := some 20) (v := ?_) (a' := ?_) #[true, true, true, true, false, false, true, false, false, false] rfl rfl (take_ofW HT_.out HW_.out kx) (fun _ _ _ h => h) (Or.inl ⟨by rfl, ?_⟩) hHeld ?_ ?_
      rotate_left
      ·rintro w' ⟨s0, s1, s2, s3, s4, s5, s6, s7, s8⟩
       go_simp
       with_reducible rfl
      rotate_left
      ·simp only [Act.put, List.setIfInBounds_toArray, List.set_cons_zero, List.set_cons_succ, i64_w, i32_w]
       rfl
      refine take_ (i := 7) (N := some 24) (v := ?_) (a' := ?_) #[true, true, true, true, false, false, true, true, false, false] rfl rfl (take_ofW HT_.out HW_.out kx) (fun _ _ _ h => h) (Or.inl ⟨by rfl, ?_⟩) hHeld ?_ ?_
      rotate_left
      ·rintro w' ⟨s0, s1, s2, s3, s4, s5, s6, s7, s8⟩
       go_simp
       with_reducible rfl
      rotate_left
      ·simp only [Act.put, List.setIfInBounds_toArray, List.set_cons_zero, List.set_cons_succ, i64_w, i32_w]
       rfl
      refine one_ (i := 4) (N := some 21) #[true, true, true, true, true, false, true, true, false, false] rfl rfl (one_of HT_.out kx) (by decide) (fun K hK => ?_)
      refine goes_ Tryd.func80 kx rfl #[.agg #[.int .i64 a1, .int .i64 a0_0, .int .i64 x6_1]] (by rfl) rfl rfl aa ?_
      with_reducible refine (ephemerisref1_GregDay.calls k1 a1 a0_0 x6_1 t249 _ A7.out).mono ?_
      rintro e w30 ⟨rfl, hb⟩
      refine ⟨_, rfl, ?_⟩
      have n0_ := Aside0.mk (Kd.R_below (by (with_reducible repeat (first | apply Kd.R_alloc | apply Kd.R_drewN | apply Kd.R_drew)); exact HO_5.out) hb)
      have n1_ := bb BK244 hb
      have n2_ := bb BK247 hb
      have n3_ := Aside0.mk (below_step be hb)
      clear HO_5
      clear BK244
      clear BK247
      clear HB
      have HO_5 := n0_
      have BK244 := n1_
      have BK247 := n2_
      have HB := n3_
      clear n0_ n1_ n2_ n3_
      (try clear hb)
      (try clear hb2)
      (try clear hk)
      (try clear hi)
      refine hK.out _ _ ⟨(blk_cell BK247.out 0).trans rfl, (blk_cell BK247.out 1).trans rfl, (blk_cell BK247.out 2).trans rfl, (blk_cell BK244.out 0).trans rfl, (blk_cell BK244.out 1).trans rfl, (blk_cell BK244.out 2).trans rfl, (blk_cell BK244.out 3).trans rfl, (blk_cell BK244.out 4).trans rfl, (blk_cell BK244.out 5).trans rfl⟩ (fun hHeld => ?_)
      clear hK K
      refine norm_ (a' := ?_) ?_ ?_
      rotate_left
      ·show Act.put _ (some 21) _ = _
       simp only [Act.put, List.setIfInBounds_toArray, List.set_cons_zero, List.set_cons_succ, i64_w, i32_w]
       rfl
      refine one_ (i := 5) (N := some 22) #[true, true, true, true, true, true, true, true, false, false] rfl rfl (one_of HT_.out kx) (by decide) (fun K hK => ?_)
      refine goes_ Tryd.func79 kx rfl #[.int .i64 t249] (by rfl) rfl rfl aa ?_
      with_reducible refine (ephemerisref1_Week.calls k1 t249 t250 _ A8.out).mono ?_
      rintro e w' ⟨rfl, ⟨nd, rfl⟩⟩
      refine ⟨_, rfl, ?_⟩
      refine hK.out _ _ ⟨(blk_cell BK247.out 0).trans rfl, (blk_cell BK247.out 1).trans rfl, (blk_cell BK247.out 2).trans rfl, (blk_cell BK244.out 0).trans rfl, (blk_cell BK244.out 1).trans rfl, (blk_cell BK244.out 2).trans rfl, (blk_cell BK244.out 3).trans rfl, (blk_cell BK244.out 4).trans rfl, (blk_cell BK244.out 5).trans rfl⟩ (fun hHeld => ?_)
      clear hK K
      refine norm_ (a' := ?_) ?_ ?_
      rotate_left
      ·show Act.put _ (some 22) _ = _
       simp only [Act.put, List.setIfInBounds_toArray, List.set_cons_zero, List.set_cons_succ, i64_w, i32_w]
       rfl
      refine pure_ (i := 8) (N := some 25) (v := ?_) (a' := ?_) #[true, true, true, true, true, true, true, true, true, false] rfl rfl (any_of HT_.out kx) (fun _ _ _ h => h) (Or.inl ⟨by rfl, ?_⟩) ?_ ?_
      rotate_left
      ·intro w'
       go_simp
       with_reducible rfl
      rotate_left
      ·simp only [Act.put, List.setIfInBounds_toArray, List.set_cons_zero, List.set_cons_succ, i64_w, i32_w]
       rfl
      refine pure_ (i := 9) (N := some 26) (v := ?_) (a' := ?_) #[true, true, true, true, true, true, true, true, true, true] rfl rfl (any_of HT_.out kx) (fun _ _ _ h => h) (Or.inl ⟨by rfl, ?_⟩) ?_ ?_
      rotate_left
      ·intro w'
       go_simp
       with_reducible rfl
      rotate_left
      ·simp only [Act.put, List.setIfInBounds_toArray, List.set_cons_zero, List.set_cons_succ, i64_w, i32_w]
       rfl
      refine done_ (done_of HT_.out kx) ?_
      try go_wp2
      go_roundg k1
      case measure => have := HK1.out; omega
      case rel => exact ⟨(x5_1), (wrap64 (x6_1 + 1)), rs, H', ⟨by have := HK1.out; omega⟩, ⟨by (with_reducible repeat (first | apply Kd.R_alloc | apply Kd.R_drewN | apply Kd.R_drew)); exact HO_5.out⟩, ⟨bk BK244⟩, ⟨be⟩⟩
    ·replace c6 := Bool.eq_false_iff.mpr c6
     subst c6
     have H1 : (ephemerisref1_ZoneRuleDay.l0 k1 a1 x5_1 (wrap64 (x6_1 + 1)) a0_0 a0_1 a0_2 a0_3 a0_4 a0_5) = some r := by rw [if_neg (show ¬ (false = true) by decide)] at H; exact H
     clear H
     have H := H1
     clear H1
     have H' := Aside0.mk H
     clear H
     obtain ⟨hcz31_0, hcz31_1, hcz31_2, hcz31_3, hcz31_4, hcz31_5, hfz31_0, hfz31_1, hfz31_2, hfz31_3, hfz31_4, hfz31_5⟩ := bc6 BK244
     try go_wp2_with (first | ((with_reducible refine gate_dst (N := 7) rfl ?_); refine box_event ?hg (N := 7) ?hd (cs := #[.int .i64 0, .int .i64 0, .int .i64 0]) (t := 138) ?hr ?_; (case hd => rfl); (case hg => rfl); (case hr => first | (go_simp; done) | (go_simp; rfl)); intro gb247 hg w32 hbox hb; have n0_ := Aside0.mk (Kd.R_below (by (with_reducible repeat (first | apply Kd.R_alloc | apply Kd.R_drewN | apply Kd.R_drew)); exact HO_5.out) hb); have n1_ := bb BK244 hb; have n2_ := Aside0.mk (below_step be hb); have n3_ := Aside0.mk (hbox); have n4_ := gs hg HB; have n5_ := n4_; have n6_ := nl BK244 hg; have n7_ := ns n6_; clear HO_5; clear BK244; clear HB; have HO_5 := n0_; have BK244 := n1_; have HB := n2_; have BK247 := n3_; have GW247 := n4_; have GE247 := n5_; have NB244_247 := n6_; have NB247_244 := n7_; clear n0_ n1_ n2_ n3_ n4_ n5_ n6_ n7_; clear hb hbox hg; have hnb33 := NB247_244.out; have hnc33 := NB244_247.out; obtain ⟨hcz34_0, hcz34_1, hcz34_2, hfz34_0, hfz34_1, hfz34_2⟩ := bc3 BK247))
     have n0_ : Aside0 (Kd.R (Kd.int .i64) 3 (((w32.setCell ⟨gb247, 0, none⟩ (.int .i64 a1)).setCell ⟨gb247, 1, none⟩ (.int .i64 a0_0)).setCell ⟨gb247, 2, none⟩ (.int .i64 x6_1)) w.heap.size (fun _ => True) u5 x5_1) := ⟨by (with_reducible repeat (first | apply Kd.R_alloc | apply Kd.R_drewN | apply Kd.R_drew)); exact Kd.R_mono (Kd.R_far (p := ⟨gb247, 2, none⟩) (Kd.R_far (p := ⟨gb247, 1, none⟩) (Kd.R_far (p := ⟨gb247, 0, none⟩) (Kd.R_types HO_5.out BK247.out (by decide)) (fun _ hk => hk.2) (.int .i64 a1)) (fun _ hk => hk.2) (.int .i64 a0_0)) (fun _ hk => hk.2) (.int .i64 x6_1)) (fun _ hk => trivial)⟩
     have n1_ : Aside0 ((((w32.setCell ⟨gb247, 0, none⟩ (.int .i64 a1)).setCell ⟨gb247, 1, none⟩ (.int .i64 a0_0)).setCell ⟨gb247, 2, none⟩ (.int .i64 x6_1)).heap[gb244]? = some (.cells #[.int .i64 a0_0, .int .i64 a0_1, .int .i64 a0_2, .int .i64 a0_3, .int .i64 a0_4, .string a0_5] 92 (0, 0))) := ⟨bk BK244⟩
     have n2_ : Aside0 ((((w32.setCell ⟨gb247, 0, none⟩ (.int .i64 a1)).setCell ⟨gb247, 1, none⟩ (.int .i64 a0_0)).setCell ⟨gb247, 2, none⟩ (.int .i64 x6_1)).heap[gb247]? = some (.cells #[.int .i64 a1, .int .i64 a0_0, .int .i64 x6_1] 138 (0, 0))) := ⟨bk BK247⟩
     have n3_ : Aside0 (Below w.heap.size w (((w32.setCell ⟨gb247, 0, none⟩ (.int .i64 a1)).setCell ⟨gb247, 1, none⟩ (.int .i64 a0_0)).setCell ⟨gb247, 2, none⟩ (.int .i64 x6_1))) := ⟨be⟩
     (try clear HO_5)
     (try clear BK244)
     (try clear BK247)
     (try clear HB)
     generalize (((w32.setCell ⟨gb247, 0, none⟩ (.int .i64 a1)).setCell ⟨gb247, 1, none⟩ (.int .i64 a0_0)).setCell ⟨gb247, 2, none⟩ (.int .i64 x6_1)) = w35 at n0_ n1_ n2_ n3_ ⊢
     have HO_5 := n0_
     have BK244 := n1_
     have BK247 := n2_
     have HB := n3_
     clear n0_ n1_ n2_ n3_
     have n0_ := Aside0.mk (Kd.R_drew HO_5.out)
     have n1_ := Aside0.mk (blk_drew BK244.out)
     have n2_ := Aside0.mk (blk_drew BK247.out)
     have n3_ := Aside0.mk (below_drew1 HB.out)
     clear HO_5
     clear BK244
     clear BK247
     clear HB
     have HO_5 := n0_
     have BK244 := n1_
     have BK247 := n2_
     have HB := n3_
     clear n0_ n1_ n2_ n3_
     refine start_ (n := 10) (S := fun w' => w'.cell? ⟨gb247, 0, none⟩ = some (.int .i64 a1) ∧ w'.cell? ⟨gb247, 1, none⟩ = some (.int .i64 a0_0) ∧ w'.cell? ⟨gb247, 2, none⟩ = some (.int .i64 x6_1)) (ds := []) #[false, false, false, false, false, false, false, false, false, false] kx rfl rfl ⟨(blk_cell BK247.out 0).trans rfl, (blk_cell BK247.out 1).trans rfl, (blk_cell BK247.out 2).trans rfl⟩ (fun hHeld => ?_); refine with_tabW ephemerisref1_ZoneRuleDay.tab6 ephemerisref1_ZoneRuleDay.bits6 (fun HT_ HW_ => ?_)
     generalize w35.drew = w36 at HO_5 BK244 BK247 HB hHeld ⊢
     refine take_ (i := 0) (N := some 17) (v := ?_) (a' := ?_) #[true, false, false, false, false, false, false, false, false, false] rfl rfl (take_ofW HT_.out HW_.out kx) (fun _ _ _ h => h) (Or.inl ⟨by rfl, ?_⟩) hHeld ?_ ?_
     rotate_left
     ·rintro w' ⟨s0, s1, s2⟩
      go_simp
      with_reducible rfl
     rotate_left
     ·simp only [Act.put, List.setIfInBounds_toArray, List.set_cons_zero, List.set_cons_succ, i64_w, i32_w]
      rfl
     refine one_ (i := 1) (N := some 18) #[true, true, false, false, false, false, false, false, false, false] rfl rfl (one_of HT_.out kx) (by decide) (fun K hK => ?_)
     refine goes_ Tryd.func78 kx rfl #[.agg #[.int .i64 a1, .int .i64 a0_0, .int .i64 x6_1]] (by rfl) rfl rfl aa ?_
     with_reducible refine (ephemerisref1_GregExists.calls k1 a1 a0_0 x6_1 false _ A5.out).mono ?_
     rintro e w37 ⟨rfl, hb⟩
     refine ⟨_, rfl, ?_⟩
     have n0_ := Aside0.mk (Kd.R_below (by (with_reducible repeat (first | apply Kd.R_alloc | apply Kd.R_drewN | apply Kd.R_drew)); exact HO_5.out) hb)
     have n1_ := bb BK244 hb
     have n2_ := bb BK247 hb
     have n3_ := Aside0.mk (below_step be hb)
     clear HO_5
     clear BK244
     clear BK247
     clear HB
     have HO_5 := n0_
     have BK244 := n1_
     have BK247 := n2_
     have HB := n3_
     clear n0_ n1_ n2_ n3_
     (try clear hb)
     (try clear hb2)
     (try clear hk)
     (try clear hi)
     refine hK.out _ _ ⟨(blk_cell BK247.out 0).trans rfl, (blk_cell BK247.out 1).trans rfl, (blk_cell BK247.out 2).trans rfl⟩ (fun hHeld => ?_)
     clear hK K
     refine norm_ (a' := ?_) ?_ ?_
     rotate_left
     ·show Act.put _ (some 18) _ = _
      simp only [Act.put, List.setIfInBounds_toArray, List.set_cons_zero, List.set_cons_succ, i64_w, i32_w]
      rfl
     refine pure_ (i := 2) (N := some 19) (v := ?_) (a' := ?_) #[true, true, true, false, false, false, false, false, false, false] rfl rfl (any_of HT_.out kx) (fun _ _ _ h => h) (Or.inl ⟨by rfl, ?_⟩) ?_ ?_
     rotate_left
     ·intro w'
      go_simp
      with_reducible rfl
     rotate_left
     ·simp only [Act.put, List.setIfInBounds_toArray, List.set_cons_zero, List.set_cons_succ, i64_w, i32_w]
      rfl
     refine pure_ (i := 3) (N := some 20) (v := undef) (a' := ?_) #[true, true, true, true, false, false, false, false, false, false] rfl rfl (any_of HT_.out kx) (fun _ _ _ h => h) (Or.inr ⟨by rfl, rfl⟩) ?_ ?_
     rotate_left
     ·simp only [Act.put, List.setIfInBounds_toArray, List.set_cons_zero, List.set_cons_succ, i64_w, i32_w]
      rfl
     refine pure_ (i := 4) (N := some 21) (v := undef) (a' := ?_) #[true, true, true, true, true, false, false, false, false, false] rfl rfl (any_of HT_.out kx) (fun _ _ _ h => h) (Or.inr ⟨by rfl, rfl⟩) ?_ ?_
     rotate_left
     ·simp only [Act.put, List.setIfInBounds_toArray, List.set_cons_zero, List.set_cons_succ, i64_w, i32_w]
      rfl
     refine pure_ (i := 5) (N := some 22) (v := undef) (a' := ?_) #[true, true, true, true, true, true, false, false, false, false] rfl rfl (any_of HT_.out kx) (fun _ _ _ h => h) (Or.inr ⟨by rfl, rfl⟩) ?_ ?_
     rotate_left
     ·simp only [Act.put, List.setIfInBounds_toArray, List.set_cons_zero, List.set_cons_succ, i64_w, i32_w]
      rfl
     refine pure_ (i := 6) (N := some 23) (v := undef) (a' := ?_) #[true, true, true, true, true, true, true, false, false, false] rfl rfl (any_of HT_.out kx) (fun _ _ _ h => h) (Or.inr ⟨by rfl, rfl⟩) ?_ ?_
     rotate_left
     ·simp only [Act.put, List.setIfInBounds_toArray, List.set_cons_zero, List.set_cons_succ, i64_w, i32_w]
      rfl
     refine pure_ (i := 7) (N := some 24) (v := undef) (a' := ?_) #[true, true, true, true, true, true, true, true, false, false] rfl rfl (any_of HT_.out kx) (fun _ _ _ h => h) (Or.inr ⟨by rfl, rfl⟩) ?_ ?_
     rotate_left
     ·simp only [Act.put, List.setIfInBounds_toArray, List.set_cons_zero, List.set_cons_succ, i64_w, i32_w]
      rfl
     refine pure_ (i := 8) (N := some 25) (v := undef) (a' := ?_) #[true, true, true, true, true, true, true, true, true, false] rfl rfl (any_of HT_.out kx) (fun _ _ _ h => h) (Or.inr ⟨by rfl, rfl⟩) ?_ ?_
     rotate_left
     ·simp only [Act.put, List.setIfInBounds_toArray, List.set_cons_zero, List.set_cons_succ, i64_w, i32_w]
      rfl
     refine pure_ (i := 9) (N := some 26) (v := ?_) (a' := ?_) #[true, true, true, true, true, true, true, true, true, true] rfl rfl (any_of HT_.out kx) (fun _ _ _ h => h) (Or.inl ⟨by rfl, ?_⟩) ?_ ?_
     rotate_left
     ·intro w'
      go_simp
      with_reducible rfl
     rotate_left
     ·simp only [Act.put, List.setIfInBounds_toArray, List.set_cons_zero, List.set_cons_succ, i64_w, i32_w]
      rfl
     refine done_ (done_of HT_.out kx) ?_
     try go_wp2
     go_roundg k1
     case measure => have := HK1.out; omega
     case rel => exact ⟨(x5_1), (wrap64 (x6_1 + 1)), rs, H', ⟨by have := HK1.out; omega⟩, ⟨by (with_reducible repeat (first | apply Kd.R_alloc | apply Kd.R_drewN | apply Kd.R_drew)); exact HO_5.out⟩, ⟨bk BK244⟩, ⟨be⟩⟩
   ·rw [if_neg c4] at H
    have c4b0 : decide (x6_1 ≤ 31) = false := decide_eq_false c4
    clear c4
    by_cases c38 : a0_1 = 5
    ·rw [if_pos c38] at H
     have c38b0 : (a0_1 == 5) = true := beq_iff_eq.mpr c38
     have c38b1 : (a0_1 != 5) = false := bne_eq_false_iff_eq.mpr c38
     clear c38
     obtain ⟨ji39, hji39⟩ : ∃ j_ : Int, (wrap64 ((x5_1.length : Int) - 1)) = j_ := ⟨_, rfl⟩
     replace H : (if 0 ≤ (ji39) then (if (ji39) < (x5_1.length : Int) then (some (rd x5_1 (ji39))) else (none)) else (none)) = some r := by first | (rw [hji39] at H; exact H) | (simp only [hji39] at H ⊢; exact H)
     have hji39w : (IntKind.i64.wrap ((x5_1.length : Int) - 1)) = ji39 := (i64_w _).trans hji39
     by_cases c40 : 0 ≤ (ji39)
     ·rw [if_pos c40] at H
      have c40b0 : decide (0 ≤ (ji39)) = true := decide_eq_true c40
      clear c40
      by_cases c41 : (ji39) < (x5_1.length : Int)
      ·rw [if_pos c41] at H
       have c41b0 : decide ((ji39) < (x5_1.length : Int)) = true := decide_eq_true c41
       clear c41
       obtain rfl := Option.some.inj H
       obtain ⟨hcz42_0, hcz42_1, hcz42_2, hcz42_3, hcz42_4, hcz42_5, hfz42_0, hfz42_1, hfz42_2, hfz42_3, hfz42_4, hfz42_5⟩ := bc6 BK244
       obtain ⟨Ao43, co43, eo43⟩ := Kd.R_slice HO_5.out
       subst eo43
       have p245 : 0 ≤ ((ji39) : Int) := of_decide_eq_true ka
       have q245 : (ji39) < (x5_1.length : Int) := of_decide_eq_true ka
       obtain ⟨ad245, e245, hx245_0⟩ := Kd.at_int (Kd.R_reads' HO_5.out).2.2 (ji39) p245 q245
       cases e245
       replace p245 := eq_true p245
       replace q245 := eq_true q245
       go_wp2
       go_ret
       exact ⟨by first | rfl | (simp [errW_none, errW_some] <;> rfl) | (simp only [← hji39]; first | rfl | (simp [errW_none, errW_some] <;> rfl)) | (simp [*, errW_none, errW_some] <;> rfl), be⟩
      ·rw [if_neg c41] at H
       exact absurd H (by simp)
     ·rw [if_neg c40] at H
      exact absurd H (by simp)
    ·rw [if_neg c38] at H
     have c38b0 : (a0_1 == 5) = false := beq_eq_false_iff_ne.mpr c38
     have c38b1 : (a0_1 != 5) = true := bne_iff_ne.mpr c38
     obtain ⟨ji44, hji44⟩ : ∃ j_ : Int, (wrap64 (a0_1 - 1)) = j_ := ⟨_, rfl⟩
     replace H : (if 0 ≤ (ji44) then (if (ji44) < (x5_1.length : Int) then (some (rd x5_1 (ji44))) else (none)) else (none)) = some r := by first | (rw [hji44] at H; exact H) | (simp only [hji44] at H ⊢; exact H)
     have hji44w : (IntKind.i64.wrap (a0_1 - 1)) = ji44 := (i64_w _).trans hji44
     by_cases c45 : 0 ≤ (ji44)
     ·rw [if_pos c45] at H
      have c45b0 : decide (0 ≤ (ji44)) = true := decide_eq_true c45
      clear c45
      by_cases c46 : (ji44) < (x5_1.length : Int)
      ·rw [if_pos c46] at H
       have c46b0 : decide ((ji44) < (x5_1.length : Int)) = true := decide_eq_true c46
       clear c46
       obtain rfl := Option.some.inj H
       obtain ⟨hcz47_0, hcz47_1, hcz47_2, hcz47_3, hcz47_4, hcz47_5, hfz47_0, hfz47_1, hfz47_2, hfz47_3, hfz47_4, hfz47_5⟩ := bc6 BK244
       obtain ⟨Ao48, co48, eo48⟩ := Kd.R_slice HO_5.out
       subst eo48
       have p246 : 0 ≤ ((ji44) : Int) := of_decide_eq_true ka
       have q246 : (ji44) < (x5_1.length : Int) := of_decide_eq_true ka
       obtain ⟨ad246, e246, hx246_0⟩ := Kd.at_int (Kd.R_reads' HO_5.out).2.2 (ji44) p246 q246
       cases e246
       replace p246 := eq_true p246
       replace q246 := eq_true q246
       go_wp2
       go_ret
       exact ⟨by first | rfl | (simp [errW_none, errW_some] <;> rfl) | (simp only [← hji44]; first | rfl | (simp [errW_none, errW_some] <;> rfl)) | (simp [*, errW_none, errW_some] <;> rfl), be⟩
      ·rw [if_neg c46] at H
       exact absurd H (by simp)
     ·rw [if_neg c45] at H
      exact absurd H (by simp)

end Go.Proofs.YtolhlaadhfilnaaDoor.PForecastExtends
