/- The walks of the functions of this part. The proof of (none; laid closer) is written by hand; the other ones are as the kit's print tells them. -/
-- The walks of the law's functions, told by a program.
import Derived.Test.YtlefdgllpdbkjaaPLunisolarFromDaysx0
import Derived.Test.YtlefdgllpdbkjaaPLunisolarFromDaysx5
import Derived.Test.YtlefdgllpdbkjaaPLunisolarFromDaysx8
namespace Go.Proofs.Ytlefdgllpdbkjaa.PLunisolarFromDays
open Go.RowKit Go.Proofs.YtlefdgllpdbkjaaW.PrintWords Go.Proofs.YtlefdgllpdbkjaaW.PrintLast Go.Proofs.YtlefdgllpdbkjaaW.PrintMore
attribute [local go_sem] max2_int min2_int max_two min_two max_three min_three max_four min_four   -- for this text's walks alone
set_option linter.unusedVariables false
set_option linter.unusedSimpArgs false

/-! ### lunisolar_Check: function 64 -/
mutual
def lunisolar_Check.l0 : Nat → List (S49) → Int → Int → ByteArray → Int → Int → Int → Int → Int → Int → Int → Int → List Int → List Int → Option (Int)
 | 0, _, _, _, _, _, _, _, _, _, _, _, _, _, _ => none
 | k + 1, x20, x21, x22, x175000, x175001, x175002, x175003, x175004, x175005, x175006, x175007, x175008, x175009, x175010 => if x22 < x21 then (if 0 ≤ x22 then (if x22 < (x20.length : Int) then ((frac_Check.f k ((rd_T49 x20 x22).f0) ((rd_T49 x20 x22).f1)).bind fun t182 => (if t182 = 0 then (lunisolar_Check.l0 k x20 x21 (wrap64 (x22 + 1)) x175000 x175001 x175002 x175003 x175004 x175005 x175006 x175007 x175008 x175009 x175010) else (some 8))) else (none)) else (none)) else (if x175002 < 0 then (lunisolar_Check.j1 k true x175000 x175001 x175002 x175003 x175004 x175005 x175006 x175007 x175008 x175009 x175010) else (if x175002 ≥ x175003 then (lunisolar_Check.j1 k true x175000 x175001 x175002 x175003 x175004 x175005 x175006 x175007 x175008 x175009 x175010) else (if x175004 < (wrap64 (29 * x175005)) then (lunisolar_Check.j1 k true x175000 x175001 x175002 x175003 x175004 x175005 x175006 x175007 x175008 x175009 x175010) else (if x175004 > (wrap64 (30 * x175005)) then (lunisolar_Check.j1 k true x175000 x175001 x175002 x175003 x175004 x175005 x175006 x175007 x175008 x175009 x175010) else (if x175006 < 1 then (lunisolar_Check.j1 k true x175000 x175001 x175002 x175003 x175004 x175005 x175006 x175007 x175008 x175009 x175010) else (lunisolar_Check.j1 k (decide (x175006 > x175007)) x175000 x175001 x175002 x175003 x175004 x175005 x175006 x175007 x175008 x175009 x175010))))))
def lunisolar_Check.j1 : Nat → Bool → ByteArray → Int → Int → Int → Int → Int → Int → Int → Int → List Int → List Int → Option (Int)
 | 0, _, _, _, _, _, _, _, _, _, _, _, _ => none
 | k + 1, x77, x175000, x175001, x175002, x175003, x175004, x175005, x175006, x175007, x175008, x175009, x175010 => if x77 = true then (some 3) else ((lunisolar_parts.f k x175000 x175001 x175002 x175003 x175004 x175005 x175006 x175007 x175008 x175009 x175010).bind fun t183 => (if t183 = 0 then (some 14) else (if x175008 < 1 then (lunisolar_Check.j2 k true x175000 x175001 x175002 x175003 x175004 x175005 x175006 x175007 x175008 x175009 x175010) else (lunisolar_Check.j2 k (decide (x175008 > 100)) x175000 x175001 x175002 x175003 x175004 x175005 x175006 x175007 x175008 x175009 x175010))))
def lunisolar_Check.j2 : Nat → Bool → ByteArray → Int → Int → Int → Int → Int → Int → Int → Int → List Int → List Int → Option (Int)
 | 0, _, _, _, _, _, _, _, _, _, _, _, _ => none
 | k + 1, x88, x175000, x175001, x175002, x175003, x175004, x175005, x175006, x175007, x175008, x175009, x175010 => if x88 = true then (some 3) else ((lunisolar_rising.f k x175009 1 x175008).bind fun t184 => (if t184 = 0 then (if (x175010.length : Int) > 3 then (some 2) else ((lunisolar_rising.f k x175010 0 6).bind fun t185 => (some t185))) else (some t184)))
end
def lunisolar_Check.f (k : Nat) (a0_0 : ByteArray) (a0_1 : Int) (a0_2 : Int) (a0_3 : Int) (a0_4 : Int) (a0_5 : Int) (a0_6 : Int) (a0_7 : Int) (a0_8 : Int) (l0_9 : List Int) (l0_10 : List Int) : Option (Int) := (rule_Name.f a0_0).bind fun t175 => (if t175 = true then ((line_Check.f a0_1).bind fun t176 => (if t176 = 0 then ((some (([(⟨a0_2, a0_3⟩ : S49), (⟨a0_4, a0_5⟩ : S49), (⟨a0_6, a0_7⟩ : S49)] : List (S49)) : List (S49))).bind fun y177 => (lunisolar_Check.l0 k y177 (y177.length : Int) 0 a0_0 a0_1 a0_2 a0_3 a0_4 a0_5 a0_6 a0_7 a0_8 l0_9 l0_10)) else (some 3))) else (some 5))
theorem lunisolar_Check.mono_l : ∀ k, (∀ y0 y1 y2 y3 y4 y5 y6 y7 y8 y9 y10 y11 y12 y13, LeO (lunisolar_Check.l0 k y0 y1 y2 y3 y4 y5 y6 y7 y8 y9 y10 y11 y12 y13) (lunisolar_Check.l0 (k + 1) y0 y1 y2 y3 y4 y5 y6 y7 y8 y9 y10 y11 y12 y13)) ∧ (∀ y0 y1 y2 y3 y4 y5 y6 y7 y8 y9 y10 y11, LeO (lunisolar_Check.j1 k y0 y1 y2 y3 y4 y5 y6 y7 y8 y9 y10 y11) (lunisolar_Check.j1 (k + 1) y0 y1 y2 y3 y4 y5 y6 y7 y8 y9 y10 y11)) ∧ (∀ y0 y1 y2 y3 y4 y5 y6 y7 y8 y9 y10 y11, LeO (lunisolar_Check.j2 k y0 y1 y2 y3 y4 y5 y6 y7 y8 y9 y10 y11) (lunisolar_Check.j2 (k + 1) y0 y1 y2 y3 y4 y5 y6 y7 y8 y9 y10 y11))
 | 0 => ⟨fun _ _ _ _ _ _ _ _ _ _ _ _ _ _ r h => by simp [lunisolar_Check.l0] at h, fun _ _ _ _ _ _ _ _ _ _ _ _ r h => by simp [lunisolar_Check.j1] at h, fun _ _ _ _ _ _ _ _ _ _ _ _ r h => by simp [lunisolar_Check.j2] at h⟩
 | k + 1 => by
  obtain ⟨ih0, ih1, ih2⟩ := lunisolar_Check.mono_l k
  refine ⟨?_, ?_, ?_⟩
  ·intro y0 y1 y2 y3 y4 y5 y6 y7 y8 y9 y10 y11 y12 y13
   unfold lunisolar_Check.l0
   repeat' first
   | (with_reducible exact ih0 _ _ _ _ _ _ _ _ _ _ _ _ _ _)
   | (with_reducible exact ih1 _ _ _ _ _ _ _ _ _ _ _ _)
   | (with_reducible exact ih2 _ _ _ _ _ _ _ _ _ _ _ _)
   | (with_reducible exact frac_Check.mono _ _ _)
   | (with_reducible exact lunisolar_parts.mono _ _ _ _ _ _ _ _ _ _ _ _)
   | (with_reducible exact lunisolar_rising.mono _ _ _ _)
   | (with_reducible exact LeO.refl _)
   | (with_reducible exact LeO.none _)
   | (with_reducible refine LeO.ite ?_ ?_)
   | (with_reducible refine LeO.bind ?_ (fun _ => ?_))
   | exact ih0 _ _ _ _ _ _ _ _ _ _ _ _ _ _
   | exact ih1 _ _ _ _ _ _ _ _ _ _ _ _
   | exact ih2 _ _ _ _ _ _ _ _ _ _ _ _
   | exact frac_Check.mono _ _ _
   | exact lunisolar_parts.mono _ _ _ _ _ _ _ _ _ _ _ _
   | exact lunisolar_rising.mono _ _ _ _
   | exact LeO.none _
   | refine LeO.ite ?_ ?_
   | refine LeO.bind ?_ (fun _ => ?_)
  ·intro y0 y1 y2 y3 y4 y5 y6 y7 y8 y9 y10 y11
   unfold lunisolar_Check.j1
   repeat' first
   | (with_reducible exact ih0 _ _ _ _ _ _ _ _ _ _ _ _ _ _)
   | (with_reducible exact ih1 _ _ _ _ _ _ _ _ _ _ _ _)
   | (with_reducible exact ih2 _ _ _ _ _ _ _ _ _ _ _ _)
   | (with_reducible exact frac_Check.mono _ _ _)
   | (with_reducible exact lunisolar_parts.mono _ _ _ _ _ _ _ _ _ _ _ _)
   | (with_reducible exact lunisolar_rising.mono _ _ _ _)
   | (with_reducible exact LeO.refl _)
   | (with_reducible exact LeO.none _)
   | (with_reducible refine LeO.ite ?_ ?_)
   | (with_reducible refine LeO.bind ?_ (fun _ => ?_))
   | exact ih0 _ _ _ _ _ _ _ _ _ _ _ _ _ _
   | exact ih1 _ _ _ _ _ _ _ _ _ _ _ _
   | exact ih2 _ _ _ _ _ _ _ _ _ _ _ _
   | exact frac_Check.mono _ _ _
   | exact lunisolar_parts.mono _ _ _ _ _ _ _ _ _ _ _ _
   | exact lunisolar_rising.mono _ _ _ _
   | exact LeO.none _
   | refine LeO.ite ?_ ?_
   | refine LeO.bind ?_ (fun _ => ?_)
  ·intro y0 y1 y2 y3 y4 y5 y6 y7 y8 y9 y10 y11
   unfold lunisolar_Check.j2
   repeat' first
   | (with_reducible exact ih0 _ _ _ _ _ _ _ _ _ _ _ _ _ _)
   | (with_reducible exact ih1 _ _ _ _ _ _ _ _ _ _ _ _)
   | (with_reducible exact ih2 _ _ _ _ _ _ _ _ _ _ _ _)
   | (with_reducible exact frac_Check.mono _ _ _)
   | (with_reducible exact lunisolar_parts.mono _ _ _ _ _ _ _ _ _ _ _ _)
   | (with_reducible exact lunisolar_rising.mono _ _ _ _)
   | (with_reducible exact LeO.refl _)
   | (with_reducible exact LeO.none _)
   | (with_reducible refine LeO.ite ?_ ?_)
   | (with_reducible refine LeO.bind ?_ (fun _ => ?_))
   | exact ih0 _ _ _ _ _ _ _ _ _ _ _ _ _ _
   | exact ih1 _ _ _ _ _ _ _ _ _ _ _ _
   | exact ih2 _ _ _ _ _ _ _ _ _ _ _ _
   | exact frac_Check.mono _ _ _
   | exact lunisolar_parts.mono _ _ _ _ _ _ _ _ _ _ _ _
   | exact lunisolar_rising.mono _ _ _ _
   | exact LeO.none _
   | refine LeO.ite ?_ ?_
   | refine LeO.bind ?_ (fun _ => ?_)
theorem lunisolar_Check.mono : ∀ a0 a1 a2 a3 a4 a5 a6 a7 a8 a9 a10 k, LeO (lunisolar_Check.f k a0 a1 a2 a3 a4 a5 a6 a7 a8 a9 a10) (lunisolar_Check.f (k + 1) a0 a1 a2 a3 a4 a5 a6 a7 a8 a9 a10) := by
 intro a0 a1 a2 a3 a4 a5 a6 a7 a8 a9 a10 k
 obtain ⟨ih0, ih1, ih2⟩ := lunisolar_Check.mono_l k
 unfold lunisolar_Check.f
 repeat' first
   | (with_reducible exact ih0 _ _ _ _ _ _ _ _ _ _ _ _ _ _)
   | (with_reducible exact ih1 _ _ _ _ _ _ _ _ _ _ _ _)
   | (with_reducible exact ih2 _ _ _ _ _ _ _ _ _ _ _ _)
   | (with_reducible exact frac_Check.mono _ _ _)
   | (with_reducible exact lunisolar_parts.mono _ _ _ _ _ _ _ _ _ _ _ _)
   | (with_reducible exact lunisolar_rising.mono _ _ _ _)
   | (with_reducible exact LeO.refl _)
   | (with_reducible exact LeO.none _)
   | (with_reducible refine LeO.ite ?_ ?_)
   | (with_reducible refine LeO.bind ?_ (fun _ => ?_))
   | exact ih0 _ _ _ _ _ _ _ _ _ _ _ _ _ _
   | exact ih1 _ _ _ _ _ _ _ _ _ _ _ _
   | exact ih2 _ _ _ _ _ _ _ _ _ _ _ _
   | exact frac_Check.mono _ _ _
   | exact lunisolar_parts.mono _ _ _ _ _ _ _ _ _ _ _ _
   | exact lunisolar_rising.mono _ _ _ _
   | exact LeO.none _
   | refine LeO.ite ?_ ?_
   | refine LeO.bind ?_ (fun _ => ?_)
set_option maxHeartbeats 8000000 in
set_option maxRecDepth 100000 in
theorem lunisolar_Check.calls (k : Nat) (a0_0 : ByteArray) (a0_1 : Int) (a0_2 : Int) (a0_3 : Int) (a0_4 : Int) (a0_5 : Int) (a0_6 : Int) (a0_7 : Int) (a0_8 : Int) (A0_9 : Option Addr) (c0_9 : Nat) (l0_9 : List Int) (A0_10 : Option Addr) (c0_10 : Nat) (l0_10 : List Int) (r : Int) (w : World) (hr0_9 : Kd.C (Kd.int .i64) w A0_9 l0_9.length l0_9) (hc0_9 : l0_9.length ≤ c0_9) (hr0_10 : Kd.C (Kd.int .i64) w A0_10 l0_10.length l0_10) (hc0_10 : l0_10.length ≤ c0_10) (h : lunisolar_Check.f k a0_0 a0_1 a0_2 a0_3 a0_4 a0_5 a0_6 a0_7 a0_8 l0_9 l0_10 = some r) :
  Calls Try.prog 64 #[.agg #[.string a0_0, .int .i64 a0_1, .int .i64 a0_2, .int .i64 a0_3, .int .i64 a0_4, .int .i64 a0_5, .int .i64 a0_6, .int .i64 a0_7, .int .i64 a0_8, .slice A0_9 l0_9.length c0_9, .slice A0_10 l0_10.length c0_10]] w fun e w' => e = .returned (.int .i64 r) ∧ Below w.heap.size w w' := by
 have hu51 := Try.underlying51
 have hu49 := Try.underlying49
 have HR0_9 := Aside0.mk hr0_9
 have HC0_9 := Aside0.mk hc0_9
 clear hr0_9 hc0_9
 have HR0_10 := Aside0.mk hr0_10
 have HC0_10 := Aside0.mk hc0_10
 clear hr0_10 hc0_10
 have HB := Aside0.mk (Below.refl w.heap.size w)
 have H : ((rule_Name.f a0_0).bind fun t175 => (if t175 = true then ((line_Check.f a0_1).bind fun t176 => (if t176 = 0 then ((some (([(⟨a0_2, a0_3⟩ : S49), (⟨a0_4, a0_5⟩ : S49), (⟨a0_6, a0_7⟩ : S49)] : List (S49)) : List (S49))).bind fun y177 => (lunisolar_Check.l0 k y177 (y177.length : Int) 0 a0_0 a0_1 a0_2 a0_3 a0_4 a0_5 a0_6 a0_7 a0_8 l0_9 l0_10)) else (some 3))) else (some 5))) = some r := h
 clear h
 replace H := Option.bind_eq_some_iff.mp H
 obtain ⟨t175, A20, H⟩ := H
 replace H : (if t175 = true then ((line_Check.f a0_1).bind fun t176 => (if t176 = 0 then ((some (([(⟨a0_2, a0_3⟩ : S49), (⟨a0_4, a0_5⟩ : S49), (⟨a0_6, a0_7⟩ : S49)] : List (S49)) : List (S49))).bind fun y177 => (lunisolar_Check.l0 k y177 (y177.length : Int) 0 a0_0 a0_1 a0_2 a0_3 a0_4 a0_5 a0_6 a0_7 a0_8 l0_9 l0_10)) else (some 3))) else (some 5)) = some r := H
 have A2 := Aside0.mk A20
 clear A20
 by_cases c3 : t175 = true
 ·subst c3
  have H1 : ((line_Check.f a0_1).bind fun t176 => (if t176 = 0 then ((some (([(⟨a0_2, a0_3⟩ : S49), (⟨a0_4, a0_5⟩ : S49), (⟨a0_6, a0_7⟩ : S49)] : List (S49)) : List (S49))).bind fun y177 => (lunisolar_Check.l0 k y177 (y177.length : Int) 0 a0_0 a0_1 a0_2 a0_3 a0_4 a0_5 a0_6 a0_7 a0_8 l0_9 l0_10)) else (some 3))) = some r := by rw [if_pos rfl] at H; exact H
  clear H
  have H := H1
  clear H1
  replace H := Option.bind_eq_some_iff.mp H
  obtain ⟨t176, A40, H⟩ := H
  replace H : (if t176 = 0 then ((some (([(⟨a0_2, a0_3⟩ : S49), (⟨a0_4, a0_5⟩ : S49), (⟨a0_6, a0_7⟩ : S49)] : List (S49)) : List (S49))).bind fun y177 => (lunisolar_Check.l0 k y177 (y177.length : Int) 0 a0_0 a0_1 a0_2 a0_3 a0_4 a0_5 a0_6 a0_7 a0_8 l0_9 l0_10)) else (some 3)) = some r := H
  have A4 := Aside0.mk A40
  clear A40
  by_cases c5 : t176 = 0
  ·rw [if_pos c5] at H
   have c5b0 : (t176 == 0) = true := beq_iff_eq.mpr c5
   have c5b1 : (t176 != 0) = false := bne_eq_false_iff_eq.mpr c5
   clear c5
   obtain ⟨y177, hy177⟩ : ∃ y_ : List (S49), y_ = (([(⟨a0_2, a0_3⟩ : S49), (⟨a0_4, a0_5⟩ : S49), (⟨a0_6, a0_7⟩ : S49)] : List (S49))) := ⟨_, rfl⟩
   replace H : (lunisolar_Check.l0 k y177 (y177.length : Int) 0 a0_0 a0_1 a0_2 a0_3 a0_4 a0_5 a0_6 a0_7 a0_8 l0_9 l0_10) = some r := by first | (rw [hy177]; with_reducible exact H) | (have H2_ := (Option.bind_some _ _).symm.trans H; rw [hy177]; with_reducible exact H2_) | (have H2_ := (Option.bind_some _ _).symm.trans H; with_reducible exact H2_) | with_reducible exact H | (rw [hy177]; exact H) | exact H
   have Ny177 := Aside0.mk hy177
   clear hy177
   have H' := Aside0.mk H
   clear H
   go_enter Try.func64, Try.ntmps64
   go_wp2_with (first | ((with_reducible refine gate_dst (N := 1) rfl ?_); refine box_event ?hg (N := 1) ?hd (cs := #[.string a0_0, .int .i64 a0_1, .int .i64 a0_2, .int .i64 a0_3, .int .i64 a0_4, .int .i64 a0_5, .int .i64 a0_6, .int .i64 a0_7, .int .i64 a0_8, .slice A0_9 l0_9.length c0_9, .slice A0_10 l0_10.length c0_10]) (t := 51) ?hr ?_; (case hd => rfl); (case hg => rfl); (case hr => first | (go_simp; done) | (go_simp; rfl)); intro gb174 hg w6 hbox hb; have n0_ := Aside0.mk (below_step (by repeat (first | exact HB.out | apply below_alloc | apply pw_below_drewN | apply below_drew1)) hb); have n1_ := Aside0.mk (hbox); have n2_ := Aside0.mk ((by rw [hg]; exact (below_size (by repeat (first | exact HB.out | apply below_alloc | apply pw_below_drewN | apply below_drew1))) : w.heap.size ≤ gb174)); have n3_ := n2_; clear HB; have HB := n0_; have BK174 := n1_; have GW174 := n2_; have GE174 := n3_; clear n0_ n1_ n2_ n3_; clear hb hbox hg; have hcz7_0 : w6.cell? ⟨gb174, 0, none⟩ = some (.string a0_0) := (blk_cell BK174.out 0).trans rfl; have hcz7_1 : w6.cell? ⟨gb174, 1, none⟩ = some (.int .i64 a0_1) := (blk_cell BK174.out 1).trans rfl; have hcz7_2 : w6.cell? ⟨gb174, 2, none⟩ = some (.int .i64 a0_2) := (blk_cell BK174.out 2).trans rfl; have hcz7_3 : w6.cell? ⟨gb174, 3, none⟩ = some (.int .i64 a0_3) := (blk_cell BK174.out 3).trans rfl; have hcz7_4 : w6.cell? ⟨gb174, 4, none⟩ = some (.int .i64 a0_4) := (blk_cell BK174.out 4).trans rfl; have hcz7_5 : w6.cell? ⟨gb174, 5, none⟩ = some (.int .i64 a0_5) := (blk_cell BK174.out 5).trans rfl; have hcz7_6 : w6.cell? ⟨gb174, 6, none⟩ = some (.int .i64 a0_6) := (blk_cell BK174.out 6).trans rfl; have hcz7_7 : w6.cell? ⟨gb174, 7, none⟩ = some (.int .i64 a0_7) := (blk_cell BK174.out 7).trans rfl; have hcz7_8 : w6.cell? ⟨gb174, 8, none⟩ = some (.int .i64 a0_8) := (blk_cell BK174.out 8).trans rfl; have hcz7_9 : w6.cell? ⟨gb174, 9, none⟩ = some (.slice A0_9 l0_9.length c0_9) := (blk_cell BK174.out 9).trans rfl; have hcz7_10 : w6.cell? ⟨gb174, 10, none⟩ = some (.slice A0_10 l0_10.length c0_10) := (blk_cell BK174.out 10).trans rfl; have hfz7_0 := blk_frozen BK174.out 0; have hfz7_1 := blk_frozen BK174.out 1; have hfz7_2 := blk_frozen BK174.out 2; have hfz7_3 := blk_frozen BK174.out 3; have hfz7_4 := blk_frozen BK174.out 4; have hfz7_5 := blk_frozen BK174.out 5; have hfz7_6 := blk_frozen BK174.out 6; have hfz7_7 := blk_frozen BK174.out 7; have hfz7_8 := blk_frozen BK174.out 8; have hfz7_9 := blk_frozen BK174.out 9; have hfz7_10 := blk_frozen BK174.out 10) | ((with_reducible refine gate_callee (f := 84) rfl ?_); refine goesL_ (some 8) rfl rfl Try.func84 (by kernel_rfl) rfl #[.string a0_0] rfl (by (try simp only [List.map_toArray, List.map_cons, List.map_nil]); first | done | rfl | (simp only [List.length_drop, List.length_take]; rfl)) ?_; (with_reducible refine (rule_Name.calls a0_0 true _ A2.out).mono ?_); rintro e w8 ⟨rfl, hb⟩; refine ⟨_, rfl, ?_⟩; have n0_ := Aside0.mk (blk_below (g := gb174) (o := .cells #[.string a0_0, .int .i64 a0_1, .int .i64 a0_2, .int .i64 a0_3, .int .i64 a0_4, .int .i64 a0_5, .int .i64 a0_6, .int .i64 a0_7, .int .i64 a0_8, .slice A0_9 l0_9.length c0_9, .slice A0_10 l0_10.length c0_10] 51 (0, 0)) (by (with_reducible repeat (first | refine blk_drewN ?_ _ | refine blk_drew ?_ | refine blk_alloc ?_ _)); exact BK174.out) hb); have n1_ := Aside0.mk (below_step (by repeat (first | (with_reducible first | exact HB.out | apply below_alloc | apply pw_below_drewN | apply below_drew1 | refine below_set ?_ GE174.out) | exact HB.out)) hb); clear BK174; clear HB; have BK174 := n0_; have HB := n1_; clear n0_ n1_; (try clear hb); (try clear hb2); (try clear hk); (try clear hi); have hcz9_0 : w8.cell? ⟨gb174, 0, none⟩ = some (.string a0_0) := (blk_cell BK174.out 0).trans rfl; have hcz9_1 : w8.cell? ⟨gb174, 1, none⟩ = some (.int .i64 a0_1) := (blk_cell BK174.out 1).trans rfl; have hcz9_2 : w8.cell? ⟨gb174, 2, none⟩ = some (.int .i64 a0_2) := (blk_cell BK174.out 2).trans rfl; have hcz9_3 : w8.cell? ⟨gb174, 3, none⟩ = some (.int .i64 a0_3) := (blk_cell BK174.out 3).trans rfl; have hcz9_4 : w8.cell? ⟨gb174, 4, none⟩ = some (.int .i64 a0_4) := (blk_cell BK174.out 4).trans rfl; have hcz9_5 : w8.cell? ⟨gb174, 5, none⟩ = some (.int .i64 a0_5) := (blk_cell BK174.out 5).trans rfl; have hcz9_6 : w8.cell? ⟨gb174, 6, none⟩ = some (.int .i64 a0_6) := (blk_cell BK174.out 6).trans rfl; have hcz9_7 : w8.cell? ⟨gb174, 7, none⟩ = some (.int .i64 a0_7) := (blk_cell BK174.out 7).trans rfl; have hcz9_8 : w8.cell? ⟨gb174, 8, none⟩ = some (.int .i64 a0_8) := (blk_cell BK174.out 8).trans rfl; have hcz9_9 : w8.cell? ⟨gb174, 9, none⟩ = some (.slice A0_9 l0_9.length c0_9) := (blk_cell BK174.out 9).trans rfl; have hcz9_10 : w8.cell? ⟨gb174, 10, none⟩ = some (.slice A0_10 l0_10.length c0_10) := (blk_cell BK174.out 10).trans rfl; have hfz9_0 := blk_frozen BK174.out 0; have hfz9_1 := blk_frozen BK174.out 1; have hfz9_2 := blk_frozen BK174.out 2; have hfz9_3 := blk_frozen BK174.out 3; have hfz9_4 := blk_frozen BK174.out 4; have hfz9_5 := blk_frozen BK174.out 5; have hfz9_6 := blk_frozen BK174.out 6; have hfz9_7 := blk_frozen BK174.out 7; have hfz9_8 := blk_frozen BK174.out 8; have hfz9_9 := blk_frozen BK174.out 9; have hfz9_10 := blk_frozen BK174.out 10) | ((with_reducible refine gate_callee (f := 48) rfl ?_); refine goesL_ (some 12) rfl rfl Try.func48 (by kernel_rfl) rfl #[.int .i64 a0_1] rfl (by (try simp only [List.map_toArray, List.map_cons, List.map_nil]); first | done | rfl | (simp only [List.length_drop, List.length_take]; rfl)) ?_; (with_reducible refine (line_Check.calls a0_1 t176 _ A4.out).mono ?_); rintro e w' ⟨rfl, ⟨nd, rfl⟩⟩; refine ⟨_, rfl, ?_⟩) | ((with_reducible refine gate_dst (N := 20) rfl ?_); refine Kd.R_lit k49 _ 49 ?hg (N := 20) ?hd (xs := ([(⟨a0_2, a0_3⟩ : S49), (⟨a0_4, a0_5⟩ : S49), (⟨a0_6, a0_7⟩ : S49)] : List (S49))) (inner := [.int .i64 a0_2, .int .i64 a0_3, .int .i64 a0_4, .int .i64 a0_5, .int .i64 a0_6, .int .i64 a0_7]) (ok := fun _ => True) (okp := fun _ => True) ?hr ?hp (fun _ hk => hk) trivial (Below.refl _ _) (Nat.le_refl _) (by simp) ?_; (case hd => rfl); (case hg => rfl); (case hr => first | (go_simp; done) | (go_simp; rfl)); (case hp => exact (Reps.c2 (show Kd.M k49 _ _ _ (⟨a0_2, a0_3⟩ : S49) [.int .i64 a0_2, .int .i64 a0_3] from (k49_mkM _ _ _ (⟨a0_2, a0_3⟩ : S49) )) (Reps.c2 (show Kd.M k49 _ _ _ (⟨a0_4, a0_5⟩ : S49) [.int .i64 a0_4, .int .i64 a0_5] from (k49_mkM _ _ _ (⟨a0_4, a0_5⟩ : S49) )) (Reps.c2 (show Kd.M k49 _ _ _ (⟨a0_6, a0_7⟩ : S49) [.int .i64 a0_6, .int .i64 a0_7] from (k49_mkM _ _ _ (⟨a0_6, a0_7⟩ : S49) )) (Reps.none _ _))))); intro v178 w10 ho11 hb hg_ hnew_; clear hg_ hnew_; (first | rw [← Ny177.out] at ho11 | (simp only [Int.reduceToNat] at ho11; rw [← Ny177.out] at ho11)); have n0_ := Aside0.mk (Kd.R_lower ho11 (below_size (by repeat (first | (with_reducible first | exact HB.out | apply below_alloc | apply pw_below_drewN | apply below_drew1 | refine below_set ?_ GE174.out) | exact HB.out)))); have n1_ := Aside0.mk (blk_below (g := gb174) (o := .cells #[.string a0_0, .int .i64 a0_1, .int .i64 a0_2, .int .i64 a0_3, .int .i64 a0_4, .int .i64 a0_5, .int .i64 a0_6, .int .i64 a0_7, .int .i64 a0_8, .slice A0_9 l0_9.length c0_9, .slice A0_10 l0_10.length c0_10] 51 (0, 0)) (by (with_reducible repeat (first | refine blk_drewN ?_ _ | refine blk_drew ?_ | refine blk_alloc ?_ _)); exact BK174.out) hb); have n2_ := Aside0.mk (below_step (by repeat (first | (with_reducible first | exact HB.out | apply below_alloc | apply pw_below_drewN | apply below_drew1 | refine below_set ?_ GE174.out) | exact HB.out)) hb); clear BK174; clear HB; have HO179 := n0_; have BK174 := n1_; have HB := n2_; clear n0_ n1_ n2_; clear hb ho11; obtain ⟨Ao12, co12, eo12⟩ := Kd.R_slice HO179.out; subst eo12))
   go_loopg [22] k (fun kq v22 w' => ∃ (x22_1 : Int), v22 = .int .i64 x22_1 ∧ Aside0 (lunisolar_Check.l0 kq y177 (y177.length : Int) x22_1 a0_0 a0_1 a0_2 a0_3 a0_4 a0_5 a0_6 a0_7 a0_8 l0_9 l0_10 = some r) ∧ Aside0 (kq ≤ k) ∧ Aside0 (Kd.R k49 49 w' w.heap.size (fun _ => True) (.slice Ao12 y177.length co12) y177) ∧ Aside0 (w'.heap[gb174]? = some (.cells #[.string a0_0, .int .i64 a0_1, .int .i64 a0_2, .int .i64 a0_3, .int .i64 a0_4, .int .i64 a0_5, .int .i64 a0_6, .int .i64 a0_7, .int .i64 a0_8, (.slice A0_9 l0_9.length c0_9), (.slice A0_10 l0_10.length c0_10)] 51 (0, 0))) ∧ Aside0 (Below w.heap.size w w'))
   case atStart => exact ⟨(0), (by first | rfl | (simp; done) | (simp [*]; done)), H', ⟨Nat.le_refl _⟩, ⟨by (with_reducible repeat (first | apply Kd.R_alloc | apply Kd.R_drewN | apply Kd.R_drew)); exact HO179.out⟩, ⟨by (with_reducible repeat (first | refine blk_drewN ?_ _ | refine blk_drew ?_ | refine blk_alloc ?_ _)); exact BK174.out⟩, ⟨by repeat (first | (with_reducible first | exact HB.out | apply below_alloc | apply pw_below_drewN | apply below_drew1 | refine below_set ?_ GE174.out) | exact HB.out)⟩⟩
   case round =>
    clear H'
    try clear c2
    try clear p2
    try clear c3
    try clear c4
    try clear c5
    try clear c5b0
    try clear c5b1
    try clear c6
    try clear c8
    try clear hcz7_0
    try clear hcz7_1
    try clear hcz7_10
    try clear hcz7_2
    try clear hcz7_3
    try clear hcz7_4
    try clear hcz7_5
    try clear hcz7_6
    try clear hcz7_7
    try clear hcz7_8
    try clear hcz7_9
    try clear hcz9_0
    try clear hcz9_1
    try clear hcz9_10
    try clear hcz9_2
    try clear hcz9_3
    try clear hcz9_4
    try clear hcz9_5
    try clear hcz9_6
    try clear hcz9_7
    try clear hcz9_8
    try clear hcz9_9
    try clear hfz7_0
    try clear hfz7_1
    try clear hfz7_10
    try clear hfz7_2
    try clear hfz7_3
    try clear hfz7_4
    try clear hfz7_5
    try clear hfz7_6
    try clear hfz7_7
    try clear hfz7_8
    try clear hfz7_9
    try clear hfz9_0
    try clear hfz9_1
    try clear hfz9_10
    try clear hfz9_2
    try clear hfz9_3
    try clear hfz9_4
    try clear hfz9_5
    try clear hfz9_6
    try clear hfz9_7
    try clear hfz9_8
    try clear hfz9_9
    obtain ⟨x22_1, rfl, HA, HK1, HO_20, BK174, HB⟩ := hrel
    cases gk with
    | zero => exact absurd HA.out (by simp [lunisolar_Check.l0])
    | succ k1 =>
     have H := HA.out
     clear HA
     simp only [lunisolar_Check.l0] at H
     by_cases c13 : x22_1 < (y177.length : Int)
     ·rw [if_pos c13] at H
      have c13b0 : decide (x22_1 < (y177.length : Int)) = true := decide_eq_true c13
      clear c13
      by_cases c14 : 0 ≤ x22_1
      ·rw [if_pos c14] at H
       have c14b0 : decide (0 ≤ x22_1) = true := decide_eq_true c14
       clear c14
       by_cases c15 : x22_1 < (y177.length : Int)
       ·rw [if_pos c15] at H
        have c15b0 : decide (x22_1 < (y177.length : Int)) = true := decide_eq_true c15
        clear c15
        replace H := Option.bind_eq_some_iff.mp H
        obtain ⟨t182, A160, H⟩ := H
        replace H : (if t182 = 0 then (lunisolar_Check.l0 k1 y177 (y177.length : Int) (wrap64 (x22_1 + 1)) a0_0 a0_1 a0_2 a0_3 a0_4 a0_5 a0_6 a0_7 a0_8 l0_9 l0_10) else (some 8)) = some r := H
        have A16 := Aside0.mk A160
        clear A160
        by_cases c17 : t182 = 0
        ·rw [if_pos c17] at H
         have c17b0 : (t182 == 0) = true := beq_iff_eq.mpr c17
         have c17b1 : (t182 != 0) = false := bne_eq_false_iff_eq.mpr c17
         clear c17
         have H' := Aside0.mk H
         clear H
         have p180 : 0 ≤ (x22_1 : Int) := of_decide_eq_true (by first | (with_reducible assumption) | assumption)
         have q180 : x22_1 < (y177.length : Int) := of_decide_eq_true (by first | (with_reducible assumption) | assumption)
         obtain ⟨ad180, e180, hx180_0, hx180_1⟩ := at_T49 (Kd.R_reads' HO_20.out).2.2 x22_1 p180 q180
         cases e180
         replace p180 := eq_true p180
         replace q180 := eq_true q180
         go_wp2_with (first | ((with_reducible refine gate_dst (N := 4) rfl ?_); refine box_event ?hg (N := 4) ?hd (cs := #[.int .i64 0, .int .i64 0]) (t := 49) ?hr ?_; (case hd => rfl); (case hg => rfl); (case hr => first | (go_simp; done) | (go_simp; rfl)); intro gb181 hg w18 hbox hb; have n0_ := Aside0.mk (Kd.R_below (Kd.R_elderB (by (with_reducible repeat (first | apply Kd.R_alloc | apply Kd.R_drewN | apply Kd.R_drew)); exact HO_20.out) gb181 (Nat.le_of_eq hg.symm)) hb); have n1_ := Aside0.mk (blk_below (g := gb174) (o := .cells #[.string a0_0, .int .i64 a0_1, .int .i64 a0_2, .int .i64 a0_3, .int .i64 a0_4, .int .i64 a0_5, .int .i64 a0_6, .int .i64 a0_7, .int .i64 a0_8, .slice A0_9 l0_9.length c0_9, .slice A0_10 l0_10.length c0_10] 51 (0, 0)) (by (with_reducible repeat (first | refine blk_drewN ?_ _ | refine blk_drew ?_ | refine blk_alloc ?_ _)); exact BK174.out) hb); have n2_ := Aside0.mk (below_step (by repeat (first | (with_reducible first | exact HB.out | apply below_alloc | apply pw_below_drewN | apply below_drew1 | refine below_set ?_ GE174.out) | exact HB.out)) hb); have n3_ := Aside0.mk (hbox); have n4_ := Aside0.mk ((by rw [hg]; exact (below_size (by repeat (first | (with_reducible first | exact HB.out | apply below_alloc | apply pw_below_drewN | apply below_drew1 | refine below_set ?_ GE174.out) | exact HB.out))) : w.heap.size ≤ gb181)); have n5_ := n4_; have n6_ := Aside0.mk ((by rw [hg]; exact Nat.ne_of_lt (blk_lt (g := gb174) (o := .cells #[.string a0_0, .int .i64 a0_1, .int .i64 a0_2, .int .i64 a0_3, .int .i64 a0_4, .int .i64 a0_5, .int .i64 a0_6, .int .i64 a0_7, .int .i64 a0_8, .slice A0_9 l0_9.length c0_9, .slice A0_10 l0_10.length c0_10] 51 (0, 0)) (by (with_reducible repeat (first | refine blk_drewN ?_ _ | refine blk_drew ?_ | refine blk_alloc ?_ _)); exact BK174.out)) : gb174 ≠ gb181)); have n7_ := Aside0.mk n6_.out.symm; clear HO_20; clear BK174; clear HB; have HO_20 := n0_; have BK174 := n1_; have HB := n2_; have BK181 := n3_; have GW181 := n4_; have GE181 := n5_; have NB174_181 := n6_; have NB181_174 := n7_; clear n0_ n1_ n2_ n3_ n4_ n5_ n6_ n7_; clear hb hbox hg; have hnb19 := NB181_174.out; have hnc19 := NB174_181.out; have hcz20_0 : w18.cell? ⟨gb181, 0, none⟩ = some (.int .i64 0) := (blk_cell BK181.out 0).trans rfl; have hcz20_1 : w18.cell? ⟨gb181, 1, none⟩ = some (.int .i64 0) := (blk_cell BK181.out 1).trans rfl; have hfz20_0 := blk_frozen BK181.out 0; have hfz20_1 := blk_frozen BK181.out 1) | ((with_reducible refine gate_callee (f := 93) rfl ?_); refine goesL_ (some 27) rfl rfl Try.func93 (by kernel_rfl) rfl #[.agg #[.int .i64 ((rd_T49 y177 x22_1).f0), .int .i64 ((rd_T49 y177 x22_1).f1)]] rfl (by (try simp only [List.map_toArray, List.map_cons, List.map_nil]); first | done | rfl | (simp only [List.length_drop, List.length_take]; rfl)) ?_; (with_reducible refine (frac_Check.calls k1 ((rd_T49 y177 x22_1).f0) ((rd_T49 y177 x22_1).f1) t182 _ A16.out).mono ?_); rintro e w21 ⟨rfl, hb⟩; refine ⟨_, rfl, ?_⟩; have n0_ := Aside0.mk (Kd.R_below (by (with_reducible repeat (first | apply Kd.R_alloc | apply Kd.R_drewN | apply Kd.R_drew)); exact (Kd.R_mono (Kd.R_far (p := ⟨gb181, 1, none⟩) (Kd.R_far (p := ⟨gb181, 0, none⟩) (Kd.R_mono HO_20.out (fun k_ hk => (⟨hk, hk.2⟩ : _ ∧ k_ ≠ gb181))) (fun _ hk => hk.2) (.int .i64 ((rd_T49 y177 x22_1).f0))) (fun _ hk => hk.2) (.int .i64 ((rd_T49 y177 x22_1).f1))) (fun _ h_ => h_.1))) hb); have n1_ := Aside0.mk (blk_below (g := gb174) (o := .cells #[.string a0_0, .int .i64 a0_1, .int .i64 a0_2, .int .i64 a0_3, .int .i64 a0_4, .int .i64 a0_5, .int .i64 a0_6, .int .i64 a0_7, .int .i64 a0_8, .slice A0_9 l0_9.length c0_9, .slice A0_10 l0_10.length c0_10] 51 (0, 0)) (by (with_reducible repeat (first | refine blk_drewN ?_ _ | refine blk_drew ?_ | refine blk_alloc ?_ _)); refine blk_far ?_ NB174_181.out _; (with_reducible repeat (first | refine blk_drewN ?_ _ | refine blk_drew ?_ | refine blk_alloc ?_ _)); refine blk_far ?_ NB174_181.out _; (with_reducible repeat (first | refine blk_drewN ?_ _ | refine blk_drew ?_ | refine blk_alloc ?_ _)); exact BK174.out) hb); have n2_ := Aside0.mk (blk_below (g := gb181) (o := .cells #[.int .i64 ((rd_T49 y177 x22_1).f0), .int .i64 ((rd_T49 y177 x22_1).f1)] 49 (0, 0)) (by (with_reducible repeat (first | refine blk_drewN ?_ _ | refine blk_drew ?_ | refine blk_alloc ?_ _)); refine blk_put (cs := #[.int .i64 ((rd_T49 y177 x22_1).f0), .int .i64 0]) ?_ 1 _ rfl; (with_reducible repeat (first | refine blk_drewN ?_ _ | refine blk_drew ?_ | refine blk_alloc ?_ _)); refine blk_put (cs := #[.int .i64 0, .int .i64 0]) ?_ 0 _ rfl; (with_reducible repeat (first | refine blk_drewN ?_ _ | refine blk_drew ?_ | refine blk_alloc ?_ _)); exact BK181.out) hb); have n3_ := Aside0.mk (below_step (by repeat (first | (with_reducible first | exact HB.out | apply below_alloc | apply pw_below_drewN | apply below_drew1 | refine below_set ?_ GE174.out | refine below_set ?_ GE181.out) | exact HB.out)) hb); clear HO_20; clear BK174; clear BK181; clear HB; have HO_20 := n0_; have BK174 := n1_; have BK181 := n2_; have HB := n3_; clear n0_ n1_ n2_ n3_; (try clear hb); (try clear hb2); (try clear hk); (try clear hi)))
         go_roundg k1
         case measure => have := HK1.out; omega
         case rel => exact ⟨(wrap64 (x22_1 + 1)), (by first | rfl | (simp; done) | (simp [*]; done)), H', ⟨by have := HK1.out; omega⟩, ⟨by (with_reducible repeat (first | apply Kd.R_alloc | apply Kd.R_drewN | apply Kd.R_drew)); exact Kd.R_mono HO_20.out (fun _ hk => trivial)⟩, ⟨by (with_reducible repeat (first | refine blk_drewN ?_ _ | refine blk_drew ?_ | refine blk_alloc ?_ _)); exact BK174.out⟩, ⟨by repeat (first | (with_reducible first | exact HB.out | apply below_alloc | apply pw_below_drewN | apply below_drew1 | refine below_set ?_ GE174.out | refine below_set ?_ GE181.out) | exact HB.out)⟩⟩
        ·rw [if_neg c17] at H
         have c17b0 : (t182 == 0) = false := beq_eq_false_iff_ne.mpr c17
         have c17b1 : (t182 != 0) = true := bne_iff_ne.mpr c17
         obtain rfl := Option.some.inj H
         have p180 : 0 ≤ (x22_1 : Int) := of_decide_eq_true (by first | (with_reducible assumption) | assumption)
         have q180 : x22_1 < (y177.length : Int) := of_decide_eq_true (by first | (with_reducible assumption) | assumption)
         obtain ⟨ad180, e180, hx180_0, hx180_1⟩ := at_T49 (Kd.R_reads' HO_20.out).2.2 x22_1 p180 q180
         cases e180
         replace p180 := eq_true p180
         replace q180 := eq_true q180
         go_wp2_with (first | ((with_reducible refine gate_dst (N := 4) rfl ?_); refine box_event ?hg (N := 4) ?hd (cs := #[.int .i64 0, .int .i64 0]) (t := 49) ?hr ?_; (case hd => rfl); (case hg => rfl); (case hr => first | (go_simp; done) | (go_simp; rfl)); intro gb181 hg w22 hbox hb; have n0_ := Aside0.mk (Kd.R_below (Kd.R_elderB (by (with_reducible repeat (first | apply Kd.R_alloc | apply Kd.R_drewN | apply Kd.R_drew)); exact HO_20.out) gb181 (Nat.le_of_eq hg.symm)) hb); have n1_ := Aside0.mk (blk_below (g := gb174) (o := .cells #[.string a0_0, .int .i64 a0_1, .int .i64 a0_2, .int .i64 a0_3, .int .i64 a0_4, .int .i64 a0_5, .int .i64 a0_6, .int .i64 a0_7, .int .i64 a0_8, .slice A0_9 l0_9.length c0_9, .slice A0_10 l0_10.length c0_10] 51 (0, 0)) (by (with_reducible repeat (first | refine blk_drewN ?_ _ | refine blk_drew ?_ | refine blk_alloc ?_ _)); exact BK174.out) hb); have n2_ := Aside0.mk (below_step (by repeat (first | (with_reducible first | exact HB.out | apply below_alloc | apply pw_below_drewN | apply below_drew1 | refine below_set ?_ GE174.out) | exact HB.out)) hb); have n3_ := Aside0.mk (hbox); have n4_ := Aside0.mk ((by rw [hg]; exact (below_size (by repeat (first | (with_reducible first | exact HB.out | apply below_alloc | apply pw_below_drewN | apply below_drew1 | refine below_set ?_ GE174.out) | exact HB.out))) : w.heap.size ≤ gb181)); have n5_ := n4_; have n6_ := Aside0.mk ((by rw [hg]; exact Nat.ne_of_lt (blk_lt (g := gb174) (o := .cells #[.string a0_0, .int .i64 a0_1, .int .i64 a0_2, .int .i64 a0_3, .int .i64 a0_4, .int .i64 a0_5, .int .i64 a0_6, .int .i64 a0_7, .int .i64 a0_8, .slice A0_9 l0_9.length c0_9, .slice A0_10 l0_10.length c0_10] 51 (0, 0)) (by (with_reducible repeat (first | refine blk_drewN ?_ _ | refine blk_drew ?_ | refine blk_alloc ?_ _)); exact BK174.out)) : gb174 ≠ gb181)); have n7_ := Aside0.mk n6_.out.symm; clear HO_20; clear BK174; clear HB; have HO_20 := n0_; have BK174 := n1_; have HB := n2_; have BK181 := n3_; have GW181 := n4_; have GE181 := n5_; have NB174_181 := n6_; have NB181_174 := n7_; clear n0_ n1_ n2_ n3_ n4_ n5_ n6_ n7_; clear hb hbox hg; have hnb23 := NB181_174.out; have hnc23 := NB174_181.out; have hcz24_0 : w22.cell? ⟨gb181, 0, none⟩ = some (.int .i64 0) := (blk_cell BK181.out 0).trans rfl; have hcz24_1 : w22.cell? ⟨gb181, 1, none⟩ = some (.int .i64 0) := (blk_cell BK181.out 1).trans rfl; have hfz24_0 := blk_frozen BK181.out 0; have hfz24_1 := blk_frozen BK181.out 1) | ((with_reducible refine gate_callee (f := 93) rfl ?_); refine goesL_ (some 27) rfl rfl Try.func93 (by kernel_rfl) rfl #[.agg #[.int .i64 ((rd_T49 y177 x22_1).f0), .int .i64 ((rd_T49 y177 x22_1).f1)]] rfl (by (try simp only [List.map_toArray, List.map_cons, List.map_nil]); first | done | rfl | (simp only [List.length_drop, List.length_take]; rfl)) ?_; (with_reducible refine (frac_Check.calls k1 ((rd_T49 y177 x22_1).f0) ((rd_T49 y177 x22_1).f1) t182 _ A16.out).mono ?_); rintro e w25 ⟨rfl, hb⟩; refine ⟨_, rfl, ?_⟩; have n0_ := Aside0.mk (Kd.R_below (by (with_reducible repeat (first | apply Kd.R_alloc | apply Kd.R_drewN | apply Kd.R_drew)); exact (Kd.R_mono (Kd.R_far (p := ⟨gb181, 1, none⟩) (Kd.R_far (p := ⟨gb181, 0, none⟩) (Kd.R_mono HO_20.out (fun k_ hk => (⟨hk, hk.2⟩ : _ ∧ k_ ≠ gb181))) (fun _ hk => hk.2) (.int .i64 ((rd_T49 y177 x22_1).f0))) (fun _ hk => hk.2) (.int .i64 ((rd_T49 y177 x22_1).f1))) (fun _ h_ => h_.1))) hb); have n1_ := Aside0.mk (blk_below (g := gb174) (o := .cells #[.string a0_0, .int .i64 a0_1, .int .i64 a0_2, .int .i64 a0_3, .int .i64 a0_4, .int .i64 a0_5, .int .i64 a0_6, .int .i64 a0_7, .int .i64 a0_8, .slice A0_9 l0_9.length c0_9, .slice A0_10 l0_10.length c0_10] 51 (0, 0)) (by (with_reducible repeat (first | refine blk_drewN ?_ _ | refine blk_drew ?_ | refine blk_alloc ?_ _)); refine blk_far ?_ NB174_181.out _; (with_reducible repeat (first | refine blk_drewN ?_ _ | refine blk_drew ?_ | refine blk_alloc ?_ _)); refine blk_far ?_ NB174_181.out _; (with_reducible repeat (first | refine blk_drewN ?_ _ | refine blk_drew ?_ | refine blk_alloc ?_ _)); exact BK174.out) hb); have n2_ := Aside0.mk (blk_below (g := gb181) (o := .cells #[.int .i64 ((rd_T49 y177 x22_1).f0), .int .i64 ((rd_T49 y177 x22_1).f1)] 49 (0, 0)) (by (with_reducible repeat (first | refine blk_drewN ?_ _ | refine blk_drew ?_ | refine blk_alloc ?_ _)); refine blk_put (cs := #[.int .i64 ((rd_T49 y177 x22_1).f0), .int .i64 0]) ?_ 1 _ rfl; (with_reducible repeat (first | refine blk_drewN ?_ _ | refine blk_drew ?_ | refine blk_alloc ?_ _)); refine blk_put (cs := #[.int .i64 0, .int .i64 0]) ?_ 0 _ rfl; (with_reducible repeat (first | refine blk_drewN ?_ _ | refine blk_drew ?_ | refine blk_alloc ?_ _)); exact BK181.out) hb); have n3_ := Aside0.mk (below_step (by repeat (first | (with_reducible first | exact HB.out | apply below_alloc | apply pw_below_drewN | apply below_drew1 | refine below_set ?_ GE174.out | refine below_set ?_ GE181.out) | exact HB.out)) hb); clear HO_20; clear BK174; clear BK181; clear HB; have HO_20 := n0_; have BK174 := n1_; have BK181 := n2_; have HB := n3_; clear n0_ n1_ n2_ n3_; (try clear hb); (try clear hb2); (try clear hk); (try clear hi)))
         go_ret
         exact ⟨by first | rfl | (simp [errW_none, errW_some] <;> rfl) | (simp [*, errW_none, errW_some] <;> rfl), by repeat (first | (with_reducible first | exact HB.out | apply below_alloc | apply pw_below_drewN | apply below_drew1 | refine below_set ?_ GE174.out | refine below_set ?_ GE181.out) | exact HB.out)⟩
       ·rw [if_neg c15] at H
        exact absurd H (by simp)
      ·rw [if_neg c14] at H
       exact absurd H (by simp)
     ·rw [if_neg c13] at H
      have c13b0 : decide (x22_1 < (y177.length : Int)) = false := decide_eq_false c13
      clear c13
      have HC26 := Aside0.mk H
      clear H
      go_upto_region 11 with (fail)
      go_cut [77] (fun v77 wc => ∃ (kq : Nat) (x77_25 : Bool), v77 = .bool x77_25 ∧ Aside0 (lunisolar_Check.j1 kq x77_25 a0_0 a0_1 a0_2 a0_3 a0_4 a0_5 a0_6 a0_7 a0_8 l0_9 l0_10 = some r) ∧ Aside0 (kq ≤ k1) ∧ Aside0 (wc.heap[gb174]? = some (.cells #[.string a0_0, .int .i64 a0_1, .int .i64 a0_2, .int .i64 a0_3, .int .i64 a0_4, .int .i64 a0_5, .int .i64 a0_6, .int .i64 a0_7, .int .i64 a0_8, (.slice A0_9 l0_9.length c0_9), (.slice A0_10 l0_10.length c0_10)] 51 (0, 0))) ∧ Aside0 (Below w.heap.size w wc))
      case first =>
       have H := HC26.out
       clear HC26
       by_cases c27 : a0_2 < 0
       ·rw [if_pos c27] at H
        have c27b0 : decide (a0_2 < 0) = true := decide_eq_true c27
        clear c27
        (first | rw [c27b0] | (simp only [i64_w, i32_w]; rw [c27b0]) | skip)
        have H' := Aside0.mk H
        clear H
        have hcz28_0 : wr.cell? ⟨gb174, 0, none⟩ = some (.string a0_0) := (blk_cell BK174.out 0).trans rfl
        have hcz28_1 : wr.cell? ⟨gb174, 1, none⟩ = some (.int .i64 a0_1) := (blk_cell BK174.out 1).trans rfl
        have hcz28_2 : wr.cell? ⟨gb174, 2, none⟩ = some (.int .i64 a0_2) := (blk_cell BK174.out 2).trans rfl
        have hcz28_3 : wr.cell? ⟨gb174, 3, none⟩ = some (.int .i64 a0_3) := (blk_cell BK174.out 3).trans rfl
        have hcz28_4 : wr.cell? ⟨gb174, 4, none⟩ = some (.int .i64 a0_4) := (blk_cell BK174.out 4).trans rfl
        have hcz28_5 : wr.cell? ⟨gb174, 5, none⟩ = some (.int .i64 a0_5) := (blk_cell BK174.out 5).trans rfl
        have hcz28_6 : wr.cell? ⟨gb174, 6, none⟩ = some (.int .i64 a0_6) := (blk_cell BK174.out 6).trans rfl
        have hcz28_7 : wr.cell? ⟨gb174, 7, none⟩ = some (.int .i64 a0_7) := (blk_cell BK174.out 7).trans rfl
        have hcz28_8 : wr.cell? ⟨gb174, 8, none⟩ = some (.int .i64 a0_8) := (blk_cell BK174.out 8).trans rfl
        have hcz28_9 : wr.cell? ⟨gb174, 9, none⟩ = some (.slice A0_9 l0_9.length c0_9) := (blk_cell BK174.out 9).trans rfl
        have hcz28_10 : wr.cell? ⟨gb174, 10, none⟩ = some (.slice A0_10 l0_10.length c0_10) := (blk_cell BK174.out 10).trans rfl
        have hfz28_0 := blk_frozen BK174.out 0
        have hfz28_1 := blk_frozen BK174.out 1
        have hfz28_2 := blk_frozen BK174.out 2
        have hfz28_3 := blk_frozen BK174.out 3
        have hfz28_4 := blk_frozen BK174.out 4
        have hfz28_5 := blk_frozen BK174.out 5
        have hfz28_6 := blk_frozen BK174.out 6
        have hfz28_7 := blk_frozen BK174.out 7
        have hfz28_8 := blk_frozen BK174.out 8
        have hfz28_9 := blk_frozen BK174.out 9
        have hfz28_10 := blk_frozen BK174.out 10
        go_wp2
        go_meet
        case rel => exact ⟨_, (true), (by first | rfl | (simp; done) | (simp [*]; done)), H', ⟨by have := HK1.out; first | omega | exact Nat.le_refl _⟩, ⟨by (with_reducible repeat (first | refine blk_drewN ?_ _ | refine blk_drew ?_ | refine blk_alloc ?_ _)); exact BK174.out⟩, ⟨by repeat (first | (with_reducible first | exact HB.out | apply below_alloc | apply pw_below_drewN | apply below_drew1 | refine below_set ?_ GE174.out) | exact HB.out)⟩⟩
       ·rw [if_neg c27] at H
        have c27b0 : decide (a0_2 < 0) = false := decide_eq_false c27
        clear c27
        (first | rw [c27b0] | (simp only [i64_w, i32_w]; rw [c27b0]) | skip)
        by_cases c29 : a0_2 ≥ a0_3
        ·rw [if_pos c29] at H
         have c29b0 : decide (a0_3 ≤ a0_2) = true := decide_eq_true c29
         clear c29
         have H' := Aside0.mk H
         clear H
         have hcz30_0 : wr.cell? ⟨gb174, 0, none⟩ = some (.string a0_0) := (blk_cell BK174.out 0).trans rfl
         have hcz30_1 : wr.cell? ⟨gb174, 1, none⟩ = some (.int .i64 a0_1) := (blk_cell BK174.out 1).trans rfl
         have hcz30_2 : wr.cell? ⟨gb174, 2, none⟩ = some (.int .i64 a0_2) := (blk_cell BK174.out 2).trans rfl
         have hcz30_3 : wr.cell? ⟨gb174, 3, none⟩ = some (.int .i64 a0_3) := (blk_cell BK174.out 3).trans rfl
         have hcz30_4 : wr.cell? ⟨gb174, 4, none⟩ = some (.int .i64 a0_4) := (blk_cell BK174.out 4).trans rfl
         have hcz30_5 : wr.cell? ⟨gb174, 5, none⟩ = some (.int .i64 a0_5) := (blk_cell BK174.out 5).trans rfl
         have hcz30_6 : wr.cell? ⟨gb174, 6, none⟩ = some (.int .i64 a0_6) := (blk_cell BK174.out 6).trans rfl
         have hcz30_7 : wr.cell? ⟨gb174, 7, none⟩ = some (.int .i64 a0_7) := (blk_cell BK174.out 7).trans rfl
         have hcz30_8 : wr.cell? ⟨gb174, 8, none⟩ = some (.int .i64 a0_8) := (blk_cell BK174.out 8).trans rfl
         have hcz30_9 : wr.cell? ⟨gb174, 9, none⟩ = some (.slice A0_9 l0_9.length c0_9) := (blk_cell BK174.out 9).trans rfl
         have hcz30_10 : wr.cell? ⟨gb174, 10, none⟩ = some (.slice A0_10 l0_10.length c0_10) := (blk_cell BK174.out 10).trans rfl
         have hfz30_0 := blk_frozen BK174.out 0
         have hfz30_1 := blk_frozen BK174.out 1
         have hfz30_2 := blk_frozen BK174.out 2
         have hfz30_3 := blk_frozen BK174.out 3
         have hfz30_4 := blk_frozen BK174.out 4
         have hfz30_5 := blk_frozen BK174.out 5
         have hfz30_6 := blk_frozen BK174.out 6
         have hfz30_7 := blk_frozen BK174.out 7
         have hfz30_8 := blk_frozen BK174.out 8
         have hfz30_9 := blk_frozen BK174.out 9
         have hfz30_10 := blk_frozen BK174.out 10
         go_wp2
         go_meet
         case rel => exact ⟨_, (true), (by first | rfl | (simp; done) | (simp [*]; done)), H', ⟨by have := HK1.out; first | omega | exact Nat.le_refl _⟩, ⟨by (with_reducible repeat (first | refine blk_drewN ?_ _ | refine blk_drew ?_ | refine blk_alloc ?_ _)); exact BK174.out⟩, ⟨by repeat (first | (with_reducible first | exact HB.out | apply below_alloc | apply pw_below_drewN | apply below_drew1 | refine below_set ?_ GE174.out) | exact HB.out)⟩⟩
        ·rw [if_neg c29] at H
         have c29b0 : decide (a0_3 ≤ a0_2) = false := decide_eq_false c29
         clear c29
         by_cases c31 : a0_4 < (wrap64 (29 * a0_5))
         ·rw [if_pos c31] at H
          have c31b0 : decide (a0_4 < (wrap64 (29 * a0_5))) = true := decide_eq_true c31
          clear c31
          have H' := Aside0.mk H
          clear H
          have hcz32_0 : wr.cell? ⟨gb174, 0, none⟩ = some (.string a0_0) := (blk_cell BK174.out 0).trans rfl
          have hcz32_1 : wr.cell? ⟨gb174, 1, none⟩ = some (.int .i64 a0_1) := (blk_cell BK174.out 1).trans rfl
          have hcz32_2 : wr.cell? ⟨gb174, 2, none⟩ = some (.int .i64 a0_2) := (blk_cell BK174.out 2).trans rfl
          have hcz32_3 : wr.cell? ⟨gb174, 3, none⟩ = some (.int .i64 a0_3) := (blk_cell BK174.out 3).trans rfl
          have hcz32_4 : wr.cell? ⟨gb174, 4, none⟩ = some (.int .i64 a0_4) := (blk_cell BK174.out 4).trans rfl
          have hcz32_5 : wr.cell? ⟨gb174, 5, none⟩ = some (.int .i64 a0_5) := (blk_cell BK174.out 5).trans rfl
          have hcz32_6 : wr.cell? ⟨gb174, 6, none⟩ = some (.int .i64 a0_6) := (blk_cell BK174.out 6).trans rfl
          have hcz32_7 : wr.cell? ⟨gb174, 7, none⟩ = some (.int .i64 a0_7) := (blk_cell BK174.out 7).trans rfl
          have hcz32_8 : wr.cell? ⟨gb174, 8, none⟩ = some (.int .i64 a0_8) := (blk_cell BK174.out 8).trans rfl
          have hcz32_9 : wr.cell? ⟨gb174, 9, none⟩ = some (.slice A0_9 l0_9.length c0_9) := (blk_cell BK174.out 9).trans rfl
          have hcz32_10 : wr.cell? ⟨gb174, 10, none⟩ = some (.slice A0_10 l0_10.length c0_10) := (blk_cell BK174.out 10).trans rfl
          have hfz32_0 := blk_frozen BK174.out 0
          have hfz32_1 := blk_frozen BK174.out 1
          have hfz32_2 := blk_frozen BK174.out 2
          have hfz32_3 := blk_frozen BK174.out 3
          have hfz32_4 := blk_frozen BK174.out 4
          have hfz32_5 := blk_frozen BK174.out 5
          have hfz32_6 := blk_frozen BK174.out 6
          have hfz32_7 := blk_frozen BK174.out 7
          have hfz32_8 := blk_frozen BK174.out 8
          have hfz32_9 := blk_frozen BK174.out 9
          have hfz32_10 := blk_frozen BK174.out 10
          go_wp2
          go_meet
          case rel => exact ⟨_, (true), (by first | rfl | (simp; done) | (simp [*]; done)), H', ⟨by have := HK1.out; first | omega | exact Nat.le_refl _⟩, ⟨by (with_reducible repeat (first | refine blk_drewN ?_ _ | refine blk_drew ?_ | refine blk_alloc ?_ _)); exact BK174.out⟩, ⟨by repeat (first | (with_reducible first | exact HB.out | apply below_alloc | apply pw_below_drewN | apply below_drew1 | refine below_set ?_ GE174.out) | exact HB.out)⟩⟩
         ·rw [if_neg c31] at H
          have c31b0 : decide (a0_4 < (wrap64 (29 * a0_5))) = false := decide_eq_false c31
          clear c31
          by_cases c33 : a0_4 > (wrap64 (30 * a0_5))
          ·rw [if_pos c33] at H
           have c33b0 : decide ((wrap64 (30 * a0_5)) < a0_4) = true := decide_eq_true c33
           clear c33
           have H' := Aside0.mk H
           clear H
           have hcz34_0 : wr.cell? ⟨gb174, 0, none⟩ = some (.string a0_0) := (blk_cell BK174.out 0).trans rfl
           have hcz34_1 : wr.cell? ⟨gb174, 1, none⟩ = some (.int .i64 a0_1) := (blk_cell BK174.out 1).trans rfl
           have hcz34_2 : wr.cell? ⟨gb174, 2, none⟩ = some (.int .i64 a0_2) := (blk_cell BK174.out 2).trans rfl
           have hcz34_3 : wr.cell? ⟨gb174, 3, none⟩ = some (.int .i64 a0_3) := (blk_cell BK174.out 3).trans rfl
           have hcz34_4 : wr.cell? ⟨gb174, 4, none⟩ = some (.int .i64 a0_4) := (blk_cell BK174.out 4).trans rfl
           have hcz34_5 : wr.cell? ⟨gb174, 5, none⟩ = some (.int .i64 a0_5) := (blk_cell BK174.out 5).trans rfl
           have hcz34_6 : wr.cell? ⟨gb174, 6, none⟩ = some (.int .i64 a0_6) := (blk_cell BK174.out 6).trans rfl
           have hcz34_7 : wr.cell? ⟨gb174, 7, none⟩ = some (.int .i64 a0_7) := (blk_cell BK174.out 7).trans rfl
           have hcz34_8 : wr.cell? ⟨gb174, 8, none⟩ = some (.int .i64 a0_8) := (blk_cell BK174.out 8).trans rfl
           have hcz34_9 : wr.cell? ⟨gb174, 9, none⟩ = some (.slice A0_9 l0_9.length c0_9) := (blk_cell BK174.out 9).trans rfl
           have hcz34_10 : wr.cell? ⟨gb174, 10, none⟩ = some (.slice A0_10 l0_10.length c0_10) := (blk_cell BK174.out 10).trans rfl
           have hfz34_0 := blk_frozen BK174.out 0
           have hfz34_1 := blk_frozen BK174.out 1
           have hfz34_2 := blk_frozen BK174.out 2
           have hfz34_3 := blk_frozen BK174.out 3
           have hfz34_4 := blk_frozen BK174.out 4
           have hfz34_5 := blk_frozen BK174.out 5
           have hfz34_6 := blk_frozen BK174.out 6
           have hfz34_7 := blk_frozen BK174.out 7
           have hfz34_8 := blk_frozen BK174.out 8
           have hfz34_9 := blk_frozen BK174.out 9
           have hfz34_10 := blk_frozen BK174.out 10
           go_wp2
           go_meet
           case rel => exact ⟨_, (true), (by first | rfl | (simp; done) | (simp [*]; done)), H', ⟨by have := HK1.out; first | omega | exact Nat.le_refl _⟩, ⟨by (with_reducible repeat (first | refine blk_drewN ?_ _ | refine blk_drew ?_ | refine blk_alloc ?_ _)); exact BK174.out⟩, ⟨by repeat (first | (with_reducible first | exact HB.out | apply below_alloc | apply pw_below_drewN | apply below_drew1 | refine below_set ?_ GE174.out) | exact HB.out)⟩⟩
          ·rw [if_neg c33] at H
           have c33b0 : decide ((wrap64 (30 * a0_5)) < a0_4) = false := decide_eq_false c33
           clear c33
           by_cases c35 : a0_6 < 1
           ·rw [if_pos c35] at H
            have c35b0 : decide (a0_6 < 1) = true := decide_eq_true c35
            clear c35
            have H' := Aside0.mk H
            clear H
            have hcz36_0 : wr.cell? ⟨gb174, 0, none⟩ = some (.string a0_0) := (blk_cell BK174.out 0).trans rfl
            have hcz36_1 : wr.cell? ⟨gb174, 1, none⟩ = some (.int .i64 a0_1) := (blk_cell BK174.out 1).trans rfl
            have hcz36_2 : wr.cell? ⟨gb174, 2, none⟩ = some (.int .i64 a0_2) := (blk_cell BK174.out 2).trans rfl
            have hcz36_3 : wr.cell? ⟨gb174, 3, none⟩ = some (.int .i64 a0_3) := (blk_cell BK174.out 3).trans rfl
            have hcz36_4 : wr.cell? ⟨gb174, 4, none⟩ = some (.int .i64 a0_4) := (blk_cell BK174.out 4).trans rfl
            have hcz36_5 : wr.cell? ⟨gb174, 5, none⟩ = some (.int .i64 a0_5) := (blk_cell BK174.out 5).trans rfl
            have hcz36_6 : wr.cell? ⟨gb174, 6, none⟩ = some (.int .i64 a0_6) := (blk_cell BK174.out 6).trans rfl
            have hcz36_7 : wr.cell? ⟨gb174, 7, none⟩ = some (.int .i64 a0_7) := (blk_cell BK174.out 7).trans rfl
            have hcz36_8 : wr.cell? ⟨gb174, 8, none⟩ = some (.int .i64 a0_8) := (blk_cell BK174.out 8).trans rfl
            have hcz36_9 : wr.cell? ⟨gb174, 9, none⟩ = some (.slice A0_9 l0_9.length c0_9) := (blk_cell BK174.out 9).trans rfl
            have hcz36_10 : wr.cell? ⟨gb174, 10, none⟩ = some (.slice A0_10 l0_10.length c0_10) := (blk_cell BK174.out 10).trans rfl
            have hfz36_0 := blk_frozen BK174.out 0
            have hfz36_1 := blk_frozen BK174.out 1
            have hfz36_2 := blk_frozen BK174.out 2
            have hfz36_3 := blk_frozen BK174.out 3
            have hfz36_4 := blk_frozen BK174.out 4
            have hfz36_5 := blk_frozen BK174.out 5
            have hfz36_6 := blk_frozen BK174.out 6
            have hfz36_7 := blk_frozen BK174.out 7
            have hfz36_8 := blk_frozen BK174.out 8
            have hfz36_9 := blk_frozen BK174.out 9
            have hfz36_10 := blk_frozen BK174.out 10
            go_wp2
            go_meet
            case rel => exact ⟨_, (true), (by first | rfl | (simp; done) | (simp [*]; done)), H', ⟨by have := HK1.out; first | omega | exact Nat.le_refl _⟩, ⟨by (with_reducible repeat (first | refine blk_drewN ?_ _ | refine blk_drew ?_ | refine blk_alloc ?_ _)); exact BK174.out⟩, ⟨by repeat (first | (with_reducible first | exact HB.out | apply below_alloc | apply pw_below_drewN | apply below_drew1 | refine below_set ?_ GE174.out) | exact HB.out)⟩⟩
           ·rw [if_neg c35] at H
            have c35b0 : decide (a0_6 < 1) = false := decide_eq_false c35
            clear c35
            have H' := Aside0.mk H
            clear H
            have hcz37_0 : wr.cell? ⟨gb174, 0, none⟩ = some (.string a0_0) := (blk_cell BK174.out 0).trans rfl
            have hcz37_1 : wr.cell? ⟨gb174, 1, none⟩ = some (.int .i64 a0_1) := (blk_cell BK174.out 1).trans rfl
            have hcz37_2 : wr.cell? ⟨gb174, 2, none⟩ = some (.int .i64 a0_2) := (blk_cell BK174.out 2).trans rfl
            have hcz37_3 : wr.cell? ⟨gb174, 3, none⟩ = some (.int .i64 a0_3) := (blk_cell BK174.out 3).trans rfl
            have hcz37_4 : wr.cell? ⟨gb174, 4, none⟩ = some (.int .i64 a0_4) := (blk_cell BK174.out 4).trans rfl
            have hcz37_5 : wr.cell? ⟨gb174, 5, none⟩ = some (.int .i64 a0_5) := (blk_cell BK174.out 5).trans rfl
            have hcz37_6 : wr.cell? ⟨gb174, 6, none⟩ = some (.int .i64 a0_6) := (blk_cell BK174.out 6).trans rfl
            have hcz37_7 : wr.cell? ⟨gb174, 7, none⟩ = some (.int .i64 a0_7) := (blk_cell BK174.out 7).trans rfl
            have hcz37_8 : wr.cell? ⟨gb174, 8, none⟩ = some (.int .i64 a0_8) := (blk_cell BK174.out 8).trans rfl
            have hcz37_9 : wr.cell? ⟨gb174, 9, none⟩ = some (.slice A0_9 l0_9.length c0_9) := (blk_cell BK174.out 9).trans rfl
            have hcz37_10 : wr.cell? ⟨gb174, 10, none⟩ = some (.slice A0_10 l0_10.length c0_10) := (blk_cell BK174.out 10).trans rfl
            have hfz37_0 := blk_frozen BK174.out 0
            have hfz37_1 := blk_frozen BK174.out 1
            have hfz37_2 := blk_frozen BK174.out 2
            have hfz37_3 := blk_frozen BK174.out 3
            have hfz37_4 := blk_frozen BK174.out 4
            have hfz37_5 := blk_frozen BK174.out 5
            have hfz37_6 := blk_frozen BK174.out 6
            have hfz37_7 := blk_frozen BK174.out 7
            have hfz37_8 := blk_frozen BK174.out 8
            have hfz37_9 := blk_frozen BK174.out 9
            have hfz37_10 := blk_frozen BK174.out 10
            go_wp2
            go_meet
            case rel => exact ⟨_, (decide (a0_6 > a0_7)), (by first | rfl | (simp; done) | (simp [*]; done)), H', ⟨by have := HK1.out; first | omega | exact Nat.le_refl _⟩, ⟨by (with_reducible repeat (first | refine blk_drewN ?_ _ | refine blk_drew ?_ | refine blk_alloc ?_ _)); exact BK174.out⟩, ⟨by repeat (first | (with_reducible first | exact HB.out | apply below_alloc | apply pw_below_drewN | apply below_drew1 | refine below_set ?_ GE174.out) | exact HB.out)⟩⟩
      case rest =>
       clear HC26
       try clear c1
       try clear p1
       try clear q1
       try clear hx1
       try clear c2
       try clear p2
       try clear c3
       try clear c4
       try clear c5
       try clear c5b0
       try clear c5b1
       try clear c6
       try clear p6
       try clear c8
       try clear c9
       try clear c13
       try clear c13b0
       try clear c14
       try clear c14b0
       try clear c15
       try clear c15b0
       try clear c17
       try clear c17b0
       try clear c17b1
       try clear p18
       try clear q18
       try clear hx18
       try clear c19
       try clear c23
       try clear c27
       try clear c27b0
       try clear c29
       try clear c29b0
       try clear c31
       try clear c31b0
       try clear c33
       try clear c33b0
       try clear c35
       try clear c35b0
       try clear hcz20_0
       try clear hcz20_1
       try clear hcz24_0
       try clear hcz24_1
       try clear hcz28_0
       try clear hcz28_1
       try clear hcz28_10
       try clear hcz28_2
       try clear hcz28_3
       try clear hcz28_4
       try clear hcz28_5
       try clear hcz28_6
       try clear hcz28_7
       try clear hcz28_8
       try clear hcz28_9
       try clear hcz30_0
       try clear hcz30_1
       try clear hcz30_10
       try clear hcz30_2
       try clear hcz30_3
       try clear hcz30_4
       try clear hcz30_5
       try clear hcz30_6
       try clear hcz30_7
       try clear hcz30_8
       try clear hcz30_9
       try clear hcz32_0
       try clear hcz32_1
       try clear hcz32_10
       try clear hcz32_2
       try clear hcz32_3
       try clear hcz32_4
       try clear hcz32_5
       try clear hcz32_6
       try clear hcz32_7
       try clear hcz32_8
       try clear hcz32_9
       try clear hcz34_0
       try clear hcz34_1
       try clear hcz34_10
       try clear hcz34_2
       try clear hcz34_3
       try clear hcz34_4
       try clear hcz34_5
       try clear hcz34_6
       try clear hcz34_7
       try clear hcz34_8
       try clear hcz34_9
       try clear hcz36_0
       try clear hcz36_1
       try clear hcz36_10
       try clear hcz36_2
       try clear hcz36_3
       try clear hcz36_4
       try clear hcz36_5
       try clear hcz36_6
       try clear hcz36_7
       try clear hcz36_8
       try clear hcz36_9
       try clear hcz37_0
       try clear hcz37_1
       try clear hcz37_10
       try clear hcz37_2
       try clear hcz37_3
       try clear hcz37_4
       try clear hcz37_5
       try clear hcz37_6
       try clear hcz37_7
       try clear hcz37_8
       try clear hcz37_9
       try clear hcz7_0
       try clear hcz7_1
       try clear hcz7_10
       try clear hcz7_2
       try clear hcz7_3
       try clear hcz7_4
       try clear hcz7_5
       try clear hcz7_6
       try clear hcz7_7
       try clear hcz7_8
       try clear hcz7_9
       try clear hcz9_0
       try clear hcz9_1
       try clear hcz9_10
       try clear hcz9_2
       try clear hcz9_3
       try clear hcz9_4
       try clear hcz9_5
       try clear hcz9_6
       try clear hcz9_7
       try clear hcz9_8
       try clear hcz9_9
       try clear hfz20_0
       try clear hfz20_1
       try clear hfz24_0
       try clear hfz24_1
       try clear hfz28_0
       try clear hfz28_1
       try clear hfz28_10
       try clear hfz28_2
       try clear hfz28_3
       try clear hfz28_4
       try clear hfz28_5
       try clear hfz28_6
       try clear hfz28_7
       try clear hfz28_8
       try clear hfz28_9
       try clear hfz30_0
       try clear hfz30_1
       try clear hfz30_10
       try clear hfz30_2
       try clear hfz30_3
       try clear hfz30_4
       try clear hfz30_5
       try clear hfz30_6
       try clear hfz30_7
       try clear hfz30_8
       try clear hfz30_9
       try clear hfz32_0
       try clear hfz32_1
       try clear hfz32_10
       try clear hfz32_2
       try clear hfz32_3
       try clear hfz32_4
       try clear hfz32_5
       try clear hfz32_6
       try clear hfz32_7
       try clear hfz32_8
       try clear hfz32_9
       try clear hfz34_0
       try clear hfz34_1
       try clear hfz34_10
       try clear hfz34_2
       try clear hfz34_3
       try clear hfz34_4
       try clear hfz34_5
       try clear hfz34_6
       try clear hfz34_7
       try clear hfz34_8
       try clear hfz34_9
       try clear hfz36_0
       try clear hfz36_1
       try clear hfz36_10
       try clear hfz36_2
       try clear hfz36_3
       try clear hfz36_4
       try clear hfz36_5
       try clear hfz36_6
       try clear hfz36_7
       try clear hfz36_8
       try clear hfz36_9
       try clear hfz37_0
       try clear hfz37_1
       try clear hfz37_10
       try clear hfz37_2
       try clear hfz37_3
       try clear hfz37_4
       try clear hfz37_5
       try clear hfz37_6
       try clear hfz37_7
       try clear hfz37_8
       try clear hfz37_9
       try clear hfz7_0
       try clear hfz7_1
       try clear hfz7_10
       try clear hfz7_2
       try clear hfz7_3
       try clear hfz7_4
       try clear hfz7_5
       try clear hfz7_6
       try clear hfz7_7
       try clear hfz7_8
       try clear hfz7_9
       try clear hfz9_0
       try clear hfz9_1
       try clear hfz9_10
       try clear hfz9_2
       try clear hfz9_3
       try clear hfz9_4
       try clear hfz9_5
       try clear hfz9_6
       try clear hfz9_7
       try clear hfz9_8
       try clear hfz9_9
       try clear hx180_0
       try clear hx180_1
       try clear p180
       try clear p2
       try clear q180
       obtain ⟨kq, x77_25, rfl, HA, HJ25, BK174, HB⟩ := hcut
       cases kq with
       | zero => exact absurd HA.out (by simp [lunisolar_Check.j1])
       | succ kj25 =>
        have H := HA.out
        clear HA
        simp only [lunisolar_Check.j1] at H
        by_cases c38 : x77_25 = true
        ·subst c38
         have H1 : (some 3) = some r := by rw [if_pos rfl] at H; exact H
         clear H
         have H := H1
         clear H1
         obtain rfl := Option.some.inj H
         go_wp2
         go_ret
         exact ⟨by first | rfl | (simp [errW_none, errW_some] <;> rfl) | (simp [*, errW_none, errW_some] <;> rfl), by repeat (first | (with_reducible first | exact HB.out | apply below_alloc | apply pw_below_drewN | apply below_drew1 | refine below_set ?_ GE174.out) | exact HB.out)⟩
        ·replace c38 := Bool.eq_false_iff.mpr c38
         subst c38
         have H1 : ((lunisolar_parts.f kj25 a0_0 a0_1 a0_2 a0_3 a0_4 a0_5 a0_6 a0_7 a0_8 l0_9 l0_10).bind fun t183 => (if t183 = 0 then (some 14) else (if a0_8 < 1 then (lunisolar_Check.j2 kj25 true a0_0 a0_1 a0_2 a0_3 a0_4 a0_5 a0_6 a0_7 a0_8 l0_9 l0_10) else (lunisolar_Check.j2 kj25 (decide (a0_8 > 100)) a0_0 a0_1 a0_2 a0_3 a0_4 a0_5 a0_6 a0_7 a0_8 l0_9 l0_10)))) = some r := by rw [if_neg (show ¬ (false = true) by decide)] at H; exact H
         clear H
         have H := H1
         clear H1
         replace H := Option.bind_eq_some_iff.mp H
         obtain ⟨t183, A390, H⟩ := H
         replace H : (if t183 = 0 then (some 14) else (if a0_8 < 1 then (lunisolar_Check.j2 kj25 true a0_0 a0_1 a0_2 a0_3 a0_4 a0_5 a0_6 a0_7 a0_8 l0_9 l0_10) else (lunisolar_Check.j2 kj25 (decide (a0_8 > 100)) a0_0 a0_1 a0_2 a0_3 a0_4 a0_5 a0_6 a0_7 a0_8 l0_9 l0_10))) = some r := H
         have A39 := Aside0.mk A390
         clear A390
         by_cases c40 : t183 = 0
         ·rw [if_pos c40] at H
          have c40b0 : (t183 == 0) = true := beq_iff_eq.mpr c40
          have c40b1 : (t183 != 0) = false := bne_eq_false_iff_eq.mpr c40
          clear c40
          obtain rfl := Option.some.inj H
          have hcz41_0 : wc.cell? ⟨gb174, 0, none⟩ = some (.string a0_0) := (blk_cell BK174.out 0).trans rfl
          have hcz41_1 : wc.cell? ⟨gb174, 1, none⟩ = some (.int .i64 a0_1) := (blk_cell BK174.out 1).trans rfl
          have hcz41_2 : wc.cell? ⟨gb174, 2, none⟩ = some (.int .i64 a0_2) := (blk_cell BK174.out 2).trans rfl
          have hcz41_3 : wc.cell? ⟨gb174, 3, none⟩ = some (.int .i64 a0_3) := (blk_cell BK174.out 3).trans rfl
          have hcz41_4 : wc.cell? ⟨gb174, 4, none⟩ = some (.int .i64 a0_4) := (blk_cell BK174.out 4).trans rfl
          have hcz41_5 : wc.cell? ⟨gb174, 5, none⟩ = some (.int .i64 a0_5) := (blk_cell BK174.out 5).trans rfl
          have hcz41_6 : wc.cell? ⟨gb174, 6, none⟩ = some (.int .i64 a0_6) := (blk_cell BK174.out 6).trans rfl
          have hcz41_7 : wc.cell? ⟨gb174, 7, none⟩ = some (.int .i64 a0_7) := (blk_cell BK174.out 7).trans rfl
          have hcz41_8 : wc.cell? ⟨gb174, 8, none⟩ = some (.int .i64 a0_8) := (blk_cell BK174.out 8).trans rfl
          have hcz41_9 : wc.cell? ⟨gb174, 9, none⟩ = some (.slice A0_9 l0_9.length c0_9) := (blk_cell BK174.out 9).trans rfl
          have hcz41_10 : wc.cell? ⟨gb174, 10, none⟩ = some (.slice A0_10 l0_10.length c0_10) := (blk_cell BK174.out 10).trans rfl
          have hfz41_0 := blk_frozen BK174.out 0
          have hfz41_1 := blk_frozen BK174.out 1
          have hfz41_2 := blk_frozen BK174.out 2
          have hfz41_3 := blk_frozen BK174.out 3
          have hfz41_4 := blk_frozen BK174.out 4
          have hfz41_5 := blk_frozen BK174.out 5
          have hfz41_6 := blk_frozen BK174.out 6
          have hfz41_7 := blk_frozen BK174.out 7
          have hfz41_8 := blk_frozen BK174.out 8
          have hfz41_9 := blk_frozen BK174.out 9
          have hfz41_10 := blk_frozen BK174.out 10
          go_wp2_with (first | ((with_reducible refine gate_callee (f := 87) rfl ?_); refine goesL_ (some 79) rfl rfl Try.func87 (by kernel_rfl) rfl #[.agg #[.string a0_0, .int .i64 a0_1, .int .i64 a0_2, .int .i64 a0_3, .int .i64 a0_4, .int .i64 a0_5, .int .i64 a0_6, .int .i64 a0_7, .int .i64 a0_8, .slice A0_9 l0_9.length c0_9, .slice A0_10 l0_10.length c0_10]] rfl (by (try simp only [List.map_toArray, List.map_cons, List.map_nil]); first | done | rfl | (simp only [List.length_drop, List.length_take]; rfl)) ?_; (with_reducible refine (lunisolar_parts.calls kj25 a0_0 a0_1 a0_2 a0_3 a0_4 a0_5 a0_6 a0_7 a0_8 _ _ l0_9 _ _ l0_10 t183 _ ?side1 ?side2 ?side3 ?side4 A39.out).mono ?_); (case side1 => repeat (first | exact (Kd.C_below HR0_9.out HB.out) | (with_reducible refine Kd.C_alloc ?_ _) | (with_reducible refine Kd.C_drewN ?_ _) | (with_reducible refine Kd.C_drew ?_))); (case side2 => exact HC0_9.out); (case side3 => repeat (first | exact (Kd.C_below HR0_10.out HB.out) | (with_reducible refine Kd.C_alloc ?_ _) | (with_reducible refine Kd.C_drewN ?_ _) | (with_reducible refine Kd.C_drew ?_))); (case side4 => exact HC0_10.out); rintro e w42 ⟨rfl, hb⟩; refine ⟨_, rfl, ?_⟩; have n0_ := Aside0.mk (blk_below (g := gb174) (o := .cells #[.string a0_0, .int .i64 a0_1, .int .i64 a0_2, .int .i64 a0_3, .int .i64 a0_4, .int .i64 a0_5, .int .i64 a0_6, .int .i64 a0_7, .int .i64 a0_8, .slice A0_9 l0_9.length c0_9, .slice A0_10 l0_10.length c0_10] 51 (0, 0)) (by (with_reducible repeat (first | refine blk_drewN ?_ _ | refine blk_drew ?_ | refine blk_alloc ?_ _)); exact BK174.out) hb); have n1_ := Aside0.mk (below_step (by repeat (first | (with_reducible first | exact HB.out | apply below_alloc | apply pw_below_drewN | apply below_drew1 | refine below_set ?_ GE174.out) | exact HB.out)) hb); clear BK174; clear HB; have BK174 := n0_; have HB := n1_; clear n0_ n1_; (try clear hb); (try clear hb2); (try clear hk); (try clear hi)))
          go_ret
          exact ⟨by first | rfl | (simp [errW_none, errW_some] <;> rfl) | (simp [*, errW_none, errW_some] <;> rfl), by repeat (first | (with_reducible first | exact HB.out | apply below_alloc | apply pw_below_drewN | apply below_drew1 | refine below_set ?_ GE174.out) | exact HB.out)⟩
         ·rw [if_neg c40] at H
          have c40b0 : (t183 == 0) = false := beq_eq_false_iff_ne.mpr c40
          have c40b1 : (t183 != 0) = true := bne_iff_ne.mpr c40
          have HC43 := Aside0.mk H
          clear H
          have hcz44_0 : wc.cell? ⟨gb174, 0, none⟩ = some (.string a0_0) := (blk_cell BK174.out 0).trans rfl
          have hcz44_1 : wc.cell? ⟨gb174, 1, none⟩ = some (.int .i64 a0_1) := (blk_cell BK174.out 1).trans rfl
          have hcz44_2 : wc.cell? ⟨gb174, 2, none⟩ = some (.int .i64 a0_2) := (blk_cell BK174.out 2).trans rfl
          have hcz44_3 : wc.cell? ⟨gb174, 3, none⟩ = some (.int .i64 a0_3) := (blk_cell BK174.out 3).trans rfl
          have hcz44_4 : wc.cell? ⟨gb174, 4, none⟩ = some (.int .i64 a0_4) := (blk_cell BK174.out 4).trans rfl
          have hcz44_5 : wc.cell? ⟨gb174, 5, none⟩ = some (.int .i64 a0_5) := (blk_cell BK174.out 5).trans rfl
          have hcz44_6 : wc.cell? ⟨gb174, 6, none⟩ = some (.int .i64 a0_6) := (blk_cell BK174.out 6).trans rfl
          have hcz44_7 : wc.cell? ⟨gb174, 7, none⟩ = some (.int .i64 a0_7) := (blk_cell BK174.out 7).trans rfl
          have hcz44_8 : wc.cell? ⟨gb174, 8, none⟩ = some (.int .i64 a0_8) := (blk_cell BK174.out 8).trans rfl
          have hcz44_9 : wc.cell? ⟨gb174, 9, none⟩ = some (.slice A0_9 l0_9.length c0_9) := (blk_cell BK174.out 9).trans rfl
          have hcz44_10 : wc.cell? ⟨gb174, 10, none⟩ = some (.slice A0_10 l0_10.length c0_10) := (blk_cell BK174.out 10).trans rfl
          have hfz44_0 := blk_frozen BK174.out 0
          have hfz44_1 := blk_frozen BK174.out 1
          have hfz44_2 := blk_frozen BK174.out 2
          have hfz44_3 := blk_frozen BK174.out 3
          have hfz44_4 := blk_frozen BK174.out 4
          have hfz44_5 := blk_frozen BK174.out 5
          have hfz44_6 := blk_frozen BK174.out 6
          have hfz44_7 := blk_frozen BK174.out 7
          have hfz44_8 := blk_frozen BK174.out 8
          have hfz44_9 := blk_frozen BK174.out 9
          have hfz44_10 := blk_frozen BK174.out 10
          go_upto_region 15 with (first | ((with_reducible refine gate_callee (f := 87) rfl ?_); refine goesL_ (some 79) rfl rfl Try.func87 (by kernel_rfl) rfl #[.agg #[.string a0_0, .int .i64 a0_1, .int .i64 a0_2, .int .i64 a0_3, .int .i64 a0_4, .int .i64 a0_5, .int .i64 a0_6, .int .i64 a0_7, .int .i64 a0_8, .slice A0_9 l0_9.length c0_9, .slice A0_10 l0_10.length c0_10]] rfl (by (try simp only [List.map_toArray, List.map_cons, List.map_nil]); first | done | rfl | (simp only [List.length_drop, List.length_take]; rfl)) ?_; (with_reducible refine (lunisolar_parts.calls kj25 a0_0 a0_1 a0_2 a0_3 a0_4 a0_5 a0_6 a0_7 a0_8 _ _ l0_9 _ _ l0_10 t183 _ ?side1 ?side2 ?side3 ?side4 A39.out).mono ?_); (case side1 => repeat (first | exact (Kd.C_below HR0_9.out HB.out) | (with_reducible refine Kd.C_alloc ?_ _) | (with_reducible refine Kd.C_drewN ?_ _) | (with_reducible refine Kd.C_drew ?_))); (case side2 => exact HC0_9.out); (case side3 => repeat (first | exact (Kd.C_below HR0_10.out HB.out) | (with_reducible refine Kd.C_alloc ?_ _) | (with_reducible refine Kd.C_drewN ?_ _) | (with_reducible refine Kd.C_drew ?_))); (case side4 => exact HC0_10.out); rintro e w45 ⟨rfl, hb⟩; refine ⟨_, rfl, ?_⟩; have n0_ := Aside0.mk (blk_below (g := gb174) (o := .cells #[.string a0_0, .int .i64 a0_1, .int .i64 a0_2, .int .i64 a0_3, .int .i64 a0_4, .int .i64 a0_5, .int .i64 a0_6, .int .i64 a0_7, .int .i64 a0_8, .slice A0_9 l0_9.length c0_9, .slice A0_10 l0_10.length c0_10] 51 (0, 0)) (by (with_reducible repeat (first | refine blk_drewN ?_ _ | refine blk_drew ?_ | refine blk_alloc ?_ _)); exact BK174.out) hb); have n1_ := Aside0.mk (below_step (by repeat (first | (with_reducible first | exact HB.out | apply below_alloc | apply pw_below_drewN | apply below_drew1 | refine below_set ?_ GE174.out) | exact HB.out)) hb); clear BK174; clear HB; have BK174 := n0_; have HB := n1_; clear n0_ n1_; (try clear hb); (try clear hb2); (try clear hk); (try clear hi)))
          (try simp only [Act.put, List.setIfInBounds_toArray, List.set_cons_zero, List.set_cons_succ])
          go_cut [88] (fun v88 wc => ∃ (kq : Nat) (x88_42 : Bool), v88 = .bool x88_42 ∧ Aside0 (lunisolar_Check.j2 kq x88_42 a0_0 a0_1 a0_2 a0_3 a0_4 a0_5 a0_6 a0_7 a0_8 l0_9 l0_10 = some r) ∧ Aside0 (kq ≤ kj25) ∧ Aside0 (wc.heap[gb174]? = some (.cells #[.string a0_0, .int .i64 a0_1, .int .i64 a0_2, .int .i64 a0_3, .int .i64 a0_4, .int .i64 a0_5, .int .i64 a0_6, .int .i64 a0_7, .int .i64 a0_8, (.slice A0_9 l0_9.length c0_9), (.slice A0_10 l0_10.length c0_10)] 51 (0, 0))) ∧ Aside0 (Below w.heap.size w wc))
          case first =>
           have H := HC43.out
           clear HC43
           by_cases c46 : a0_8 < 1
           ·rw [if_pos c46] at H
            have c46b0 : decide (a0_8 < 1) = true := decide_eq_true c46
            clear c46
            (first | rw [c46b0] | (simp only [i64_w, i32_w]; rw [c46b0]) | skip)
            have H' := Aside0.mk H
            clear H
            have hcz47_0 : w45.cell? ⟨gb174, 0, none⟩ = some (.string a0_0) := (blk_cell BK174.out 0).trans rfl
            have hcz47_1 : w45.cell? ⟨gb174, 1, none⟩ = some (.int .i64 a0_1) := (blk_cell BK174.out 1).trans rfl
            have hcz47_2 : w45.cell? ⟨gb174, 2, none⟩ = some (.int .i64 a0_2) := (blk_cell BK174.out 2).trans rfl
            have hcz47_3 : w45.cell? ⟨gb174, 3, none⟩ = some (.int .i64 a0_3) := (blk_cell BK174.out 3).trans rfl
            have hcz47_4 : w45.cell? ⟨gb174, 4, none⟩ = some (.int .i64 a0_4) := (blk_cell BK174.out 4).trans rfl
            have hcz47_5 : w45.cell? ⟨gb174, 5, none⟩ = some (.int .i64 a0_5) := (blk_cell BK174.out 5).trans rfl
            have hcz47_6 : w45.cell? ⟨gb174, 6, none⟩ = some (.int .i64 a0_6) := (blk_cell BK174.out 6).trans rfl
            have hcz47_7 : w45.cell? ⟨gb174, 7, none⟩ = some (.int .i64 a0_7) := (blk_cell BK174.out 7).trans rfl
            have hcz47_8 : w45.cell? ⟨gb174, 8, none⟩ = some (.int .i64 a0_8) := (blk_cell BK174.out 8).trans rfl
            have hcz47_9 : w45.cell? ⟨gb174, 9, none⟩ = some (.slice A0_9 l0_9.length c0_9) := (blk_cell BK174.out 9).trans rfl
            have hcz47_10 : w45.cell? ⟨gb174, 10, none⟩ = some (.slice A0_10 l0_10.length c0_10) := (blk_cell BK174.out 10).trans rfl
            have hfz47_0 := blk_frozen BK174.out 0
            have hfz47_1 := blk_frozen BK174.out 1
            have hfz47_2 := blk_frozen BK174.out 2
            have hfz47_3 := blk_frozen BK174.out 3
            have hfz47_4 := blk_frozen BK174.out 4
            have hfz47_5 := blk_frozen BK174.out 5
            have hfz47_6 := blk_frozen BK174.out 6
            have hfz47_7 := blk_frozen BK174.out 7
            have hfz47_8 := blk_frozen BK174.out 8
            have hfz47_9 := blk_frozen BK174.out 9
            have hfz47_10 := blk_frozen BK174.out 10
            go_wp2
            go_meet
            case rel => exact ⟨_, (true), (by first | rfl | (simp; done) | (simp [*]; done)), H', ⟨by have := HK1.out; have := HJ25.out; first | omega | exact Nat.le_refl _⟩, ⟨by (with_reducible repeat (first | refine blk_drewN ?_ _ | refine blk_drew ?_ | refine blk_alloc ?_ _)); exact BK174.out⟩, ⟨by repeat (first | (with_reducible first | exact HB.out | apply below_alloc | apply pw_below_drewN | apply below_drew1 | refine below_set ?_ GE174.out) | exact HB.out)⟩⟩
           ·rw [if_neg c46] at H
            have c46b0 : decide (a0_8 < 1) = false := decide_eq_false c46
            clear c46
            (first | rw [c46b0] | (simp only [i64_w, i32_w]; rw [c46b0]) | skip)
            have H' := Aside0.mk H
            clear H
            have hcz48_0 : w45.cell? ⟨gb174, 0, none⟩ = some (.string a0_0) := (blk_cell BK174.out 0).trans rfl
            have hcz48_1 : w45.cell? ⟨gb174, 1, none⟩ = some (.int .i64 a0_1) := (blk_cell BK174.out 1).trans rfl
            have hcz48_2 : w45.cell? ⟨gb174, 2, none⟩ = some (.int .i64 a0_2) := (blk_cell BK174.out 2).trans rfl
            have hcz48_3 : w45.cell? ⟨gb174, 3, none⟩ = some (.int .i64 a0_3) := (blk_cell BK174.out 3).trans rfl
            have hcz48_4 : w45.cell? ⟨gb174, 4, none⟩ = some (.int .i64 a0_4) := (blk_cell BK174.out 4).trans rfl
            have hcz48_5 : w45.cell? ⟨gb174, 5, none⟩ = some (.int .i64 a0_5) := (blk_cell BK174.out 5).trans rfl
            have hcz48_6 : w45.cell? ⟨gb174, 6, none⟩ = some (.int .i64 a0_6) := (blk_cell BK174.out 6).trans rfl
            have hcz48_7 : w45.cell? ⟨gb174, 7, none⟩ = some (.int .i64 a0_7) := (blk_cell BK174.out 7).trans rfl
            have hcz48_8 : w45.cell? ⟨gb174, 8, none⟩ = some (.int .i64 a0_8) := (blk_cell BK174.out 8).trans rfl
            have hcz48_9 : w45.cell? ⟨gb174, 9, none⟩ = some (.slice A0_9 l0_9.length c0_9) := (blk_cell BK174.out 9).trans rfl
            have hcz48_10 : w45.cell? ⟨gb174, 10, none⟩ = some (.slice A0_10 l0_10.length c0_10) := (blk_cell BK174.out 10).trans rfl
            have hfz48_0 := blk_frozen BK174.out 0
            have hfz48_1 := blk_frozen BK174.out 1
            have hfz48_2 := blk_frozen BK174.out 2
            have hfz48_3 := blk_frozen BK174.out 3
            have hfz48_4 := blk_frozen BK174.out 4
            have hfz48_5 := blk_frozen BK174.out 5
            have hfz48_6 := blk_frozen BK174.out 6
            have hfz48_7 := blk_frozen BK174.out 7
            have hfz48_8 := blk_frozen BK174.out 8
            have hfz48_9 := blk_frozen BK174.out 9
            have hfz48_10 := blk_frozen BK174.out 10
            go_wp2
            go_meet
            case rel => exact ⟨_, (decide (a0_8 > 100)), (by first | rfl | (simp; done) | (simp [*]; done)), H', ⟨by have := HK1.out; have := HJ25.out; first | omega | exact Nat.le_refl _⟩, ⟨by (with_reducible repeat (first | refine blk_drewN ?_ _ | refine blk_drew ?_ | refine blk_alloc ?_ _)); exact BK174.out⟩, ⟨by repeat (first | (with_reducible first | exact HB.out | apply below_alloc | apply pw_below_drewN | apply below_drew1 | refine below_set ?_ GE174.out) | exact HB.out)⟩⟩
          case rest =>
           clear HC43
           try clear c1
           try clear p1
           try clear q1
           try clear hx1
           try clear c2
           try clear p2
           try clear c3
           try clear c4
           try clear c5
           try clear c5b0
           try clear c5b1
           try clear c6
           try clear p6
           try clear c8
           try clear c9
           try clear c13
           try clear c13b0
           try clear c14
           try clear c14b0
           try clear c15
           try clear c15b0
           try clear c17
           try clear c17b0
           try clear c17b1
           try clear p18
           try clear q18
           try clear hx18
           try clear c19
           try clear c23
           try clear c27
           try clear c27b0
           try clear c29
           try clear c29b0
           try clear c31
           try clear c31b0
           try clear c33
           try clear c33b0
           try clear c35
           try clear c35b0
           try clear c38
           try clear c40
           try clear c40b0
           try clear c40b1
           try clear c46
           try clear c46b0
           try clear hcz20_0
           try clear hcz20_1
           try clear hcz24_0
           try clear hcz24_1
           try clear hcz28_0
           try clear hcz28_1
           try clear hcz28_10
           try clear hcz28_2
           try clear hcz28_3
           try clear hcz28_4
           try clear hcz28_5
           try clear hcz28_6
           try clear hcz28_7
           try clear hcz28_8
           try clear hcz28_9
           try clear hcz30_0
           try clear hcz30_1
           try clear hcz30_10
           try clear hcz30_2
           try clear hcz30_3
           try clear hcz30_4
           try clear hcz30_5
           try clear hcz30_6
           try clear hcz30_7
           try clear hcz30_8
           try clear hcz30_9
           try clear hcz32_0
           try clear hcz32_1
           try clear hcz32_10
           try clear hcz32_2
           try clear hcz32_3
           try clear hcz32_4
           try clear hcz32_5
           try clear hcz32_6
           try clear hcz32_7
           try clear hcz32_8
           try clear hcz32_9
           try clear hcz34_0
           try clear hcz34_1
           try clear hcz34_10
           try clear hcz34_2
           try clear hcz34_3
           try clear hcz34_4
           try clear hcz34_5
           try clear hcz34_6
           try clear hcz34_7
           try clear hcz34_8
           try clear hcz34_9
           try clear hcz36_0
           try clear hcz36_1
           try clear hcz36_10
           try clear hcz36_2
           try clear hcz36_3
           try clear hcz36_4
           try clear hcz36_5
           try clear hcz36_6
           try clear hcz36_7
           try clear hcz36_8
           try clear hcz36_9
           try clear hcz37_0
           try clear hcz37_1
           try clear hcz37_10
           try clear hcz37_2
           try clear hcz37_3
           try clear hcz37_4
           try clear hcz37_5
           try clear hcz37_6
           try clear hcz37_7
           try clear hcz37_8
           try clear hcz37_9
           try clear hcz41_0
           try clear hcz41_1
           try clear hcz41_10
           try clear hcz41_2
           try clear hcz41_3
           try clear hcz41_4
           try clear hcz41_5
           try clear hcz41_6
           try clear hcz41_7
           try clear hcz41_8
           try clear hcz41_9
           try clear hcz44_0
           try clear hcz44_1
           try clear hcz44_10
           try clear hcz44_2
           try clear hcz44_3
           try clear hcz44_4
           try clear hcz44_5
           try clear hcz44_6
           try clear hcz44_7
           try clear hcz44_8
           try clear hcz44_9
           try clear hcz47_0
           try clear hcz47_1
           try clear hcz47_10
           try clear hcz47_2
           try clear hcz47_3
           try clear hcz47_4
           try clear hcz47_5
           try clear hcz47_6
           try clear hcz47_7
           try clear hcz47_8
           try clear hcz47_9
           try clear hcz48_0
           try clear hcz48_1
           try clear hcz48_10
           try clear hcz48_2
           try clear hcz48_3
           try clear hcz48_4
           try clear hcz48_5
           try clear hcz48_6
           try clear hcz48_7
           try clear hcz48_8
           try clear hcz48_9
           try clear hcz7_0
           try clear hcz7_1
           try clear hcz7_10
           try clear hcz7_2
           try clear hcz7_3
           try clear hcz7_4
           try clear hcz7_5
           try clear hcz7_6
           try clear hcz7_7
           try clear hcz7_8
           try clear hcz7_9
           try clear hcz9_0
           try clear hcz9_1
           try clear hcz9_10
           try clear hcz9_2
           try clear hcz9_3
           try clear hcz9_4
           try clear hcz9_5
           try clear hcz9_6
           try clear hcz9_7
           try clear hcz9_8
           try clear hcz9_9
           try clear hfz20_0
           try clear hfz20_1
           try clear hfz24_0
           try clear hfz24_1
           try clear hfz28_0
           try clear hfz28_1
           try clear hfz28_10
           try clear hfz28_2
           try clear hfz28_3
           try clear hfz28_4
           try clear hfz28_5
           try clear hfz28_6
           try clear hfz28_7
           try clear hfz28_8
           try clear hfz28_9
           try clear hfz30_0
           try clear hfz30_1
           try clear hfz30_10
           try clear hfz30_2
           try clear hfz30_3
           try clear hfz30_4
           try clear hfz30_5
           try clear hfz30_6
           try clear hfz30_7
           try clear hfz30_8
           try clear hfz30_9
           try clear hfz32_0
           try clear hfz32_1
           try clear hfz32_10
           try clear hfz32_2
           try clear hfz32_3
           try clear hfz32_4
           try clear hfz32_5
           try clear hfz32_6
           try clear hfz32_7
           try clear hfz32_8
           try clear hfz32_9
           try clear hfz34_0
           try clear hfz34_1
           try clear hfz34_10
           try clear hfz34_2
           try clear hfz34_3
           try clear hfz34_4
           try clear hfz34_5
           try clear hfz34_6
           try clear hfz34_7
           try clear hfz34_8
           try clear hfz34_9
           try clear hfz36_0
           try clear hfz36_1
           try clear hfz36_10
           try clear hfz36_2
           try clear hfz36_3
           try clear hfz36_4
           try clear hfz36_5
           try clear hfz36_6
           try clear hfz36_7
           try clear hfz36_8
           try clear hfz36_9
           try clear hfz37_0
           try clear hfz37_1
           try clear hfz37_10
           try clear hfz37_2
           try clear hfz37_3
           try clear hfz37_4
           try clear hfz37_5
           try clear hfz37_6
           try clear hfz37_7
           try clear hfz37_8
           try clear hfz37_9
           try clear hfz41_0
           try clear hfz41_1
           try clear hfz41_10
           try clear hfz41_2
           try clear hfz41_3
           try clear hfz41_4
           try clear hfz41_5
           try clear hfz41_6
           try clear hfz41_7
           try clear hfz41_8
           try clear hfz41_9
           try clear hfz44_0
           try clear hfz44_1
           try clear hfz44_10
           try clear hfz44_2
           try clear hfz44_3
           try clear hfz44_4
           try clear hfz44_5
           try clear hfz44_6
           try clear hfz44_7
           try clear hfz44_8
           try clear hfz44_9
           try clear hfz47_0
           try clear hfz47_1
           try clear hfz47_10
           try clear hfz47_2
           try clear hfz47_3
           try clear hfz47_4
           try clear hfz47_5
           try clear hfz47_6
           try clear hfz47_7
           try clear hfz47_8
           try clear hfz47_9
           try clear hfz48_0
           try clear hfz48_1
           try clear hfz48_10
           try clear hfz48_2
           try clear hfz48_3
           try clear hfz48_4
           try clear hfz48_5
           try clear hfz48_6
           try clear hfz48_7
           try clear hfz48_8
           try clear hfz48_9
           try clear hfz7_0
           try clear hfz7_1
           try clear hfz7_10
           try clear hfz7_2
           try clear hfz7_3
           try clear hfz7_4
           try clear hfz7_5
           try clear hfz7_6
           try clear hfz7_7
           try clear hfz7_8
           try clear hfz7_9
           try clear hfz9_0
           try clear hfz9_1
           try clear hfz9_10
           try clear hfz9_2
           try clear hfz9_3
           try clear hfz9_4
           try clear hfz9_5
           try clear hfz9_6
           try clear hfz9_7
           try clear hfz9_8
           try clear hfz9_9
           try clear hx180_0
           try clear hx180_1
           try clear p1
           try clear p18
           try clear p180
           try clear p2
           try clear p6
           try clear q1
           try clear q18
           try clear q180
           obtain ⟨kq, x88_42, rfl, HA, HJ42, BK174, HB⟩ := hcut
           cases kq with
           | zero => exact absurd HA.out (by simp [lunisolar_Check.j2])
           | succ kj42 =>
            have H := HA.out
            clear HA
            simp only [lunisolar_Check.j2] at H
            by_cases c49 : x88_42 = true
            ·subst c49
             have H1 : (some 3) = some r := by rw [if_pos rfl] at H; exact H
             clear H
             have H := H1
             clear H1
             obtain rfl := Option.some.inj H
             go_wp2
             go_ret
             exact ⟨by first | rfl | (simp [errW_none, errW_some] <;> rfl) | (simp [*, errW_none, errW_some] <;> rfl), by repeat (first | (with_reducible first | exact HB.out | apply below_alloc | apply pw_below_drewN | apply below_drew1 | refine below_set ?_ GE174.out) | exact HB.out)⟩
            ·replace c49 := Bool.eq_false_iff.mpr c49
             subst c49
             have H1 : ((lunisolar_rising.f kj42 l0_9 1 a0_8).bind fun t184 => (if t184 = 0 then (if (l0_10.length : Int) > 3 then (some 2) else ((lunisolar_rising.f kj42 l0_10 0 6).bind fun t185 => (some t185))) else (some t184))) = some r := by rw [if_neg (show ¬ (false = true) by decide)] at H; exact H
             clear H
             have H := H1
             clear H1
             replace H := Option.bind_eq_some_iff.mp H
             obtain ⟨t184, A500, H⟩ := H
             replace H : (if t184 = 0 then (if (l0_10.length : Int) > 3 then (some 2) else ((lunisolar_rising.f kj42 l0_10 0 6).bind fun t185 => (some t185))) else (some t184)) = some r := H
             have A50 := Aside0.mk A500
             clear A500
             by_cases c51 : t184 = 0
             ·rw [if_pos c51] at H
              have c51b0 : (t184 == 0) = true := beq_iff_eq.mpr c51
              have c51b1 : (t184 != 0) = false := bne_eq_false_iff_eq.mpr c51
              clear c51
              by_cases c52 : (l0_10.length : Int) > 3
              ·rw [if_pos c52] at H
               have c52b0 : decide (3 < (l0_10.length : Int)) = true := decide_eq_true c52
               have c52b1 : decide (3 < l0_10.length) = true := decide_eq_true (by omega)
               clear c52
               obtain rfl := Option.some.inj H
               have hcz53_0 : wc.cell? ⟨gb174, 0, none⟩ = some (.string a0_0) := (blk_cell BK174.out 0).trans rfl
               have hcz53_1 : wc.cell? ⟨gb174, 1, none⟩ = some (.int .i64 a0_1) := (blk_cell BK174.out 1).trans rfl
               have hcz53_2 : wc.cell? ⟨gb174, 2, none⟩ = some (.int .i64 a0_2) := (blk_cell BK174.out 2).trans rfl
               have hcz53_3 : wc.cell? ⟨gb174, 3, none⟩ = some (.int .i64 a0_3) := (blk_cell BK174.out 3).trans rfl
               have hcz53_4 : wc.cell? ⟨gb174, 4, none⟩ = some (.int .i64 a0_4) := (blk_cell BK174.out 4).trans rfl
               have hcz53_5 : wc.cell? ⟨gb174, 5, none⟩ = some (.int .i64 a0_5) := (blk_cell BK174.out 5).trans rfl
               have hcz53_6 : wc.cell? ⟨gb174, 6, none⟩ = some (.int .i64 a0_6) := (blk_cell BK174.out 6).trans rfl
               have hcz53_7 : wc.cell? ⟨gb174, 7, none⟩ = some (.int .i64 a0_7) := (blk_cell BK174.out 7).trans rfl
               have hcz53_8 : wc.cell? ⟨gb174, 8, none⟩ = some (.int .i64 a0_8) := (blk_cell BK174.out 8).trans rfl
               have hcz53_9 : wc.cell? ⟨gb174, 9, none⟩ = some (.slice A0_9 l0_9.length c0_9) := (blk_cell BK174.out 9).trans rfl
               have hcz53_10 : wc.cell? ⟨gb174, 10, none⟩ = some (.slice A0_10 l0_10.length c0_10) := (blk_cell BK174.out 10).trans rfl
               have hfz53_0 := blk_frozen BK174.out 0
               have hfz53_1 := blk_frozen BK174.out 1
               have hfz53_2 := blk_frozen BK174.out 2
               have hfz53_3 := blk_frozen BK174.out 3
               have hfz53_4 := blk_frozen BK174.out 4
               have hfz53_5 := blk_frozen BK174.out 5
               have hfz53_6 := blk_frozen BK174.out 6
               have hfz53_7 := blk_frozen BK174.out 7
               have hfz53_8 := blk_frozen BK174.out 8
               have hfz53_9 := blk_frozen BK174.out 9
               have hfz53_10 := blk_frozen BK174.out 10
               go_wp2_with (first | ((with_reducible refine gate_callee (f := 94) rfl ?_); refine goesL_ (some 93) rfl rfl Try.func94 (by kernel_rfl) rfl #[.slice A0_9 l0_9.length c0_9, .int .i64 1, .int .i64 a0_8] rfl (by (try simp only [List.map_toArray, List.map_cons, List.map_nil]); first | done | rfl | (simp only [List.length_drop, List.length_take]; rfl)) ?_; (with_reducible refine (lunisolar_rising.calls kj42 _ _ l0_9 1 a0_8 t184 _ ?side1 ?side2 A50.out).mono ?_); (case side1 => repeat (first | exact (Kd.C_below HR0_9.out HB.out) | (with_reducible refine Kd.C_alloc ?_ _) | (with_reducible refine Kd.C_drewN ?_ _) | (with_reducible refine Kd.C_drew ?_))); (case side2 => exact HC0_9.out); rintro e w' ⟨rfl, ⟨nd, rfl⟩⟩; refine ⟨_, rfl, ?_⟩))
               go_ret
               exact ⟨by first | rfl | (simp [errW_none, errW_some] <;> rfl) | (simp [*, errW_none, errW_some] <;> rfl), by repeat (first | (with_reducible first | exact HB.out | apply below_alloc | apply pw_below_drewN | apply below_drew1 | refine below_set ?_ GE174.out) | exact HB.out)⟩
              ·rw [if_neg c52] at H
               have c52b0 : decide (3 < (l0_10.length : Int)) = false := decide_eq_false c52
               have c52b1 : decide (3 < l0_10.length) = false := decide_eq_false (by omega)
               clear c52
               replace H := Option.bind_eq_some_iff.mp H
               obtain ⟨t185, A540, H⟩ := H
               replace H : (some t185) = some r := H
               have A54 := Aside0.mk A540
               clear A540
               obtain rfl := Option.some.inj H
               have hcz55_0 : wc.cell? ⟨gb174, 0, none⟩ = some (.string a0_0) := (blk_cell BK174.out 0).trans rfl
               have hcz55_1 : wc.cell? ⟨gb174, 1, none⟩ = some (.int .i64 a0_1) := (blk_cell BK174.out 1).trans rfl
               have hcz55_2 : wc.cell? ⟨gb174, 2, none⟩ = some (.int .i64 a0_2) := (blk_cell BK174.out 2).trans rfl
               have hcz55_3 : wc.cell? ⟨gb174, 3, none⟩ = some (.int .i64 a0_3) := (blk_cell BK174.out 3).trans rfl
               have hcz55_4 : wc.cell? ⟨gb174, 4, none⟩ = some (.int .i64 a0_4) := (blk_cell BK174.out 4).trans rfl
               have hcz55_5 : wc.cell? ⟨gb174, 5, none⟩ = some (.int .i64 a0_5) := (blk_cell BK174.out 5).trans rfl
               have hcz55_6 : wc.cell? ⟨gb174, 6, none⟩ = some (.int .i64 a0_6) := (blk_cell BK174.out 6).trans rfl
               have hcz55_7 : wc.cell? ⟨gb174, 7, none⟩ = some (.int .i64 a0_7) := (blk_cell BK174.out 7).trans rfl
               have hcz55_8 : wc.cell? ⟨gb174, 8, none⟩ = some (.int .i64 a0_8) := (blk_cell BK174.out 8).trans rfl
               have hcz55_9 : wc.cell? ⟨gb174, 9, none⟩ = some (.slice A0_9 l0_9.length c0_9) := (blk_cell BK174.out 9).trans rfl
               have hcz55_10 : wc.cell? ⟨gb174, 10, none⟩ = some (.slice A0_10 l0_10.length c0_10) := (blk_cell BK174.out 10).trans rfl
               have hfz55_0 := blk_frozen BK174.out 0
               have hfz55_1 := blk_frozen BK174.out 1
               have hfz55_2 := blk_frozen BK174.out 2
               have hfz55_3 := blk_frozen BK174.out 3
               have hfz55_4 := blk_frozen BK174.out 4
               have hfz55_5 := blk_frozen BK174.out 5
               have hfz55_6 := blk_frozen BK174.out 6
               have hfz55_7 := blk_frozen BK174.out 7
               have hfz55_8 := blk_frozen BK174.out 8
               have hfz55_9 := blk_frozen BK174.out 9
               have hfz55_10 := blk_frozen BK174.out 10
               go_wp2_with (first | ((with_reducible refine gate_callee (f := 94) rfl ?_); refine goesL_ (some 93) rfl rfl Try.func94 (by kernel_rfl) rfl #[.slice A0_9 l0_9.length c0_9, .int .i64 1, .int .i64 a0_8] rfl (by (try simp only [List.map_toArray, List.map_cons, List.map_nil]); first | done | rfl | (simp only [List.length_drop, List.length_take]; rfl)) ?_; (with_reducible refine (lunisolar_rising.calls kj42 _ _ l0_9 1 a0_8 t184 _ ?side1 ?side2 A50.out).mono ?_); (case side1 => repeat (first | exact (Kd.C_below HR0_9.out HB.out) | (with_reducible refine Kd.C_alloc ?_ _) | (with_reducible refine Kd.C_drewN ?_ _) | (with_reducible refine Kd.C_drew ?_))); (case side2 => exact HC0_9.out); rintro e w' ⟨rfl, ⟨nd, rfl⟩⟩; refine ⟨_, rfl, ?_⟩) | ((with_reducible refine gate_callee (f := 94) rfl ?_); refine goesL_ (some 103) rfl rfl Try.func94 (by kernel_rfl) rfl #[.slice A0_10 l0_10.length c0_10, .int .i64 0, .int .i64 6] rfl (by (try simp only [List.map_toArray, List.map_cons, List.map_nil]); first | done | rfl | (simp only [List.length_drop, List.length_take]; rfl)) ?_; (with_reducible refine (lunisolar_rising.calls kj42 _ _ l0_10 0 6 t185 _ ?side1 ?side2 A54.out).mono ?_); (case side1 => repeat (first | exact (Kd.C_below HR0_10.out (by repeat (first | (with_reducible first | exact HB.out | apply below_alloc | apply pw_below_drewN | apply below_drew1 | refine below_set ?_ GE174.out) | exact HB.out))) | (with_reducible refine Kd.C_alloc ?_ _) | (with_reducible refine Kd.C_drewN ?_ _) | (with_reducible refine Kd.C_drew ?_))); (case side2 => exact HC0_10.out); rintro e w' ⟨rfl, ⟨nd, rfl⟩⟩; refine ⟨_, rfl, ?_⟩))
               go_ret
               exact ⟨by first | rfl | (simp [errW_none, errW_some] <;> rfl) | (simp [*, errW_none, errW_some] <;> rfl), by repeat (first | (with_reducible first | exact HB.out | apply below_alloc | apply pw_below_drewN | apply below_drew1 | refine below_set ?_ GE174.out) | exact HB.out)⟩
             ·rw [if_neg c51] at H
              have c51b0 : (t184 == 0) = false := beq_eq_false_iff_ne.mpr c51
              have c51b1 : (t184 != 0) = true := bne_iff_ne.mpr c51
              obtain rfl := Option.some.inj H
              have hcz56_0 : wc.cell? ⟨gb174, 0, none⟩ = some (.string a0_0) := (blk_cell BK174.out 0).trans rfl
              have hcz56_1 : wc.cell? ⟨gb174, 1, none⟩ = some (.int .i64 a0_1) := (blk_cell BK174.out 1).trans rfl
              have hcz56_2 : wc.cell? ⟨gb174, 2, none⟩ = some (.int .i64 a0_2) := (blk_cell BK174.out 2).trans rfl
              have hcz56_3 : wc.cell? ⟨gb174, 3, none⟩ = some (.int .i64 a0_3) := (blk_cell BK174.out 3).trans rfl
              have hcz56_4 : wc.cell? ⟨gb174, 4, none⟩ = some (.int .i64 a0_4) := (blk_cell BK174.out 4).trans rfl
              have hcz56_5 : wc.cell? ⟨gb174, 5, none⟩ = some (.int .i64 a0_5) := (blk_cell BK174.out 5).trans rfl
              have hcz56_6 : wc.cell? ⟨gb174, 6, none⟩ = some (.int .i64 a0_6) := (blk_cell BK174.out 6).trans rfl
              have hcz56_7 : wc.cell? ⟨gb174, 7, none⟩ = some (.int .i64 a0_7) := (blk_cell BK174.out 7).trans rfl
              have hcz56_8 : wc.cell? ⟨gb174, 8, none⟩ = some (.int .i64 a0_8) := (blk_cell BK174.out 8).trans rfl
              have hcz56_9 : wc.cell? ⟨gb174, 9, none⟩ = some (.slice A0_9 l0_9.length c0_9) := (blk_cell BK174.out 9).trans rfl
              have hcz56_10 : wc.cell? ⟨gb174, 10, none⟩ = some (.slice A0_10 l0_10.length c0_10) := (blk_cell BK174.out 10).trans rfl
              have hfz56_0 := blk_frozen BK174.out 0
              have hfz56_1 := blk_frozen BK174.out 1
              have hfz56_2 := blk_frozen BK174.out 2
              have hfz56_3 := blk_frozen BK174.out 3
              have hfz56_4 := blk_frozen BK174.out 4
              have hfz56_5 := blk_frozen BK174.out 5
              have hfz56_6 := blk_frozen BK174.out 6
              have hfz56_7 := blk_frozen BK174.out 7
              have hfz56_8 := blk_frozen BK174.out 8
              have hfz56_9 := blk_frozen BK174.out 9
              have hfz56_10 := blk_frozen BK174.out 10
              go_wp2_with (first | ((with_reducible refine gate_callee (f := 94) rfl ?_); refine goesL_ (some 93) rfl rfl Try.func94 (by kernel_rfl) rfl #[.slice A0_9 l0_9.length c0_9, .int .i64 1, .int .i64 a0_8] rfl (by (try simp only [List.map_toArray, List.map_cons, List.map_nil]); first | done | rfl | (simp only [List.length_drop, List.length_take]; rfl)) ?_; (with_reducible refine (lunisolar_rising.calls kj42 _ _ l0_9 1 a0_8 t184 _ ?side1 ?side2 A50.out).mono ?_); (case side1 => repeat (first | exact (Kd.C_below HR0_9.out HB.out) | (with_reducible refine Kd.C_alloc ?_ _) | (with_reducible refine Kd.C_drewN ?_ _) | (with_reducible refine Kd.C_drew ?_))); (case side2 => exact HC0_9.out); rintro e w' ⟨rfl, ⟨nd, rfl⟩⟩; refine ⟨_, rfl, ?_⟩))
              go_ret
              exact ⟨by first | rfl | (simp [errW_none, errW_some] <;> rfl) | (simp [*, errW_none, errW_some] <;> rfl), by repeat (first | (with_reducible first | exact HB.out | apply below_alloc | apply pw_below_drewN | apply below_drew1 | refine below_set ?_ GE174.out) | exact HB.out)⟩
  ·rw [if_neg c5] at H
   have c5b0 : (t176 == 0) = false := beq_eq_false_iff_ne.mpr c5
   have c5b1 : (t176 != 0) = true := bne_iff_ne.mpr c5
   obtain rfl := Option.some.inj H
   go_enter Try.func64, Try.ntmps64
   go_wp2_with (first | ((with_reducible refine gate_dst (N := 1) rfl ?_); refine box_event ?hg (N := 1) ?hd (cs := #[.string a0_0, .int .i64 a0_1, .int .i64 a0_2, .int .i64 a0_3, .int .i64 a0_4, .int .i64 a0_5, .int .i64 a0_6, .int .i64 a0_7, .int .i64 a0_8, .slice A0_9 l0_9.length c0_9, .slice A0_10 l0_10.length c0_10]) (t := 51) ?hr ?_; (case hd => rfl); (case hg => rfl); (case hr => first | (go_simp; done) | (go_simp; rfl)); intro gb174 hg w57 hbox hb; have n0_ := Aside0.mk (below_step (by repeat (first | exact HB.out | apply below_alloc | apply pw_below_drewN | apply below_drew1)) hb); have n1_ := Aside0.mk (hbox); have n2_ := Aside0.mk ((by rw [hg]; exact (below_size (by repeat (first | exact HB.out | apply below_alloc | apply pw_below_drewN | apply below_drew1))) : w.heap.size ≤ gb174)); have n3_ := n2_; clear HB; have HB := n0_; have BK174 := n1_; have GW174 := n2_; have GE174 := n3_; clear n0_ n1_ n2_ n3_; clear hb hbox hg; have hcz58_0 : w57.cell? ⟨gb174, 0, none⟩ = some (.string a0_0) := (blk_cell BK174.out 0).trans rfl; have hcz58_1 : w57.cell? ⟨gb174, 1, none⟩ = some (.int .i64 a0_1) := (blk_cell BK174.out 1).trans rfl; have hcz58_2 : w57.cell? ⟨gb174, 2, none⟩ = some (.int .i64 a0_2) := (blk_cell BK174.out 2).trans rfl; have hcz58_3 : w57.cell? ⟨gb174, 3, none⟩ = some (.int .i64 a0_3) := (blk_cell BK174.out 3).trans rfl; have hcz58_4 : w57.cell? ⟨gb174, 4, none⟩ = some (.int .i64 a0_4) := (blk_cell BK174.out 4).trans rfl; have hcz58_5 : w57.cell? ⟨gb174, 5, none⟩ = some (.int .i64 a0_5) := (blk_cell BK174.out 5).trans rfl; have hcz58_6 : w57.cell? ⟨gb174, 6, none⟩ = some (.int .i64 a0_6) := (blk_cell BK174.out 6).trans rfl; have hcz58_7 : w57.cell? ⟨gb174, 7, none⟩ = some (.int .i64 a0_7) := (blk_cell BK174.out 7).trans rfl; have hcz58_8 : w57.cell? ⟨gb174, 8, none⟩ = some (.int .i64 a0_8) := (blk_cell BK174.out 8).trans rfl; have hcz58_9 : w57.cell? ⟨gb174, 9, none⟩ = some (.slice A0_9 l0_9.length c0_9) := (blk_cell BK174.out 9).trans rfl; have hcz58_10 : w57.cell? ⟨gb174, 10, none⟩ = some (.slice A0_10 l0_10.length c0_10) := (blk_cell BK174.out 10).trans rfl; have hfz58_0 := blk_frozen BK174.out 0; have hfz58_1 := blk_frozen BK174.out 1; have hfz58_2 := blk_frozen BK174.out 2; have hfz58_3 := blk_frozen BK174.out 3; have hfz58_4 := blk_frozen BK174.out 4; have hfz58_5 := blk_frozen BK174.out 5; have hfz58_6 := blk_frozen BK174.out 6; have hfz58_7 := blk_frozen BK174.out 7; have hfz58_8 := blk_frozen BK174.out 8; have hfz58_9 := blk_frozen BK174.out 9; have hfz58_10 := blk_frozen BK174.out 10) | ((with_reducible refine gate_callee (f := 84) rfl ?_); refine goesL_ (some 8) rfl rfl Try.func84 (by kernel_rfl) rfl #[.string a0_0] rfl (by (try simp only [List.map_toArray, List.map_cons, List.map_nil]); first | done | rfl | (simp only [List.length_drop, List.length_take]; rfl)) ?_; (with_reducible refine (rule_Name.calls a0_0 true _ A2.out).mono ?_); rintro e w59 ⟨rfl, hb⟩; refine ⟨_, rfl, ?_⟩; have n0_ := Aside0.mk (blk_below (g := gb174) (o := .cells #[.string a0_0, .int .i64 a0_1, .int .i64 a0_2, .int .i64 a0_3, .int .i64 a0_4, .int .i64 a0_5, .int .i64 a0_6, .int .i64 a0_7, .int .i64 a0_8, .slice A0_9 l0_9.length c0_9, .slice A0_10 l0_10.length c0_10] 51 (0, 0)) (by (with_reducible repeat (first | refine blk_drewN ?_ _ | refine blk_drew ?_ | refine blk_alloc ?_ _)); exact BK174.out) hb); have n1_ := Aside0.mk (below_step (by repeat (first | (with_reducible first | exact HB.out | apply below_alloc | apply pw_below_drewN | apply below_drew1 | refine below_set ?_ GE174.out) | exact HB.out)) hb); clear BK174; clear HB; have BK174 := n0_; have HB := n1_; clear n0_ n1_; (try clear hb); (try clear hb2); (try clear hk); (try clear hi); have hcz60_0 : w59.cell? ⟨gb174, 0, none⟩ = some (.string a0_0) := (blk_cell BK174.out 0).trans rfl; have hcz60_1 : w59.cell? ⟨gb174, 1, none⟩ = some (.int .i64 a0_1) := (blk_cell BK174.out 1).trans rfl; have hcz60_2 : w59.cell? ⟨gb174, 2, none⟩ = some (.int .i64 a0_2) := (blk_cell BK174.out 2).trans rfl; have hcz60_3 : w59.cell? ⟨gb174, 3, none⟩ = some (.int .i64 a0_3) := (blk_cell BK174.out 3).trans rfl; have hcz60_4 : w59.cell? ⟨gb174, 4, none⟩ = some (.int .i64 a0_4) := (blk_cell BK174.out 4).trans rfl; have hcz60_5 : w59.cell? ⟨gb174, 5, none⟩ = some (.int .i64 a0_5) := (blk_cell BK174.out 5).trans rfl; have hcz60_6 : w59.cell? ⟨gb174, 6, none⟩ = some (.int .i64 a0_6) := (blk_cell BK174.out 6).trans rfl; have hcz60_7 : w59.cell? ⟨gb174, 7, none⟩ = some (.int .i64 a0_7) := (blk_cell BK174.out 7).trans rfl; have hcz60_8 : w59.cell? ⟨gb174, 8, none⟩ = some (.int .i64 a0_8) := (blk_cell BK174.out 8).trans rfl; have hcz60_9 : w59.cell? ⟨gb174, 9, none⟩ = some (.slice A0_9 l0_9.length c0_9) := (blk_cell BK174.out 9).trans rfl; have hcz60_10 : w59.cell? ⟨gb174, 10, none⟩ = some (.slice A0_10 l0_10.length c0_10) := (blk_cell BK174.out 10).trans rfl; have hfz60_0 := blk_frozen BK174.out 0; have hfz60_1 := blk_frozen BK174.out 1; have hfz60_2 := blk_frozen BK174.out 2; have hfz60_3 := blk_frozen BK174.out 3; have hfz60_4 := blk_frozen BK174.out 4; have hfz60_5 := blk_frozen BK174.out 5; have hfz60_6 := blk_frozen BK174.out 6; have hfz60_7 := blk_frozen BK174.out 7; have hfz60_8 := blk_frozen BK174.out 8; have hfz60_9 := blk_frozen BK174.out 9; have hfz60_10 := blk_frozen BK174.out 10) | ((with_reducible refine gate_callee (f := 48) rfl ?_); refine goesL_ (some 12) rfl rfl Try.func48 (by kernel_rfl) rfl #[.int .i64 a0_1] rfl (by (try simp only [List.map_toArray, List.map_cons, List.map_nil]); first | done | rfl | (simp only [List.length_drop, List.length_take]; rfl)) ?_; (with_reducible refine (line_Check.calls a0_1 t176 _ A4.out).mono ?_); rintro e w' ⟨rfl, ⟨nd, rfl⟩⟩; refine ⟨_, rfl, ?_⟩))
   go_ret
   exact ⟨by first | rfl | (simp [errW_none, errW_some] <;> rfl) | (simp [*, errW_none, errW_some] <;> rfl), by repeat (first | (with_reducible first | exact HB.out | apply below_alloc | apply pw_below_drewN | apply below_drew1 | refine below_set ?_ GE174.out) | exact HB.out)⟩
 ·replace c3 := Bool.eq_false_iff.mpr c3
  subst c3
  have H1 : (some 5) = some r := by rw [if_neg (show ¬ (false = true) by decide)] at H; exact H
  clear H
  have H := H1
  clear H1
  obtain rfl := Option.some.inj H
  go_enter Try.func64, Try.ntmps64
  go_wp2_with (first | ((with_reducible refine gate_dst (N := 1) rfl ?_); refine box_event ?hg (N := 1) ?hd (cs := #[.string a0_0, .int .i64 a0_1, .int .i64 a0_2, .int .i64 a0_3, .int .i64 a0_4, .int .i64 a0_5, .int .i64 a0_6, .int .i64 a0_7, .int .i64 a0_8, .slice A0_9 l0_9.length c0_9, .slice A0_10 l0_10.length c0_10]) (t := 51) ?hr ?_; (case hd => rfl); (case hg => rfl); (case hr => first | (go_simp; done) | (go_simp; rfl)); intro gb174 hg w61 hbox hb; have n0_ := Aside0.mk (below_step (by repeat (first | exact HB.out | apply below_alloc | apply pw_below_drewN | apply below_drew1)) hb); have n1_ := Aside0.mk (hbox); have n2_ := Aside0.mk ((by rw [hg]; exact (below_size (by repeat (first | exact HB.out | apply below_alloc | apply pw_below_drewN | apply below_drew1))) : w.heap.size ≤ gb174)); have n3_ := n2_; clear HB; have HB := n0_; have BK174 := n1_; have GW174 := n2_; have GE174 := n3_; clear n0_ n1_ n2_ n3_; clear hb hbox hg; have hcz62_0 : w61.cell? ⟨gb174, 0, none⟩ = some (.string a0_0) := (blk_cell BK174.out 0).trans rfl; have hcz62_1 : w61.cell? ⟨gb174, 1, none⟩ = some (.int .i64 a0_1) := (blk_cell BK174.out 1).trans rfl; have hcz62_2 : w61.cell? ⟨gb174, 2, none⟩ = some (.int .i64 a0_2) := (blk_cell BK174.out 2).trans rfl; have hcz62_3 : w61.cell? ⟨gb174, 3, none⟩ = some (.int .i64 a0_3) := (blk_cell BK174.out 3).trans rfl; have hcz62_4 : w61.cell? ⟨gb174, 4, none⟩ = some (.int .i64 a0_4) := (blk_cell BK174.out 4).trans rfl; have hcz62_5 : w61.cell? ⟨gb174, 5, none⟩ = some (.int .i64 a0_5) := (blk_cell BK174.out 5).trans rfl; have hcz62_6 : w61.cell? ⟨gb174, 6, none⟩ = some (.int .i64 a0_6) := (blk_cell BK174.out 6).trans rfl; have hcz62_7 : w61.cell? ⟨gb174, 7, none⟩ = some (.int .i64 a0_7) := (blk_cell BK174.out 7).trans rfl; have hcz62_8 : w61.cell? ⟨gb174, 8, none⟩ = some (.int .i64 a0_8) := (blk_cell BK174.out 8).trans rfl; have hcz62_9 : w61.cell? ⟨gb174, 9, none⟩ = some (.slice A0_9 l0_9.length c0_9) := (blk_cell BK174.out 9).trans rfl; have hcz62_10 : w61.cell? ⟨gb174, 10, none⟩ = some (.slice A0_10 l0_10.length c0_10) := (blk_cell BK174.out 10).trans rfl; have hfz62_0 := blk_frozen BK174.out 0; have hfz62_1 := blk_frozen BK174.out 1; have hfz62_2 := blk_frozen BK174.out 2; have hfz62_3 := blk_frozen BK174.out 3; have hfz62_4 := blk_frozen BK174.out 4; have hfz62_5 := blk_frozen BK174.out 5; have hfz62_6 := blk_frozen BK174.out 6; have hfz62_7 := blk_frozen BK174.out 7; have hfz62_8 := blk_frozen BK174.out 8; have hfz62_9 := blk_frozen BK174.out 9; have hfz62_10 := blk_frozen BK174.out 10) | ((with_reducible refine gate_callee (f := 84) rfl ?_); refine goesL_ (some 8) rfl rfl Try.func84 (by kernel_rfl) rfl #[.string a0_0] rfl (by (try simp only [List.map_toArray, List.map_cons, List.map_nil]); first | done | rfl | (simp only [List.length_drop, List.length_take]; rfl)) ?_; (with_reducible refine (rule_Name.calls a0_0 false _ A2.out).mono ?_); rintro e w63 ⟨rfl, hb⟩; refine ⟨_, rfl, ?_⟩; have n0_ := Aside0.mk (blk_below (g := gb174) (o := .cells #[.string a0_0, .int .i64 a0_1, .int .i64 a0_2, .int .i64 a0_3, .int .i64 a0_4, .int .i64 a0_5, .int .i64 a0_6, .int .i64 a0_7, .int .i64 a0_8, .slice A0_9 l0_9.length c0_9, .slice A0_10 l0_10.length c0_10] 51 (0, 0)) (by (with_reducible repeat (first | refine blk_drewN ?_ _ | refine blk_drew ?_ | refine blk_alloc ?_ _)); exact BK174.out) hb); have n1_ := Aside0.mk (below_step (by repeat (first | (with_reducible first | exact HB.out | apply below_alloc | apply pw_below_drewN | apply below_drew1 | refine below_set ?_ GE174.out) | exact HB.out)) hb); clear BK174; clear HB; have BK174 := n0_; have HB := n1_; clear n0_ n1_; (try clear hb); (try clear hb2); (try clear hk); (try clear hi)))
  go_ret
  exact ⟨by first | rfl | (simp [errW_none, errW_some] <;> rfl) | (simp [*, errW_none, errW_some] <;> rfl), by repeat (first | (with_reducible first | exact HB.out | apply below_alloc | apply pw_below_drewN | apply below_drew1 | refine below_set ?_ GE174.out) | exact HB.out)⟩

end Go.Proofs.Ytlefdgllpdbkjaa.PLunisolarFromDays
