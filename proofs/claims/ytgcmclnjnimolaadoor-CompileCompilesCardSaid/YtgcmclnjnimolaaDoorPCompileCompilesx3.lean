/- The walks of the functions of this part. The proof of runtime_plainError_RuntimeError, rule_Check (in part) is written by hand; the other ones are as the kit's print tells them. -/
-- The walks of the law's functions, told by a program.
import Derived.Test.YtgcmclnjnimolaaDoorY
import Derived.Test.YtgcmclnjnimolaaDoorPCompileCompilesx0
import Derived.Test.YtgcmclnjnimolaaDoorPCompileCompilesx2
namespace Go.Proofs.YtgcmclnjnimolaaDoor.PCompileCompiles
open Go.RowKit Go.Proofs.YtgcmclnjnimolaaDoorW.PrintWords Go.Proofs.YtgcmclnjnimolaaDoorW.PrintLast Go.Proofs.YtgcmclnjnimolaaDoorW.PrintMore Go.Proofs.YtgcmclnjnimolaaDoor.Y
attribute [local go_sem] max2_int min2_int max_two min_two max_three min_three max_four min_four   -- for this text's walks alone
set_option linter.unusedVariables false
set_option linter.unusedSimpArgs false

/-! ### rule_Months: function 25 -/
mutual
def rule_Months.j0 : Nat → List (S53) → Bool → Option (Int)
 | 0, _, _ => none
 | k + 1, x0, x16 => if x16 = true then (some 2) else (rule_Months.l0 k x0 0 0 x0 (x0.length : Int) 0)
def rule_Months.l0 : Nat → List (S53) → Int → Int → List (S53) → Int → Int → Option (Int)
 | 0, _, _, _, _, _, _ => none
 | k + 1, x0, x3, x4, x17, x18, x19 => if x19 < x18 then (if 0 ≤ x19 then (if x19 < (x17.length : Int) then ((rule_Name.f ((rd_T53 x17 x19).f0)).bind fun t125 => (if t125 = true then (if x19 ≤ (x0.length : Int) then ((some (x0.take (x19 : Int).toNat : List (S53))).bind fun y126 => (rule_Months.l1 k x0 x3 x4 x17 x18 x19 y126 (y126.length : Int) 0 ((rd_T53 x17 x19).f0) ((rd_T53 x17 x19).f1) ((rd_T53 x17 x19).f2))) else (none)) else (some 5))) else (none)) else (none)) else (if x3 = 0 then (some 8) else (if x4 = 0 then (some 8) else (some 0)))
def rule_Months.l1 : Nat → List (S53) → Int → Int → List (S53) → Int → Int → List (S53) → Int → Int → ByteArray → Int → Int → Option (Int)
 | 0, _, _, _, _, _, _, _, _, _, _, _, _ => none
 | k + 1, x0, x3, x4, x17, x18, x19, x30, x31, x32, x125000, x125001, x125002 => if x32 < x31 then (if 0 ≤ x32 then (if x32 < (x30.length : Int) then (if ((rd_T53 x30 x32).f0).toList = x125000.toList then (some 7) else (rule_Months.l1 k x0 x3 x4 x17 x18 x19 x30 x31 (wrap64 (x32 + 1)) x125000 x125001 x125002)) else (none)) else (none)) else (if x125001 < 0 then (some 3) else (if x125001 > 400 then (some 3) else (if x125002 < 0 then (some 3) else (if x125002 > 400 then (some 3) else (rule_Months.l0 k x0 (wrap64 (x3 + x125001)) (wrap64 (x4 + x125002)) x17 x18 (wrap64 (x19 + 1)))))))
end
def rule_Months.f (k : Nat) (l0 : List (S53)) : Option (Int) := if (l0.length : Int) < 1 then (rule_Months.j0 k l0 true) else (rule_Months.j0 k l0 (decide ((l0.length : Int) > 20)))
theorem rule_Months.mono_l : ∀ k, (∀ y0 y1, LeO (rule_Months.j0 k y0 y1) (rule_Months.j0 (k + 1) y0 y1)) ∧ (∀ y0 y1 y2 y3 y4 y5, LeO (rule_Months.l0 k y0 y1 y2 y3 y4 y5) (rule_Months.l0 (k + 1) y0 y1 y2 y3 y4 y5)) ∧ (∀ y0 y1 y2 y3 y4 y5 y6 y7 y8 y9 y10 y11, LeO (rule_Months.l1 k y0 y1 y2 y3 y4 y5 y6 y7 y8 y9 y10 y11) (rule_Months.l1 (k + 1) y0 y1 y2 y3 y4 y5 y6 y7 y8 y9 y10 y11))
 | 0 => ⟨fun _ _ r h => by simp [rule_Months.j0] at h, fun _ _ _ _ _ _ r h => by simp [rule_Months.l0] at h, fun _ _ _ _ _ _ _ _ _ _ _ _ r h => by simp [rule_Months.l1] at h⟩
 | k + 1 => by
  obtain ⟨ih0, ih1, ih2⟩ := rule_Months.mono_l k
  refine ⟨?_, ?_, ?_⟩
  ·intro y0 y1
   unfold rule_Months.j0
   repeat' first
   | (with_reducible exact ih0 _ _)
   | (with_reducible exact ih1 _ _ _ _ _ _)
   | (with_reducible exact ih2 _ _ _ _ _ _ _ _ _ _ _ _)
   | (with_reducible exact LeO.refl _)
   | (with_reducible exact LeO.none _)
   | (with_reducible refine LeO.ite ?_ ?_)
   | (with_reducible refine LeO.bind ?_ (fun _ => ?_))
   | exact ih0 _ _
   | exact ih1 _ _ _ _ _ _
   | exact ih2 _ _ _ _ _ _ _ _ _ _ _ _
   | exact LeO.none _
   | refine LeO.ite ?_ ?_
   | refine LeO.bind ?_ (fun _ => ?_)
  ·intro y0 y1 y2 y3 y4 y5
   unfold rule_Months.l0
   repeat' first
   | (with_reducible exact ih0 _ _)
   | (with_reducible exact ih1 _ _ _ _ _ _)
   | (with_reducible exact ih2 _ _ _ _ _ _ _ _ _ _ _ _)
   | (with_reducible exact LeO.refl _)
   | (with_reducible exact LeO.none _)
   | (with_reducible refine LeO.ite ?_ ?_)
   | (with_reducible refine LeO.bind ?_ (fun _ => ?_))
   | exact ih0 _ _
   | exact ih1 _ _ _ _ _ _
   | exact ih2 _ _ _ _ _ _ _ _ _ _ _ _
   | exact LeO.none _
   | refine LeO.ite ?_ ?_
   | refine LeO.bind ?_ (fun _ => ?_)
  ·intro y0 y1 y2 y3 y4 y5 y6 y7 y8 y9 y10 y11
   unfold rule_Months.l1
   repeat' first
   | (with_reducible exact ih0 _ _)
   | (with_reducible exact ih1 _ _ _ _ _ _)
   | (with_reducible exact ih2 _ _ _ _ _ _ _ _ _ _ _ _)
   | (with_reducible exact LeO.refl _)
   | (with_reducible exact LeO.none _)
   | (with_reducible refine LeO.ite ?_ ?_)
   | (with_reducible refine LeO.bind ?_ (fun _ => ?_))
   | exact ih0 _ _
   | exact ih1 _ _ _ _ _ _
   | exact ih2 _ _ _ _ _ _ _ _ _ _ _ _
   | exact LeO.none _
   | refine LeO.ite ?_ ?_
   | refine LeO.bind ?_ (fun _ => ?_)
theorem rule_Months.mono : ∀ a0 k, LeO (rule_Months.f k a0) (rule_Months.f (k + 1) a0) := by
 intro a0 k
 obtain ⟨ih0, ih1, ih2⟩ := rule_Months.mono_l k
 unfold rule_Months.f
 repeat' first
   | (with_reducible exact ih0 _ _)
   | (with_reducible exact ih1 _ _ _ _ _ _)
   | (with_reducible exact ih2 _ _ _ _ _ _ _ _ _ _ _ _)
   | (with_reducible exact LeO.refl _)
   | (with_reducible exact LeO.none _)
   | (with_reducible refine LeO.ite ?_ ?_)
   | (with_reducible refine LeO.bind ?_ (fun _ => ?_))
   | exact ih0 _ _
   | exact ih1 _ _ _ _ _ _
   | exact ih2 _ _ _ _ _ _ _ _ _ _ _ _
   | exact LeO.none _
   | refine LeO.ite ?_ ?_
   | refine LeO.bind ?_ (fun _ => ?_)
set_option maxHeartbeats 8000000 in
set_option maxRecDepth 100000 in
theorem rule_Months.calls (k : Nat) (A0 : Option Addr) (c0 : Nat) (l0 : List (S53)) (r : Int) (w : World) (hr0 : Kd.C k53 w A0 l0.length l0) (hc0 : l0.length ≤ c0) (h : rule_Months.f k l0 = some r) :
  Calls Tryd.prog 25 #[.slice A0 l0.length c0] w fun e w' => e = .returned (.int .i64 r) ∧ Below w.heap.size w w' := by
 have hu53 := Tryd.underlying53
 have HR0 := Aside0.mk hr0
 have HC0 := Aside0.mk hc0
 clear hr0 hc0
 have HB := Aside0.mk (Below.refl w.heap.size w)
 have H : (if (l0.length : Int) < 1 then (rule_Months.j0 k l0 true) else (rule_Months.j0 k l0 (decide ((l0.length : Int) > 20)))) = some r := h
 clear h
 have HC2 := Aside0.mk H
 clear H
 go_enter Tryd.func25, Tryd.ntmps25
 go_upto_region 1 with (fail)
 repeat (go_quiet (fail); go_upto_region 1 with (fail))
 go_cut [16] (fun v16 wc => ∃ (kq : Nat) (x16_1 : Bool), v16 = .bool x16_1 ∧ Aside0 (rule_Months.j0 kq l0 x16_1 = some r) ∧ Aside0 (kq ≤ k) ∧ Aside0 (Below w.heap.size w wc))
 case first =>
  have H := HC2.out
  clear HC2
  by_cases c3 : (l0.length : Int) < 1
  ·rw [if_pos c3] at H
   have c3b0 : decide ((l0.length : Int) < 1) = true := decide_eq_true c3
   have c3b1 : decide (l0.length < 1) = true := decide_eq_true (by omega)
   clear c3
   (first | rw [c3b0] | (simp only [i64_w, i32_w]; rw [c3b0]) | skip)
   have H' := Aside0.mk H
   clear H
   go_wp2
   repeat (go_quiet (fail); try go_wp2)
   go_meet
   case rel => exact ⟨_, (true), rs, H', ⟨by first | omega | exact Nat.le_refl _⟩, ⟨be⟩⟩
  ·rw [if_neg c3] at H
   have c3b0 : decide ((l0.length : Int) < 1) = false := decide_eq_false c3
   have c3b1 : decide (l0.length < 1) = false := decide_eq_false (by omega)
   clear c3
   (first | rw [c3b0] | (simp only [i64_w, i32_w]; rw [c3b0]) | skip)
   have H' := Aside0.mk H
   clear H
   go_wp2
   repeat (go_quiet (fail); try go_wp2)
   go_meet
   case rel => exact ⟨_, (decide ((l0.length : Int) > 20)), rs, H', ⟨by first | omega | exact Nat.le_refl _⟩, ⟨be⟩⟩
 case rest =>
  clear HC2
  (try clear c2); (try clear p2); (try clear c3); (try clear c3b0); (try clear c3b1)
  obtain ⟨kq, x16_1, rfl, HA, HJ1, HB⟩ := hcut
  cases kq with
  | zero => exact absurd HA.out (by simp [rule_Months.j0])
  | succ kj1 =>
   have H := HA.out
   clear HA
   simp only [rule_Months.j0] at H
   by_cases c4 : x16_1 = true
   ·subst c4
    have H1 : (some 2) = some r := by rw [if_pos rfl] at H; exact H
    clear H
    have H := H1
    clear H1
    obtain rfl := Option.some.inj H
    go_wp2
    repeat (go_quiet (fail); try go_wp2)
    go_ret
    exact ⟨by first | rfl | (simp [errW_none, errW_some] <;> rfl) | (simp [*, errW_none, errW_some] <;> rfl), be⟩
   ·replace c4 := Bool.eq_false_iff.mpr c4
    subst c4
    have H1 : (rule_Months.l0 kj1 l0 0 0 l0 (l0.length : Int) 0) = some r := by rw [if_neg (show ¬ (false = true) by decide)] at H; exact H
    clear H
    have H := H1
    clear H1
    have H' := Aside0.mk H
    clear H
    go_wp2
    repeat (go_quiet (fail); try go_wp2)
    go_loopg [3, 4, 19] kj1 (fun kq v3 v4 v19 w' => ∃ (x3_2 : Int) (x4_2 : Int) (x19_2 : Int), v3 = .int .i64 x3_2 ∧ v4 = .int .i64 x4_2 ∧ v19 = .int .i64 x19_2 ∧ Aside0 (rule_Months.l0 kq l0 x3_2 x4_2 l0 (l0.length : Int) x19_2 = some r) ∧ Aside0 (kq ≤ kj1) ∧ Aside0 (Below w.heap.size w w'))
    case atStart => exact ⟨(0), (0), (0), rs, rs, rs, H', ⟨Nat.le_refl _⟩, ⟨be⟩⟩
    case round =>
     clear H'
     (try clear c2); (try clear p2); (try clear c3); (try clear c3b0); (try clear c3b1); (try clear c4); (try clear p2)
     obtain ⟨x3_2, x4_2, x19_2, rfl, rfl, rfl, HA, HK2, HB⟩ := hrel
     cases gk with
     | zero => exact absurd HA.out (by simp [rule_Months.l0])
     | succ k2 =>
      have H := HA.out
      clear HA
      simp only [rule_Months.l0] at H
      by_cases c5 : x19_2 < (l0.length : Int)
      ·rw [if_pos c5] at H
       have c5b0 : decide (x19_2 < (l0.length : Int)) = true := decide_eq_true c5
       clear c5
       by_cases c6 : 0 ≤ x19_2
       ·rw [if_pos c6] at H
        have c6b0 : decide (0 ≤ x19_2) = true := decide_eq_true c6
        clear c6
        by_cases c7 : x19_2 < (l0.length : Int)
        ·rw [if_pos c7] at H
         have c7b0 : decide (x19_2 < (l0.length : Int)) = true := decide_eq_true c7
         clear c7
         replace H := Option.bind_eq_some_iff.mp H
         obtain ⟨t125, A80, H⟩ := H
         replace H : (if t125 = true then (if x19_2 ≤ (l0.length : Int) then ((some (l0.take (x19_2 : Int).toNat : List (S53))).bind fun y126 => (rule_Months.l1 k2 l0 x3_2 x4_2 l0 (l0.length : Int) x19_2 y126 (y126.length : Int) 0 ((rd_T53 l0 x19_2).f0) ((rd_T53 l0 x19_2).f1) ((rd_T53 l0 x19_2).f2))) else (none)) else (some 5)) = some r := H
         have A8 := Aside0.mk A80
         clear A80
         by_cases c9 : t125 = true
         ·subst c9
          have H1 : (if x19_2 ≤ (l0.length : Int) then ((some (l0.take (x19_2 : Int).toNat : List (S53))).bind fun y126 => (rule_Months.l1 k2 l0 x3_2 x4_2 l0 (l0.length : Int) x19_2 y126 (y126.length : Int) 0 ((rd_T53 l0 x19_2).f0) ((rd_T53 l0 x19_2).f1) ((rd_T53 l0 x19_2).f2))) else (none)) = some r := by rw [if_pos rfl] at H; exact H
          clear H
          have H := H1
          clear H1
          have c10b0 := eq_true (of_decide_eq_true ka : 0 ≤ x19_2)
          by_cases c11 : x19_2 ≤ (l0.length : Int)
          ·rw [if_pos c11] at H
           have c11b0 := eq_true c11
           have c11b1 : decide (x19_2 ≤ (l0.length : Int)) = true := decide_eq_true c11
           clear c11
           obtain ⟨y126, hy126⟩ : ∃ y_ : List (S53), y_ = (l0.take (x19_2 : Int).toNat) := ⟨_, rfl⟩
           replace H : (rule_Months.l1 k2 l0 x3_2 x4_2 l0 (l0.length : Int) x19_2 y126 (y126.length : Int) 0 ((rd_T53 l0 x19_2).f0) ((rd_T53 l0 x19_2).f1) ((rd_T53 l0 x19_2).f2)) = some r := rp hy126 H
           have Ny126 := Aside0.mk hy126
           clear hy126
           have H' := Aside0.mk H
           clear H
           have p123 : 0 ≤ (x19_2 : Int) := of_decide_eq_true ka
           have q123 : x19_2 < (l0.length : Int) := of_decide_eq_true ka
           obtain ⟨ad123, e123, hx123_0, hx123_1, hx123_2⟩ := at_T53 HR0.out x19_2 p123 q123
           cases e123
           replace hx123_0 := (HB.out.cell (World.block_lt_of_cell? w _ hx123_0)).trans hx123_0
           replace hx123_1 := (HB.out.cell (World.block_lt_of_cell? w _ hx123_1)).trans hx123_1
           replace hx123_2 := (HB.out.cell (World.block_lt_of_cell? w _ hx123_2)).trans hx123_2
           replace p123 := eq_true p123
           replace q123 := eq_true q123
           go_wp2_with (first | ((with_reducible refine gate_dst (N := 6) rfl ?_); (try (refine gate_guard (by rfl) ?_; dsimp only)); refine box_event ?hg (N := 6) ?hd (cs := #[.string (⟨#[]⟩ : ByteArray), .int .i64 0, .int .i64 0]) (t := 53) ?hr ?_; (case hd => rfl); (case hg => rfl); (case hr => first | (go_simp; done) | (go_simp; rfl)); intro gb124 hg w12 hbox hb; have n0_ := Aside0.mk (below_step be hb); have n1_ := Aside0.mk (hbox); have n2_ := gs hg HB; have n3_ := n2_; clear HB; have HB := n0_; have BK124 := n1_; have GW124 := n2_; have GE124 := n3_; clear n0_ n1_ n2_ n3_; clear hb hbox hg; obtain ⟨hcz13_0, hcz13_1, hcz13_2, hfz13_0, hfz13_1, hfz13_2⟩ := bc3 BK124) | (go_at_call 22; (with_reducible refine (rule_Name.calls ((rd_T53 l0 x19_2).f0) true _ A8.out).mono ?_); rintro e w14 ⟨rfl, hb⟩; have n0_ := Aside0.mk (blk_below (g := gb124) (o := .cells #[.string ((rd_T53 l0 x19_2).f0), .int .i64 ((rd_T53 l0 x19_2).f1), .int .i64 ((rd_T53 l0 x19_2).f2)] 53 (0, 0)) (bk BK124) hb); have n1_ := Aside0.mk (below_step be hb); clear BK124; clear HB; have BK124 := n0_; have HB := n1_; clear n0_ n1_; (try clear hb); (try clear hb2); (try clear hk); (try clear hi); have q15 : (x19_2 : Int) ≤ ((l0.length : Int) : Int) := of_decide_eq_true ka; obtain ⟨i015, hi015, _, hsz15, _⟩ := info_parts info53; have hroom15 : l0.length ≤ c0 := HC0.out; have hC15 : Kd.C k53 _ (some ad123) l0.length l0 := HR0.out; have hcut15 := cut_to (P := Tryd.prog) 25 53 .i64 Tryd.underlying25 hi015 (some ad123) l0.length c0 x19_2 (of_decide_eq_true ka) q15 hroom15; have hr15 := Kd.C_take (m := (x19_2 : Int).toNat) hC15 (by omega); have hy15 : y126.length = (x19_2 : Int).toNat := (by rw [Ny126.out, List.length_take]; omega); rw [← Ny126.out] at hr15; rw [← hy15] at hcut15; have HR129 := Aside0.mk hr15; have HC129 := Aside0.mk (show y126.length ≤ c0 from by omega); clear hr15 hC15 hroom15 hi015 hsz15; have KY15 := Aside0.mk hy15; clear hy15; replace q15 := eq_true q15))
           repeat (go_quiet (first | ((with_reducible refine gate_dst (N := 6) rfl ?_); (try (refine gate_guard (by rfl) ?_; dsimp only)); refine box_event ?hg (N := 6) ?hd (cs := #[.string (⟨#[]⟩ : ByteArray), .int .i64 0, .int .i64 0]) (t := 53) ?hr ?_; (case hd => rfl); (case hg => rfl); (case hr => first | (go_simp; done) | (go_simp; rfl)); intro gb124 hg w12 hbox hb; have n0_ := Aside0.mk (below_step be hb); have n1_ := Aside0.mk (hbox); have n2_ := gs hg HB; have n3_ := n2_; clear HB; have HB := n0_; have BK124 := n1_; have GW124 := n2_; have GE124 := n3_; clear n0_ n1_ n2_ n3_; clear hb hbox hg; obtain ⟨hcz13_0, hcz13_1, hcz13_2, hfz13_0, hfz13_1, hfz13_2⟩ := bc3 BK124) | (go_at_call 22; (with_reducible refine (rule_Name.calls ((rd_T53 l0 x19_2).f0) true _ A8.out).mono ?_); rintro e w14 ⟨rfl, hb⟩; have n0_ := Aside0.mk (blk_below (g := gb124) (o := .cells #[.string ((rd_T53 l0 x19_2).f0), .int .i64 ((rd_T53 l0 x19_2).f1), .int .i64 ((rd_T53 l0 x19_2).f2)] 53 (0, 0)) (bk BK124) hb); have n1_ := Aside0.mk (below_step be hb); clear BK124; clear HB; have BK124 := n0_; have HB := n1_; clear n0_ n1_; (try clear hb); (try clear hb2); (try clear hk); (try clear hi); have q15 : (x19_2 : Int) ≤ ((l0.length : Int) : Int) := of_decide_eq_true ka; obtain ⟨i015, hi015, _, hsz15, _⟩ := info_parts info53; have hroom15 : l0.length ≤ c0 := HC0.out; have hC15 : Kd.C k53 _ (some ad123) l0.length l0 := HR0.out; have hcut15 := cut_to (P := Tryd.prog) 25 53 .i64 Tryd.underlying25 hi015 (some ad123) l0.length c0 x19_2 (of_decide_eq_true ka) q15 hroom15; have hr15 := Kd.C_take (m := (x19_2 : Int).toNat) hC15 (by omega); have hy15 : y126.length = (x19_2 : Int).toNat := (by rw [Ny126.out, List.length_take]; omega); rw [← Ny126.out] at hr15; rw [← hy15] at hcut15; have HR129 := Aside0.mk hr15; have HC129 := Aside0.mk (show y126.length ≤ c0 from by omega); clear hr15 hC15 hroom15 hi015 hsz15; have KY15 := Aside0.mk hy15; clear hy15; replace q15 := eq_true q15)); try go_wp2_with (first | ((with_reducible refine gate_dst (N := 6) rfl ?_); (try (refine gate_guard (by rfl) ?_; dsimp only)); refine box_event ?hg (N := 6) ?hd (cs := #[.string (⟨#[]⟩ : ByteArray), .int .i64 0, .int .i64 0]) (t := 53) ?hr ?_; (case hd => rfl); (case hg => rfl); (case hr => first | (go_simp; done) | (go_simp; rfl)); intro gb124 hg w12 hbox hb; have n0_ := Aside0.mk (below_step be hb); have n1_ := Aside0.mk (hbox); have n2_ := gs hg HB; have n3_ := n2_; clear HB; have HB := n0_; have BK124 := n1_; have GW124 := n2_; have GE124 := n3_; clear n0_ n1_ n2_ n3_; clear hb hbox hg; obtain ⟨hcz13_0, hcz13_1, hcz13_2, hfz13_0, hfz13_1, hfz13_2⟩ := bc3 BK124) | (go_at_call 22; (with_reducible refine (rule_Name.calls ((rd_T53 l0 x19_2).f0) true _ A8.out).mono ?_); rintro e w14 ⟨rfl, hb⟩; have n0_ := Aside0.mk (blk_below (g := gb124) (o := .cells #[.string ((rd_T53 l0 x19_2).f0), .int .i64 ((rd_T53 l0 x19_2).f1), .int .i64 ((rd_T53 l0 x19_2).f2)] 53 (0, 0)) (bk BK124) hb); have n1_ := Aside0.mk (below_step be hb); clear BK124; clear HB; have BK124 := n0_; have HB := n1_; clear n0_ n1_; (try clear hb); (try clear hb2); (try clear hk); (try clear hi); have q15 : (x19_2 : Int) ≤ ((l0.length : Int) : Int) := of_decide_eq_true ka; obtain ⟨i015, hi015, _, hsz15, _⟩ := info_parts info53; have hroom15 : l0.length ≤ c0 := HC0.out; have hC15 : Kd.C k53 _ (some ad123) l0.length l0 := HR0.out; have hcut15 := cut_to (P := Tryd.prog) 25 53 .i64 Tryd.underlying25 hi015 (some ad123) l0.length c0 x19_2 (of_decide_eq_true ka) q15 hroom15; have hr15 := Kd.C_take (m := (x19_2 : Int).toNat) hC15 (by omega); have hy15 : y126.length = (x19_2 : Int).toNat := (by rw [Ny126.out, List.length_take]; omega); rw [← Ny126.out] at hr15; rw [← hy15] at hcut15; have HR129 := Aside0.mk hr15; have HC129 := Aside0.mk (show y126.length ≤ c0 from by omega); clear hr15 hC15 hroom15 hi015 hsz15; have KY15 := Aside0.mk hy15; clear hy15; replace q15 := eq_true q15)))
           go_loopg [32] k2 (fun kq v32 w' => ∃ (x32_3 : Int), v32 = .int .i64 x32_3 ∧ Aside0 (rule_Months.l1 kq l0 x3_2 x4_2 l0 (l0.length : Int) x19_2 y126 (y126.length : Int) x32_3 ((rd_T53 l0 x19_2).f0) ((rd_T53 l0 x19_2).f1) ((rd_T53 l0 x19_2).f2) = some r) ∧ Aside0 (kq ≤ k2) ∧ Aside0 (w'.heap[gb124]? = some (.cells #[.string ((rd_T53 l0 x19_2).f0), .int .i64 ((rd_T53 l0 x19_2).f1), .int .i64 ((rd_T53 l0 x19_2).f2)] 53 (0, 0))) ∧ Aside0 (Below w.heap.size w w'))
           case atStart => exact ⟨(0), rs, H', ⟨Nat.le_refl _⟩, ⟨bk BK124⟩, ⟨be⟩⟩
           case round =>
            clear H'
            (try clear c1); (try clear p1); (try clear q1); (try clear hx1); (try clear c2); (try clear p2); (try clear c3); (try clear c3b0); (try clear c3b1); (try clear c4); (try clear c5); (try clear c5b0); (try clear c6); (try clear c6b0); (try clear c7); (try clear c7b0); (try clear c9); (try clear c10); (try clear c10b0); (try clear c11); (try clear c11b0); (try clear c11b1); (try clear p12); (try clear q12); (try clear hx12); (try clear q15); (try clear hcz13_0); (try clear hcz13_1); (try clear hcz13_2); (try clear hfz13_0); (try clear hfz13_1); (try clear hfz13_2); (try clear hx123_0); (try clear hx123_1); (try clear hx123_2); (try clear p123); (try clear p2); (try clear q123); (try clear q15)
            obtain ⟨x32_3, rfl, HA, HK3, BK124, HB⟩ := hrel
            cases gk with
            | zero => exact absurd HA.out (by simp [rule_Months.l1])
            | succ k3 =>
             have H := HA.out
             clear HA
             simp only [rule_Months.l1] at H
             by_cases c16 : x32_3 < (y126.length : Int)
             ·rw [if_pos c16] at H
              have c16b0 : decide (x32_3 < (y126.length : Int)) = true := decide_eq_true c16
              clear c16
              by_cases c17 : 0 ≤ x32_3
              ·rw [if_pos c17] at H
               have c17b0 : decide (0 ≤ x32_3) = true := decide_eq_true c17
               clear c17
               by_cases c18 : x32_3 < (y126.length : Int)
               ·rw [if_pos c18] at H
                have c18b0 : decide (x32_3 < (y126.length : Int)) = true := decide_eq_true c18
                clear c18
                by_cases c19 : ((rd_T53 y126 x32_3).f0).toList = ((rd_T53 l0 x19_2).f0).toList
                ·rw [if_pos c19] at H
                 have c19b0 : (((rd_T53 y126 x32_3).f0).toList == ((rd_T53 l0 x19_2).f0).toList) = true := beq_iff_eq.mpr c19
                 have c19b1 : (((rd_T53 y126 x32_3).f0).toList != ((rd_T53 l0 x19_2).f0).toList) = false := bne_eq_false_iff_eq.mpr c19
                 clear c19
                 obtain rfl := Option.some.inj H
                 have p130 : 0 ≤ (x32_3 : Int) := of_decide_eq_true ka
                 have q130 : x32_3 < (y126.length : Int) := of_decide_eq_true ka
                 obtain ⟨ad130, e130, hx130_0, hx130_1, hx130_2⟩ := at_T53 HR129.out x32_3 p130 q130
                 obtain rfl : ad123 = ad130 := (by injection e130)
                 replace hx130_0 := (HB.out.cell (World.block_lt_of_cell? w _ hx130_0)).trans hx130_0
                 replace hx130_1 := (HB.out.cell (World.block_lt_of_cell? w _ hx130_1)).trans hx130_1
                 replace hx130_2 := (HB.out.cell (World.block_lt_of_cell? w _ hx130_2)).trans hx130_2
                 replace p130 := eq_true p130
                 replace q130 := eq_true q130
                 go_wp2_with (first | ((with_reducible refine gate_dst (N := 8) rfl ?_); (try (refine gate_guard (by rfl) ?_; dsimp only)); refine box_event ?hg (N := 8) ?hd (cs := #[.string (⟨#[]⟩ : ByteArray), .int .i64 0, .int .i64 0]) (t := 53) ?hr ?_; (case hd => rfl); (case hg => rfl); (case hr => first | (go_simp; done) | (go_simp; rfl)); intro gb131 hg w20 hbox hb; have n0_ := bb BK124 hb; have n1_ := Aside0.mk (below_step be hb); have n2_ := Aside0.mk (hbox); have n3_ := gs hg HB; have n4_ := n3_; have n5_ := nl BK124 hg; have n6_ := ns n5_; clear BK124; clear HB; have BK124 := n0_; have HB := n1_; have BK131 := n2_; have GW131 := n3_; have GE131 := n4_; have NB124_131 := n5_; have NB131_124 := n6_; clear n0_ n1_ n2_ n3_ n4_ n5_ n6_; clear hb hbox hg; have hnb21 := NB131_124.out; have hnc21 := NB124_131.out; obtain ⟨hcz22_0, hcz22_1, hcz22_2, hfz22_0, hfz22_1, hfz22_2⟩ := bc3 BK131; obtain ⟨hcz23_0, hcz23_1, hcz23_2, hfz23_0, hfz23_1, hfz23_2⟩ := bc3 BK124))
                 repeat (go_quiet (first | ((with_reducible refine gate_dst (N := 8) rfl ?_); (try (refine gate_guard (by rfl) ?_; dsimp only)); refine box_event ?hg (N := 8) ?hd (cs := #[.string (⟨#[]⟩ : ByteArray), .int .i64 0, .int .i64 0]) (t := 53) ?hr ?_; (case hd => rfl); (case hg => rfl); (case hr => first | (go_simp; done) | (go_simp; rfl)); intro gb131 hg w20 hbox hb; have n0_ := bb BK124 hb; have n1_ := Aside0.mk (below_step be hb); have n2_ := Aside0.mk (hbox); have n3_ := gs hg HB; have n4_ := n3_; have n5_ := nl BK124 hg; have n6_ := ns n5_; clear BK124; clear HB; have BK124 := n0_; have HB := n1_; have BK131 := n2_; have GW131 := n3_; have GE131 := n4_; have NB124_131 := n5_; have NB131_124 := n6_; clear n0_ n1_ n2_ n3_ n4_ n5_ n6_; clear hb hbox hg; have hnb21 := NB131_124.out; have hnc21 := NB124_131.out; obtain ⟨hcz22_0, hcz22_1, hcz22_2, hfz22_0, hfz22_1, hfz22_2⟩ := bc3 BK131; obtain ⟨hcz23_0, hcz23_1, hcz23_2, hfz23_0, hfz23_1, hfz23_2⟩ := bc3 BK124)); try go_wp2_with (first | ((with_reducible refine gate_dst (N := 8) rfl ?_); (try (refine gate_guard (by rfl) ?_; dsimp only)); refine box_event ?hg (N := 8) ?hd (cs := #[.string (⟨#[]⟩ : ByteArray), .int .i64 0, .int .i64 0]) (t := 53) ?hr ?_; (case hd => rfl); (case hg => rfl); (case hr => first | (go_simp; done) | (go_simp; rfl)); intro gb131 hg w20 hbox hb; have n0_ := bb BK124 hb; have n1_ := Aside0.mk (below_step be hb); have n2_ := Aside0.mk (hbox); have n3_ := gs hg HB; have n4_ := n3_; have n5_ := nl BK124 hg; have n6_ := ns n5_; clear BK124; clear HB; have BK124 := n0_; have HB := n1_; have BK131 := n2_; have GW131 := n3_; have GE131 := n4_; have NB124_131 := n5_; have NB131_124 := n6_; clear n0_ n1_ n2_ n3_ n4_ n5_ n6_; clear hb hbox hg; have hnb21 := NB131_124.out; have hnc21 := NB124_131.out; obtain ⟨hcz22_0, hcz22_1, hcz22_2, hfz22_0, hfz22_1, hfz22_2⟩ := bc3 BK131; obtain ⟨hcz23_0, hcz23_1, hcz23_2, hfz23_0, hfz23_1, hfz23_2⟩ := bc3 BK124)))
                 go_ret
                 exact ⟨by first | rfl | (simp [errW_none, errW_some] <;> rfl) | (simp [*, errW_none, errW_some] <;> rfl), be⟩
                ·rw [if_neg c19] at H
                 have c19b0 : (((rd_T53 y126 x32_3).f0).toList == ((rd_T53 l0 x19_2).f0).toList) = false := beq_eq_false_iff_ne.mpr c19
                 have c19b1 : (((rd_T53 y126 x32_3).f0).toList != ((rd_T53 l0 x19_2).f0).toList) = true := bne_iff_ne.mpr c19
                 have H' := Aside0.mk H
                 clear H
                 have p130 : 0 ≤ (x32_3 : Int) := of_decide_eq_true ka
                 have q130 : x32_3 < (y126.length : Int) := of_decide_eq_true ka
                 obtain ⟨ad130, e130, hx130_0, hx130_1, hx130_2⟩ := at_T53 HR129.out x32_3 p130 q130
                 obtain rfl : ad123 = ad130 := (by injection e130)
                 replace hx130_0 := (HB.out.cell (World.block_lt_of_cell? w _ hx130_0)).trans hx130_0
                 replace hx130_1 := (HB.out.cell (World.block_lt_of_cell? w _ hx130_1)).trans hx130_1
                 replace hx130_2 := (HB.out.cell (World.block_lt_of_cell? w _ hx130_2)).trans hx130_2
                 replace p130 := eq_true p130
                 replace q130 := eq_true q130
                 go_wp2_with (first | ((with_reducible refine gate_dst (N := 8) rfl ?_); (try (refine gate_guard (by rfl) ?_; dsimp only)); refine box_event ?hg (N := 8) ?hd (cs := #[.string (⟨#[]⟩ : ByteArray), .int .i64 0, .int .i64 0]) (t := 53) ?hr ?_; (case hd => rfl); (case hg => rfl); (case hr => first | (go_simp; done) | (go_simp; rfl)); intro gb131 hg w24 hbox hb; have n0_ := bb BK124 hb; have n1_ := Aside0.mk (below_step be hb); have n2_ := Aside0.mk (hbox); have n3_ := gs hg HB; have n4_ := n3_; have n5_ := nl BK124 hg; have n6_ := ns n5_; clear BK124; clear HB; have BK124 := n0_; have HB := n1_; have BK131 := n2_; have GW131 := n3_; have GE131 := n4_; have NB124_131 := n5_; have NB131_124 := n6_; clear n0_ n1_ n2_ n3_ n4_ n5_ n6_; clear hb hbox hg; have hnb25 := NB131_124.out; have hnc25 := NB124_131.out; obtain ⟨hcz26_0, hcz26_1, hcz26_2, hfz26_0, hfz26_1, hfz26_2⟩ := bc3 BK131; obtain ⟨hcz27_0, hcz27_1, hcz27_2, hfz27_0, hfz27_1, hfz27_2⟩ := bc3 BK124))
                 repeat (go_quiet (first | ((with_reducible refine gate_dst (N := 8) rfl ?_); (try (refine gate_guard (by rfl) ?_; dsimp only)); refine box_event ?hg (N := 8) ?hd (cs := #[.string (⟨#[]⟩ : ByteArray), .int .i64 0, .int .i64 0]) (t := 53) ?hr ?_; (case hd => rfl); (case hg => rfl); (case hr => first | (go_simp; done) | (go_simp; rfl)); intro gb131 hg w24 hbox hb; have n0_ := bb BK124 hb; have n1_ := Aside0.mk (below_step be hb); have n2_ := Aside0.mk (hbox); have n3_ := gs hg HB; have n4_ := n3_; have n5_ := nl BK124 hg; have n6_ := ns n5_; clear BK124; clear HB; have BK124 := n0_; have HB := n1_; have BK131 := n2_; have GW131 := n3_; have GE131 := n4_; have NB124_131 := n5_; have NB131_124 := n6_; clear n0_ n1_ n2_ n3_ n4_ n5_ n6_; clear hb hbox hg; have hnb25 := NB131_124.out; have hnc25 := NB124_131.out; obtain ⟨hcz26_0, hcz26_1, hcz26_2, hfz26_0, hfz26_1, hfz26_2⟩ := bc3 BK131; obtain ⟨hcz27_0, hcz27_1, hcz27_2, hfz27_0, hfz27_1, hfz27_2⟩ := bc3 BK124)); try go_wp2_with (first | ((with_reducible refine gate_dst (N := 8) rfl ?_); (try (refine gate_guard (by rfl) ?_; dsimp only)); refine box_event ?hg (N := 8) ?hd (cs := #[.string (⟨#[]⟩ : ByteArray), .int .i64 0, .int .i64 0]) (t := 53) ?hr ?_; (case hd => rfl); (case hg => rfl); (case hr => first | (go_simp; done) | (go_simp; rfl)); intro gb131 hg w24 hbox hb; have n0_ := bb BK124 hb; have n1_ := Aside0.mk (below_step be hb); have n2_ := Aside0.mk (hbox); have n3_ := gs hg HB; have n4_ := n3_; have n5_ := nl BK124 hg; have n6_ := ns n5_; clear BK124; clear HB; have BK124 := n0_; have HB := n1_; have BK131 := n2_; have GW131 := n3_; have GE131 := n4_; have NB124_131 := n5_; have NB131_124 := n6_; clear n0_ n1_ n2_ n3_ n4_ n5_ n6_; clear hb hbox hg; have hnb25 := NB131_124.out; have hnc25 := NB124_131.out; obtain ⟨hcz26_0, hcz26_1, hcz26_2, hfz26_0, hfz26_1, hfz26_2⟩ := bc3 BK131; obtain ⟨hcz27_0, hcz27_1, hcz27_2, hfz27_0, hfz27_1, hfz27_2⟩ := bc3 BK124)))
                 go_roundg k3
                 case measure => have := HJ1.out; have := HK2.out; have := HK3.out; omega
                 case rel => exact ⟨(wrap64 (x32_3 + 1)), rs, H', ⟨by have := HJ1.out; have := HK2.out; have := HK3.out; omega⟩, ⟨bk BK124⟩, ⟨be⟩⟩
               ·rw [if_neg c18] at H
                exact absurd H (by simp)
              ·rw [if_neg c17] at H
               exact absurd H (by simp)
             ·rw [if_neg c16] at H
              have c16b0 : decide (x32_3 < (y126.length : Int)) = false := decide_eq_false c16
              clear c16
              by_cases c28 : ((rd_T53 l0 x19_2).f1) < 0
              ·rw [if_pos c28] at H
               have c28b0 : decide (((rd_T53 l0 x19_2).f1) < 0) = true := decide_eq_true c28
               clear c28
               obtain rfl := Option.some.inj H
               obtain ⟨hcz29_0, hcz29_1, hcz29_2, hfz29_0, hfz29_1, hfz29_2⟩ := bc3 BK124
               go_wp2
               repeat (go_quiet (fail); try go_wp2)
               go_ret
               exact ⟨by first | rfl | (simp [errW_none, errW_some] <;> rfl) | (simp [*, errW_none, errW_some] <;> rfl), be⟩
              ·rw [if_neg c28] at H
               have c28b0 : decide (((rd_T53 l0 x19_2).f1) < 0) = false := decide_eq_false c28
               clear c28
               by_cases c30 : ((rd_T53 l0 x19_2).f1) > 400
               ·rw [if_pos c30] at H
                have c30b0 : decide (400 < ((rd_T53 l0 x19_2).f1)) = true := decide_eq_true c30
                clear c30
                obtain rfl := Option.some.inj H
                obtain ⟨hcz31_0, hcz31_1, hcz31_2, hfz31_0, hfz31_1, hfz31_2⟩ := bc3 BK124
                go_wp2
                repeat (go_quiet (fail); try go_wp2)
                go_ret
                exact ⟨by first | rfl | (simp [errW_none, errW_some] <;> rfl) | (simp [*, errW_none, errW_some] <;> rfl), be⟩
               ·rw [if_neg c30] at H
                have c30b0 : decide (400 < ((rd_T53 l0 x19_2).f1)) = false := decide_eq_false c30
                clear c30
                by_cases c32 : ((rd_T53 l0 x19_2).f2) < 0
                ·rw [if_pos c32] at H
                 have c32b0 : decide (((rd_T53 l0 x19_2).f2) < 0) = true := decide_eq_true c32
                 clear c32
                 obtain rfl := Option.some.inj H
                 obtain ⟨hcz33_0, hcz33_1, hcz33_2, hfz33_0, hfz33_1, hfz33_2⟩ := bc3 BK124
                 go_wp2
                 repeat (go_quiet (fail); try go_wp2)
                 go_ret
                 exact ⟨by first | rfl | (simp [errW_none, errW_some] <;> rfl) | (simp [*, errW_none, errW_some] <;> rfl), be⟩
                ·rw [if_neg c32] at H
                 have c32b0 : decide (((rd_T53 l0 x19_2).f2) < 0) = false := decide_eq_false c32
                 clear c32
                 by_cases c34 : ((rd_T53 l0 x19_2).f2) > 400
                 ·rw [if_pos c34] at H
                  have c34b0 : decide (400 < ((rd_T53 l0 x19_2).f2)) = true := decide_eq_true c34
                  clear c34
                  obtain rfl := Option.some.inj H
                  obtain ⟨hcz35_0, hcz35_1, hcz35_2, hfz35_0, hfz35_1, hfz35_2⟩ := bc3 BK124
                  go_wp2
                  repeat (go_quiet (fail); try go_wp2)
                  go_ret
                  exact ⟨by first | rfl | (simp [errW_none, errW_some] <;> rfl) | (simp [*, errW_none, errW_some] <;> rfl), be⟩
                 ·rw [if_neg c34] at H
                  have c34b0 : decide (400 < ((rd_T53 l0 x19_2).f2)) = false := decide_eq_false c34
                  clear c34
                  have H' := Aside0.mk H
                  clear H
                  obtain ⟨hcz36_0, hcz36_1, hcz36_2, hfz36_0, hfz36_1, hfz36_2⟩ := bc3 BK124
                  go_wp2
                  repeat (go_quiet (fail); try go_wp2)
                  go_roundg k3
                  case measure => have := HJ1.out; have := HK2.out; have := HK3.out; omega
                  case rel => exact ⟨(wrap64 (x3_2 + ((rd_T53 l0 x19_2).f1))), (wrap64 (x4_2 + ((rd_T53 l0 x19_2).f2))), (wrap64 (x19_2 + 1)), rs, rs, rs, H', ⟨by have := HJ1.out; have := HK2.out; have := HK3.out; omega⟩, ⟨be⟩⟩
          ·rw [if_neg c11] at H
           exact absurd H (by simp)
         ·replace c9 := Bool.eq_false_iff.mpr c9
          subst c9
          have H1 : (some 5) = some r := by rw [if_neg (show ¬ (false = true) by decide)] at H; exact H
          clear H
          have H := H1
          clear H1
          obtain rfl := Option.some.inj H
          have p123 : 0 ≤ (x19_2 : Int) := of_decide_eq_true ka
          have q123 : x19_2 < (l0.length : Int) := of_decide_eq_true ka
          obtain ⟨ad123, e123, hx123_0, hx123_1, hx123_2⟩ := at_T53 HR0.out x19_2 p123 q123
          cases e123
          replace hx123_0 := (HB.out.cell (World.block_lt_of_cell? w _ hx123_0)).trans hx123_0
          replace hx123_1 := (HB.out.cell (World.block_lt_of_cell? w _ hx123_1)).trans hx123_1
          replace hx123_2 := (HB.out.cell (World.block_lt_of_cell? w _ hx123_2)).trans hx123_2
          replace p123 := eq_true p123
          replace q123 := eq_true q123
          go_wp2_with (first | ((with_reducible refine gate_dst (N := 6) rfl ?_); (try (refine gate_guard (by rfl) ?_; dsimp only)); refine box_event ?hg (N := 6) ?hd (cs := #[.string (⟨#[]⟩ : ByteArray), .int .i64 0, .int .i64 0]) (t := 53) ?hr ?_; (case hd => rfl); (case hg => rfl); (case hr => first | (go_simp; done) | (go_simp; rfl)); intro gb124 hg w37 hbox hb; have n0_ := Aside0.mk (below_step be hb); have n1_ := Aside0.mk (hbox); have n2_ := gs hg HB; have n3_ := n2_; clear HB; have HB := n0_; have BK124 := n1_; have GW124 := n2_; have GE124 := n3_; clear n0_ n1_ n2_ n3_; clear hb hbox hg; obtain ⟨hcz38_0, hcz38_1, hcz38_2, hfz38_0, hfz38_1, hfz38_2⟩ := bc3 BK124) | (go_at_call 22; (with_reducible refine (rule_Name.calls ((rd_T53 l0 x19_2).f0) false _ A8.out).mono ?_); rintro e w39 ⟨rfl, hb⟩; have n0_ := Aside0.mk (blk_below (g := gb124) (o := .cells #[.string ((rd_T53 l0 x19_2).f0), .int .i64 ((rd_T53 l0 x19_2).f1), .int .i64 ((rd_T53 l0 x19_2).f2)] 53 (0, 0)) (bk BK124) hb); have n1_ := Aside0.mk (below_step be hb); clear BK124; clear HB; have BK124 := n0_; have HB := n1_; clear n0_ n1_; (try clear hb); (try clear hb2); (try clear hk); (try clear hi)))
          repeat (go_quiet (first | ((with_reducible refine gate_dst (N := 6) rfl ?_); (try (refine gate_guard (by rfl) ?_; dsimp only)); refine box_event ?hg (N := 6) ?hd (cs := #[.string (⟨#[]⟩ : ByteArray), .int .i64 0, .int .i64 0]) (t := 53) ?hr ?_; (case hd => rfl); (case hg => rfl); (case hr => first | (go_simp; done) | (go_simp; rfl)); intro gb124 hg w37 hbox hb; have n0_ := Aside0.mk (below_step be hb); have n1_ := Aside0.mk (hbox); have n2_ := gs hg HB; have n3_ := n2_; clear HB; have HB := n0_; have BK124 := n1_; have GW124 := n2_; have GE124 := n3_; clear n0_ n1_ n2_ n3_; clear hb hbox hg; obtain ⟨hcz38_0, hcz38_1, hcz38_2, hfz38_0, hfz38_1, hfz38_2⟩ := bc3 BK124) | (go_at_call 22; (with_reducible refine (rule_Name.calls ((rd_T53 l0 x19_2).f0) false _ A8.out).mono ?_); rintro e w39 ⟨rfl, hb⟩; have n0_ := Aside0.mk (blk_below (g := gb124) (o := .cells #[.string ((rd_T53 l0 x19_2).f0), .int .i64 ((rd_T53 l0 x19_2).f1), .int .i64 ((rd_T53 l0 x19_2).f2)] 53 (0, 0)) (bk BK124) hb); have n1_ := Aside0.mk (below_step be hb); clear BK124; clear HB; have BK124 := n0_; have HB := n1_; clear n0_ n1_; (try clear hb); (try clear hb2); (try clear hk); (try clear hi))); try go_wp2_with (first | ((with_reducible refine gate_dst (N := 6) rfl ?_); (try (refine gate_guard (by rfl) ?_; dsimp only)); refine box_event ?hg (N := 6) ?hd (cs := #[.string (⟨#[]⟩ : ByteArray), .int .i64 0, .int .i64 0]) (t := 53) ?hr ?_; (case hd => rfl); (case hg => rfl); (case hr => first | (go_simp; done) | (go_simp; rfl)); intro gb124 hg w37 hbox hb; have n0_ := Aside0.mk (below_step be hb); have n1_ := Aside0.mk (hbox); have n2_ := gs hg HB; have n3_ := n2_; clear HB; have HB := n0_; have BK124 := n1_; have GW124 := n2_; have GE124 := n3_; clear n0_ n1_ n2_ n3_; clear hb hbox hg; obtain ⟨hcz38_0, hcz38_1, hcz38_2, hfz38_0, hfz38_1, hfz38_2⟩ := bc3 BK124) | (go_at_call 22; (with_reducible refine (rule_Name.calls ((rd_T53 l0 x19_2).f0) false _ A8.out).mono ?_); rintro e w39 ⟨rfl, hb⟩; have n0_ := Aside0.mk (blk_below (g := gb124) (o := .cells #[.string ((rd_T53 l0 x19_2).f0), .int .i64 ((rd_T53 l0 x19_2).f1), .int .i64 ((rd_T53 l0 x19_2).f2)] 53 (0, 0)) (bk BK124) hb); have n1_ := Aside0.mk (below_step be hb); clear BK124; clear HB; have BK124 := n0_; have HB := n1_; clear n0_ n1_; (try clear hb); (try clear hb2); (try clear hk); (try clear hi))))
          go_ret
          exact ⟨by first | rfl | (simp [errW_none, errW_some] <;> rfl) | (simp [*, errW_none, errW_some] <;> rfl), be⟩
        ·rw [if_neg c7] at H
         exact absurd H (by simp)
       ·rw [if_neg c6] at H
        exact absurd H (by simp)
      ·rw [if_neg c5] at H
       have c5b0 : decide (x19_2 < (l0.length : Int)) = false := decide_eq_false c5
       clear c5
       by_cases c40 : x3_2 = 0
       ·rw [if_pos c40] at H
        have c40b0 : (x3_2 == 0) = true := beq_iff_eq.mpr c40
        have c40b1 : (x3_2 != 0) = false := bne_eq_false_iff_eq.mpr c40
        clear c40
        obtain rfl := Option.some.inj H
        go_wp2
        repeat (go_quiet (fail); try go_wp2)
        go_ret
        exact ⟨by first | rfl | (simp [errW_none, errW_some] <;> rfl) | (simp [*, errW_none, errW_some] <;> rfl), be⟩
       ·rw [if_neg c40] at H
        have c40b0 : (x3_2 == 0) = false := beq_eq_false_iff_ne.mpr c40
        have c40b1 : (x3_2 != 0) = true := bne_iff_ne.mpr c40
        by_cases c41 : x4_2 = 0
        ·rw [if_pos c41] at H
         have c41b0 : (x4_2 == 0) = true := beq_iff_eq.mpr c41
         have c41b1 : (x4_2 != 0) = false := bne_eq_false_iff_eq.mpr c41
         clear c41
         obtain rfl := Option.some.inj H
         go_wp2
         repeat (go_quiet (fail); try go_wp2)
         go_ret
         exact ⟨by first | rfl | (simp [errW_none, errW_some] <;> rfl) | (simp [*, errW_none, errW_some] <;> rfl), be⟩
        ·rw [if_neg c41] at H
         have c41b0 : (x4_2 == 0) = false := beq_eq_false_iff_ne.mpr c41
         have c41b1 : (x4_2 != 0) = true := bne_iff_ne.mpr c41
         obtain rfl := Option.some.inj H
         go_wp2
         repeat (go_quiet (fail); try go_wp2)
         go_ret
         exact ⟨by first | rfl | (simp [errW_none, errW_some] <;> rfl) | (simp [*, errW_none, errW_some] <;> rfl), be⟩

/-! ### runtime_plainError_RuntimeError: function 60 -/
/-- A lone int in memory: what it holds. -/
def runtime_plainError_RuntimeError.f (a0 : Int) : Option Int := some a0

/-! ### rule_Check: function 8 -/
def rule_Check.j0 : Nat → Bool → ByteArray → Int → Int → Int → Int → List (S24) → List (S53) → Option (Int)
 | 0, _, _, _, _, _, _, _, _ => none
 | k + 1, x22, x134000, x134001, x134002, x134003, x134004, x134005, x134006 => if x22 = true then (some 3) else ((runtime_plainError_RuntimeError.f 0).bind fun t136 => ((rule_walk.f k x134003 x134004 x134005 1 t136).bind fun bt138 => (if bt138.1 = 0 then ((rule_Months.f k x134006).bind fun t140 => (some t140)) else (some bt138.1))))
def rule_Check.f (k : Nat) (a0_0 : ByteArray) (a0_1 : Int) (a0_2 : Int) (a0_3 : Int) (a0_4 : Int) (l0_5 : List (S24)) (l0_6 : List (S53)) : Option (Int) := (rule_Name.f a0_0).bind fun t134 => (if t134 = true then ((line_Check.f a0_1).bind fun t135 => (if t135 = 0 then (if a0_2 < 1 then (rule_Check.j0 k true a0_0 a0_1 a0_2 a0_3 a0_4 l0_5 l0_6) else (rule_Check.j0 k (decide (a0_2 > 3000)) a0_0 a0_1 a0_2 a0_3 a0_4 l0_5 l0_6)) else (rule_Check.j0 k true a0_0 a0_1 a0_2 a0_3 a0_4 l0_5 l0_6))) else (some 5))
theorem rule_Check.mono_l : ∀ k, (∀ y0 y1 y2 y3 y4 y5 y6 y7, LeO (rule_Check.j0 k y0 y1 y2 y3 y4 y5 y6 y7) (rule_Check.j0 (k + 1) y0 y1 y2 y3 y4 y5 y6 y7))
 | 0 => fun _ _ _ _ _ _ _ _ r h => by simp [rule_Check.j0] at h
 | k + 1 => by
  have ih0 := rule_Check.mono_l k
  ·intro y0 y1 y2 y3 y4 y5 y6 y7
   unfold rule_Check.j0
   repeat' first
   | (with_reducible exact ih0 _ _ _ _ _ _ _ _)
   | (with_reducible exact rule_Months.mono _ _)
   | (with_reducible exact rule_walk.mono _ _ _ _ _ _)
   | (with_reducible exact LeO.refl _)
   | (with_reducible exact LeO.none _)
   | (with_reducible refine LeO.ite ?_ ?_)
   | (with_reducible refine LeO.bind ?_ (fun _ => ?_))
   | exact ih0 _ _ _ _ _ _ _ _
   | exact rule_Months.mono _ _
   | exact rule_walk.mono _ _ _ _ _ _
   | exact LeO.none _
   | refine LeO.ite ?_ ?_
   | refine LeO.bind ?_ (fun _ => ?_)
theorem rule_Check.mono : ∀ a0 a1 a2 a3 a4 a5 a6 k, LeO (rule_Check.f k a0 a1 a2 a3 a4 a5 a6) (rule_Check.f (k + 1) a0 a1 a2 a3 a4 a5 a6) := by
 intro a0 a1 a2 a3 a4 a5 a6 k
 have ih0 := rule_Check.mono_l k
 unfold rule_Check.f
 repeat' first
   | (with_reducible exact ih0 _ _ _ _ _ _ _ _)
   | (with_reducible exact rule_Months.mono _ _)
   | (with_reducible exact rule_walk.mono _ _ _ _ _ _)
   | (with_reducible exact LeO.refl _)
   | (with_reducible exact LeO.none _)
   | (with_reducible refine LeO.ite ?_ ?_)
   | (with_reducible refine LeO.bind ?_ (fun _ => ?_))
   | exact ih0 _ _ _ _ _ _ _ _
   | exact rule_Months.mono _ _
   | exact rule_walk.mono _ _ _ _ _ _
   | exact LeO.none _
   | refine LeO.ite ?_ ?_
   | refine LeO.bind ?_ (fun _ => ?_)
set_option maxHeartbeats 8000000 in
set_option maxRecDepth 100000 in
theorem rule_Check.calls (k : Nat) (a0_0 : ByteArray) (a0_1 : Int) (a0_2 : Int) (a0_3 : Int) (a0_4 : Int) (A0_5 : Option Addr) (c0_5 : Nat) (l0_5 : List (S24)) (A0_6 : Option Addr) (c0_6 : Nat) (l0_6 : List (S53)) (r : Int) (w : World) (hr0_5 : Kd.C k24 w A0_5 l0_5.length l0_5) (hc0_5 : l0_5.length ≤ c0_5) (hr0_6 : Kd.C k53 w A0_6 l0_6.length l0_6) (hc0_6 : l0_6.length ≤ c0_6) (hT : rule_walk.Tab w) (h : rule_Check.f k a0_0 a0_1 a0_2 a0_3 a0_4 l0_5 l0_6 = some r) :
  Calls Tryd.prog 8 #[.agg #[.string a0_0, .int .i64 a0_1, .int .i64 a0_2, .int .i64 a0_3, .int .i64 a0_4, .slice A0_5 l0_5.length c0_5, .slice A0_6 l0_6.length c0_6]] w fun e w' => e = .returned (.int .i64 r) ∧ Below w.heap.size w w' := by
 have hu27 := Tryd.underlying27
 have hu24 := Tryd.underlying24
 have HR0_5 := Aside0.mk hr0_5
 have HC0_5 := Aside0.mk hc0_5
 clear hr0_5 hc0_5
 have HR0_6 := Aside0.mk hr0_6
 have HC0_6 := Aside0.mk hc0_6
 clear hr0_6 hc0_6
 have HB := Aside0.mk (Below.refl w.heap.size w)
 have H : ((rule_Name.f a0_0).bind fun t134 => (if t134 = true then ((line_Check.f a0_1).bind fun t135 => (if t135 = 0 then (if a0_2 < 1 then (rule_Check.j0 k true a0_0 a0_1 a0_2 a0_3 a0_4 l0_5 l0_6) else (rule_Check.j0 k (decide (a0_2 > 3000)) a0_0 a0_1 a0_2 a0_3 a0_4 l0_5 l0_6)) else (rule_Check.j0 k true a0_0 a0_1 a0_2 a0_3 a0_4 l0_5 l0_6))) else (some 5))) = some r := h
 clear h
 replace H := Option.bind_eq_some_iff.mp H
 obtain ⟨t134, A20, H⟩ := H
 replace H : (if t134 = true then ((line_Check.f a0_1).bind fun t135 => (if t135 = 0 then (if a0_2 < 1 then (rule_Check.j0 k true a0_0 a0_1 a0_2 a0_3 a0_4 l0_5 l0_6) else (rule_Check.j0 k (decide (a0_2 > 3000)) a0_0 a0_1 a0_2 a0_3 a0_4 l0_5 l0_6)) else (rule_Check.j0 k true a0_0 a0_1 a0_2 a0_3 a0_4 l0_5 l0_6))) else (some 5)) = some r := H
 have A2 := Aside0.mk A20
 clear A20
 by_cases c3 : t134 = true
 ·subst c3
  have H1 : ((line_Check.f a0_1).bind fun t135 => (if t135 = 0 then (if a0_2 < 1 then (rule_Check.j0 k true a0_0 a0_1 a0_2 a0_3 a0_4 l0_5 l0_6) else (rule_Check.j0 k (decide (a0_2 > 3000)) a0_0 a0_1 a0_2 a0_3 a0_4 l0_5 l0_6)) else (rule_Check.j0 k true a0_0 a0_1 a0_2 a0_3 a0_4 l0_5 l0_6))) = some r := by rw [if_pos rfl] at H; exact H
  clear H
  have H := H1
  clear H1
  have HC4 := Aside0.mk H
  clear H
  go_enter Tryd.func8, Tryd.ntmps8
  go_upto_region 3 with (first | ((with_reducible refine gate_dst (N := 1) rfl ?_); refine box_event ?hg (N := 1) ?hd (cs := #[.string a0_0, .int .i64 a0_1, .int .i64 a0_2, .int .i64 a0_3, .int .i64 a0_4, .slice A0_5 l0_5.length c0_5, .slice A0_6 l0_6.length c0_6]) (t := 27) ?hr ?_; (case hd => rfl); (case hg => rfl); (case hr => first | (go_simp; done) | (go_simp; rfl)); intro gb133 hg w5 hbox hb; have n0_ := Aside0.mk (below_step be hb); have n1_ := Aside0.mk (hbox); have n2_ := gs hg HB; have n3_ := n2_; clear HB; have HB := n0_; have BK133 := n1_; have GW133 := n2_; have GE133 := n3_; clear n0_ n1_ n2_ n3_; clear hb hbox hg; obtain ⟨hcz6_0, hcz6_1, hcz6_2, hcz6_3, hcz6_4, hcz6_5, hcz6_6, hfz6_0, hfz6_1, hfz6_2, hfz6_3, hfz6_4, hfz6_5, hfz6_6⟩ := bc7 BK133) | ((with_reducible refine gate_callee (f := 22) rfl ?_); refine goesL_ (some 7) rfl rfl Tryd.func22 kx rfl #[.string a0_0] rfl aa ?_; (with_reducible refine (rule_Name.calls a0_0 true _ A2.out).mono ?_); rintro e w7 ⟨rfl, hb⟩; refine ⟨_, rfl, ?_⟩; have n0_ := bb BK133 hb; have n1_ := Aside0.mk (below_step be hb); clear BK133; clear HB; have BK133 := n0_; have HB := n1_; clear n0_ n1_; (try clear hb); (try clear hb2); (try clear hk); (try clear hi)))
  (try simp only [Act.put, List.setIfInBounds_toArray, List.set_cons_zero, List.set_cons_succ])
  go_cut [22] (fun v22 wc => ∃ (kq : Nat) (x22_3 : Bool), v22 = .bool x22_3 ∧ Aside0 (rule_Check.j0 kq x22_3 a0_0 a0_1 a0_2 a0_3 a0_4 l0_5 l0_6 = some r) ∧ Aside0 (kq ≤ k) ∧ Aside0 (wc.heap[gb133]? = some (.cells #[.string a0_0, .int .i64 a0_1, .int .i64 a0_2, .int .i64 a0_3, .int .i64 a0_4, (.slice A0_5 l0_5.length c0_5), (.slice A0_6 l0_6.length c0_6)] 27 (0, 0))) ∧ Aside0 (Below w.heap.size w wc))
  case first =>
   have H := HC4.out
   clear HC4
   replace H := Option.bind_eq_some_iff.mp H
   obtain ⟨t135, A80, H⟩ := H
   replace H : (if t135 = 0 then (if a0_2 < 1 then (rule_Check.j0 k true a0_0 a0_1 a0_2 a0_3 a0_4 l0_5 l0_6) else (rule_Check.j0 k (decide (a0_2 > 3000)) a0_0 a0_1 a0_2 a0_3 a0_4 l0_5 l0_6)) else (rule_Check.j0 k true a0_0 a0_1 a0_2 a0_3 a0_4 l0_5 l0_6)) = some r := H
   have A8 := Aside0.mk A80
   clear A80
   by_cases c9 : t135 = 0
   ·rw [if_pos c9] at H
    have c9b0 : (t135 == 0) = true := beq_iff_eq.mpr c9
    have c9b1 : (t135 != 0) = false := bne_eq_false_iff_eq.mpr c9
    clear c9
    (first | rw [c9b0] | (simp only [i64_w, i32_w]; rw [c9b0]) | skip)
    by_cases c10 : a0_2 < 1
    ·rw [if_pos c10] at H
     have c10b0 : decide (a0_2 < 1) = true := decide_eq_true c10
     clear c10
     have H' := Aside0.mk H
     clear H
     obtain ⟨hcz11_0, hcz11_1, hcz11_2, hcz11_3, hcz11_4, hcz11_5, hcz11_6, hfz11_0, hfz11_1, hfz11_2, hfz11_3, hfz11_4, hfz11_5, hfz11_6⟩ := bc7 BK133
     go_wp2_with (first | ((with_reducible refine gate_callee (f := 23) rfl ?_); refine goesL_ (some 11) rfl rfl Tryd.func23 kx rfl #[.int .i64 a0_1] rfl aa ?_; (with_reducible refine (line_Check.calls a0_1 t135 _ A8.out).mono ?_); rintro e w' ⟨rfl, ⟨nd, rfl⟩⟩; refine ⟨_, rfl, ?_⟩))
     go_meet
     case rel => exact ⟨_, (true), rs, H', ⟨by first | omega | exact Nat.le_refl _⟩, ⟨bk BK133⟩, ⟨be⟩⟩
    ·rw [if_neg c10] at H
     have c10b0 : decide (a0_2 < 1) = false := decide_eq_false c10
     clear c10
     have H' := Aside0.mk H
     clear H
     obtain ⟨hcz12_0, hcz12_1, hcz12_2, hcz12_3, hcz12_4, hcz12_5, hcz12_6, hfz12_0, hfz12_1, hfz12_2, hfz12_3, hfz12_4, hfz12_5, hfz12_6⟩ := bc7 BK133
     go_wp2_with (first | ((with_reducible refine gate_callee (f := 23) rfl ?_); refine goesL_ (some 11) rfl rfl Tryd.func23 kx rfl #[.int .i64 a0_1] rfl aa ?_; (with_reducible refine (line_Check.calls a0_1 t135 _ A8.out).mono ?_); rintro e w' ⟨rfl, ⟨nd, rfl⟩⟩; refine ⟨_, rfl, ?_⟩))
     go_meet
     case rel => exact ⟨_, (decide (a0_2 > 3000)), rs, H', ⟨by first | omega | exact Nat.le_refl _⟩, ⟨bk BK133⟩, ⟨be⟩⟩
   ·rw [if_neg c9] at H
    have c9b0 : (t135 == 0) = false := beq_eq_false_iff_ne.mpr c9
    have c9b1 : (t135 != 0) = true := bne_iff_ne.mpr c9
    (first | rw [c9b0] | (simp only [i64_w, i32_w]; rw [c9b0]) | skip)
    have H' := Aside0.mk H
    clear H
    obtain ⟨hcz13_0, hcz13_1, hcz13_2, hcz13_3, hcz13_4, hcz13_5, hcz13_6, hfz13_0, hfz13_1, hfz13_2, hfz13_3, hfz13_4, hfz13_5, hfz13_6⟩ := bc7 BK133
    go_wp2_with (first | ((with_reducible refine gate_callee (f := 23) rfl ?_); refine goesL_ (some 11) rfl rfl Tryd.func23 kx rfl #[.int .i64 a0_1] rfl aa ?_; (with_reducible refine (line_Check.calls a0_1 t135 _ A8.out).mono ?_); rintro e w' ⟨rfl, ⟨nd, rfl⟩⟩; refine ⟨_, rfl, ?_⟩))
    go_meet
    case rel => exact ⟨_, (true), rs, H', ⟨by first | omega | exact Nat.le_refl _⟩, ⟨bk BK133⟩, ⟨be⟩⟩
  case rest =>
   clear HC4
   (try clear c1); (try clear c2); (try clear p2); (try clear c3); (try clear c8); (try clear c9); (try clear c9b0); (try clear c9b1); (try clear c10); (try clear c10b0); (try clear hcz11_0); (try clear hcz11_1); (try clear hcz11_2); (try clear hcz11_3); (try clear hcz11_4); (try clear hcz11_5); (try clear hcz11_6); (try clear hcz12_0); (try clear hcz12_1); (try clear hcz12_2); (try clear hcz12_3); (try clear hcz12_4); (try clear hcz12_5); (try clear hcz12_6); (try clear hcz13_0); (try clear hcz13_1); (try clear hcz13_2); (try clear hcz13_3); (try clear hcz13_4); (try clear hcz13_5); (try clear hcz13_6); (try clear hcz6_0); (try clear hcz6_1); (try clear hcz6_2); (try clear hcz6_3); (try clear hcz6_4); (try clear hcz6_5); (try clear hcz6_6); (try clear hfz11_0); (try clear hfz11_1); (try clear hfz11_2); (try clear hfz11_3); (try clear hfz11_4); (try clear hfz11_5); (try clear hfz11_6); (try clear hfz12_0); (try clear hfz12_1); (try clear hfz12_2); (try clear hfz12_3); (try clear hfz12_4); (try clear hfz12_5); (try clear hfz12_6); (try clear hfz13_0); (try clear hfz13_1); (try clear hfz13_2); (try clear hfz13_3); (try clear hfz13_4); (try clear hfz13_5); (try clear hfz13_6); (try clear hfz6_0); (try clear hfz6_1); (try clear hfz6_2); (try clear hfz6_3); (try clear hfz6_4); (try clear hfz6_5); (try clear hfz6_6)
   obtain ⟨kq, x22_3, rfl, HA, HJ3, BK133, HB⟩ := hcut
   cases kq with
   | zero => exact absurd HA.out (by simp [rule_Check.j0])
   | succ kj3 =>
    have H := HA.out
    clear HA
    simp only [rule_Check.j0] at H
    by_cases c14 : x22_3 = true
    ·subst c14
     have H1 : (some 3) = some r := by rw [if_pos rfl] at H; exact H
     clear H
     have H := H1
     clear H1
     obtain rfl := Option.some.inj H
     go_wp2
     go_ret
     exact ⟨by first | rfl | (simp [errW_none, errW_some] <;> rfl) | (simp [*, errW_none, errW_some] <;> rfl), be⟩
    ·replace c14 := Bool.eq_false_iff.mpr c14
     subst c14
     have H1 : ((runtime_plainError_RuntimeError.f 0).bind fun t136 => ((rule_walk.f kj3 a0_3 a0_4 l0_5 1 t136).bind fun bt138 => (if bt138.1 = 0 then ((rule_Months.f kj3 l0_6).bind fun t140 => (some t140)) else (some bt138.1)))) = some r := by rw [if_neg (show ¬ (false = true) by decide)] at H; exact H
     clear H
     have H := H1
     clear H1
     replace H := Option.bind_eq_some_iff.mp H
     obtain ⟨t136, A150, H⟩ := H
     obtain rfl : (0 : Int) = t136 := Option.some.inj A150
     replace H : ((rule_walk.f kj3 a0_3 a0_4 l0_5 1 (0 : Int)).bind fun bt138 => (if bt138.1 = 0 then ((rule_Months.f kj3 l0_6).bind fun t140 => (some t140)) else (some bt138.1))) = some r := H
     have A15 := Aside0.mk A150
     clear A150
     replace H := Option.bind_eq_some_iff.mp H
     obtain ⟨⟨t138, t139⟩, A160, H⟩ := H
     replace H : (if t138 = 0 then ((rule_Months.f kj3 l0_6).bind fun t140 => (some t140)) else (some t138)) = some r := H
     have A16 := Aside0.mk A160
     clear A160
     by_cases c17 : t138 = 0
     ·rw [if_pos c17] at H
      have c17b0 : (t138 == 0) = true := beq_iff_eq.mpr c17
      have c17b1 : (t138 != 0) = false := bne_eq_false_iff_eq.mpr c17
      clear c17
      replace H := Option.bind_eq_some_iff.mp H
      obtain ⟨t140, A180, H⟩ := H
      replace H : (some t140) = some r := H
      have A18 := Aside0.mk A180
      clear A180
      obtain rfl := Option.some.inj H
      go_wp2_with (first | ((with_reducible refine gate_dst (N := 3) rfl ?_); (try (refine gate_guard (by rfl) ?_; dsimp only)); refine box_event ?hg (N := 3) ?hd (cs := #[.int .i64 0]) (t := 3) ?hr ?_; (case hd => rfl); (case hg => rfl); (case hr => first | (go_simp; done) | (go_simp; rfl)); intro g137 hg w19 hbox hb2; have hb := below_step be hb2; have hi : IsS119 w w19 g137 0 := ⟨hbox, by rw [hg]; exact (show Below w.heap.size w _ from be).size⟩; have hczn0_ : w19.cell? ⟨g137, 0, none⟩ = some (.int .i64 0) := (blk_cell hbox 0).trans rfl; have hfzn0_ := blk_frozen hbox 0; clear hg hbox; have n0_ := Aside0.mk (blk_below (g := gb133) (o := .cells #[.string a0_0, .int .i64 a0_1, .int .i64 a0_2, .int .i64 a0_3, .int .i64 a0_4, .slice A0_5 l0_5.length c0_5, .slice A0_6 l0_6.length c0_6] 27 (0, 0)) (bk BK133) hb2); have n1_ := Aside0.mk (hb); have n2_ := Aside0.mk (hi); have n3_ := Aside0.mk (IsS119.ne_blk hi (blk_below (g := gb133) (o := .cells #[.string a0_0, .int .i64 a0_1, .int .i64 a0_2, .int .i64 a0_3, .int .i64 a0_4, .slice A0_5 l0_5.length c0_5, .slice A0_6 l0_6.length c0_6] 27 (0, 0)) (bk BK133) hb2) (by decide)); have n4_ := Aside0.mk (Ne.symm (IsS119.ne_blk hi (blk_below (g := gb133) (o := .cells #[.string a0_0, .int .i64 a0_1, .int .i64 a0_2, .int .i64 a0_3, .int .i64 a0_4, .slice A0_5 l0_5.length c0_5, .slice A0_6 l0_6.length c0_6] 27 (0, 0)) (bk BK133) hb2) (by decide))); clear BK133; clear HB; have BK133 := n0_; have HB := n1_; have HI137 := n2_; have NB137_133 := n3_; have NB133_137 := n4_; clear n0_ n1_ n2_ n3_ n4_; (try clear hb); (try clear hb2); (try clear hk); (try clear hi); have hnb20 := NB133_137.out; have hnc20 := NB137_133.out; obtain ⟨hcz21_0, hcz21_1, hcz21_2, hcz21_3, hcz21_4, hcz21_5, hcz21_6, hfz21_0, hfz21_1, hfz21_2, hfz21_3, hfz21_4, hfz21_5, hfz21_6⟩ := bc7 BK133) | ((with_reducible refine gate_callee (f := 24) rfl ?_); refine goesL_ (some 25) rfl rfl Tryd.func24 kx rfl #[.agg #[.int .i64 a0_3, .int .i64 a0_4, .slice A0_5 l0_5.length c0_5], .int .i64 1, .pointer (some ⟨g137, 0, none⟩)] rfl aa ?_; (with_reducible refine (rule_walk.calls kj3 a0_3 a0_4 _ _ l0_5 1 g137 (0 : Int) t138 t139 w _ ?side1 ?side2 ?side3 ?side4 hT A16.out).mono ?_); (case side1 => repeat (first | (with_reducible first | exact HI137.out | apply IsS119.alloc | apply IsS119.drewN | apply IsS119.drew | apply IsS119.set_0 | refine IsS119.far ?_ NB137_133.out _) | exact HI137.out)); (case side2 => repeat (first | (with_reducible first | exact HB.out | apply below_alloc | apply pw_below_drewN | apply below_drew1 | refine below_set ?_ (IsS119.ge HI137.out) | refine below_set ?_ GE133.out) | exact HB.out)); (case side3 => exact Kd.C_foot_came k24_heap HR0_5.out (by repeat (first | (with_reducible first | exact HB.out | apply below_alloc | apply pw_below_drewN | apply below_drew1 | refine below_set ?_ (IsS119.ge HI137.out) | refine below_set ?_ GE133.out) | exact HB.out)) (IsS119.ge HI137.out)); (case side4 => exact HC0_5.out); rintro e w22 ⟨rfl, hi, hb, hk⟩; refine ⟨_, rfl, ?_⟩; have n0_ := Aside0.mk (KeepBut.blk hk (g' := gb133) (o := .cells #[.string a0_0, .int .i64 a0_1, .int .i64 a0_2, .int .i64 a0_3, .int .i64 a0_4, .slice A0_5 l0_5.length c0_5, .slice A0_6 l0_6.length c0_6] 27 (0, 0)) (by (with_reducible repeat (first | refine blk_drewN ?_ _ | refine blk_drew ?_ | refine blk_alloc ?_ _)); (try refine blk_far ?_ NB133_137.out _); (try refine blk_far ?_ NB133_137.out _); (with_reducible repeat (first | refine blk_drewN ?_ _ | refine blk_drew ?_ | refine blk_alloc ?_ _)); exact BK133.out) NB133_137.out (by simp)); have n1_ := Aside0.mk (hb); have n2_ := Aside0.mk (hi); clear BK133; clear HB; clear HI137; have BK133 := n0_; have HB := n1_; have HI137 := n2_; clear n0_ n1_ n2_; (try clear hb); (try clear hb2); (try clear hk); (try clear hi); obtain ⟨hcz23_0, hcz23_1, hcz23_2, hcz23_3, hcz23_4, hcz23_5, hcz23_6, hfz23_0, hfz23_1, hfz23_2, hfz23_3, hfz23_4, hfz23_5, hfz23_6⟩ := bc7 BK133) | ((with_reducible refine gate_callee (f := 25) rfl ?_); refine goesL_ (some 31) rfl rfl Tryd.func25 kx rfl #[.slice A0_6 l0_6.length c0_6] rfl aa ?_; (with_reducible refine (rule_Months.calls kj3 _ _ l0_6 t140 _ ?side1 ?side2 A18.out).mono ?_); (case side1 => exact kc (Kd.C_below HR0_6.out HB.out)); (case side2 => exact HC0_6.out); rintro e w24 ⟨rfl, hb⟩; refine ⟨_, rfl, ?_⟩; have n0_ := bb BK133 hb; have n1_ := Aside0.mk (IsS119.below (by repeat (first | (with_reducible first | exact HI137.out | apply IsS119.alloc | apply IsS119.drewN | apply IsS119.drew | apply IsS119.set_0 | refine IsS119.far ?_ NB137_133.out _) | exact HI137.out)) hb); have n2_ := Aside0.mk (below_step (by repeat (first | (with_reducible first | exact HB.out | apply below_alloc | apply pw_below_drewN | apply below_drew1 | refine below_set ?_ (IsS119.ge HI137.out) | refine below_set ?_ GE133.out) | exact HB.out)) hb); clear BK133; clear HI137; clear HB; have BK133 := n0_; have HI137 := n1_; have HB := n2_; clear n0_ n1_ n2_; (try clear hb); (try clear hb2); (try clear hk); (try clear hi)))
      go_ret
      exact ⟨by first | rfl | (simp [errW_none, errW_some] <;> rfl) | (simp [*, errW_none, errW_some] <;> rfl), by repeat (first | (with_reducible first | exact HB.out | apply below_alloc | apply pw_below_drewN | apply below_drew1 | refine below_set ?_ (IsS119.ge HI137.out) | refine below_set ?_ GE133.out) | exact HB.out)⟩
     ·rw [if_neg c17] at H
      have c17b0 : (t138 == 0) = false := beq_eq_false_iff_ne.mpr c17
      have c17b1 : (t138 != 0) = true := bne_iff_ne.mpr c17
      obtain rfl := Option.some.inj H
      go_wp2_with (first | ((with_reducible refine gate_dst (N := 3) rfl ?_); (try (refine gate_guard (by rfl) ?_; dsimp only)); refine box_event ?hg (N := 3) ?hd (cs := #[.int .i64 0]) (t := 3) ?hr ?_; (case hd => rfl); (case hg => rfl); (case hr => first | (go_simp; done) | (go_simp; rfl)); intro g137 hg w25 hbox hb2; have hb := below_step be hb2; have hi : IsS119 w w25 g137 0 := ⟨hbox, by rw [hg]; exact (show Below w.heap.size w _ from be).size⟩; have hczn0_ : w25.cell? ⟨g137, 0, none⟩ = some (.int .i64 0) := (blk_cell hbox 0).trans rfl; have hfzn0_ := blk_frozen hbox 0; clear hg hbox; have n0_ := Aside0.mk (blk_below (g := gb133) (o := .cells #[.string a0_0, .int .i64 a0_1, .int .i64 a0_2, .int .i64 a0_3, .int .i64 a0_4, .slice A0_5 l0_5.length c0_5, .slice A0_6 l0_6.length c0_6] 27 (0, 0)) (bk BK133) hb2); have n1_ := Aside0.mk (hb); have n2_ := Aside0.mk (hi); have n3_ := Aside0.mk (IsS119.ne_blk hi (blk_below (g := gb133) (o := .cells #[.string a0_0, .int .i64 a0_1, .int .i64 a0_2, .int .i64 a0_3, .int .i64 a0_4, .slice A0_5 l0_5.length c0_5, .slice A0_6 l0_6.length c0_6] 27 (0, 0)) (bk BK133) hb2) (by decide)); have n4_ := Aside0.mk (Ne.symm (IsS119.ne_blk hi (blk_below (g := gb133) (o := .cells #[.string a0_0, .int .i64 a0_1, .int .i64 a0_2, .int .i64 a0_3, .int .i64 a0_4, .slice A0_5 l0_5.length c0_5, .slice A0_6 l0_6.length c0_6] 27 (0, 0)) (bk BK133) hb2) (by decide))); clear BK133; clear HB; have BK133 := n0_; have HB := n1_; have HI137 := n2_; have NB137_133 := n3_; have NB133_137 := n4_; clear n0_ n1_ n2_ n3_ n4_; (try clear hb); (try clear hb2); (try clear hk); (try clear hi); have hnb26 := NB133_137.out; have hnc26 := NB137_133.out; obtain ⟨hcz27_0, hcz27_1, hcz27_2, hcz27_3, hcz27_4, hcz27_5, hcz27_6, hfz27_0, hfz27_1, hfz27_2, hfz27_3, hfz27_4, hfz27_5, hfz27_6⟩ := bc7 BK133) | ((with_reducible refine gate_callee (f := 24) rfl ?_); refine goesL_ (some 25) rfl rfl Tryd.func24 kx rfl #[.agg #[.int .i64 a0_3, .int .i64 a0_4, .slice A0_5 l0_5.length c0_5], .int .i64 1, .pointer (some ⟨g137, 0, none⟩)] rfl aa ?_; (with_reducible refine (rule_walk.calls kj3 a0_3 a0_4 _ _ l0_5 1 g137 (0 : Int) t138 t139 w _ ?side1 ?side2 ?side3 ?side4 hT A16.out).mono ?_); (case side1 => repeat (first | (with_reducible first | exact HI137.out | apply IsS119.alloc | apply IsS119.drewN | apply IsS119.drew | apply IsS119.set_0 | refine IsS119.far ?_ NB137_133.out _) | exact HI137.out)); (case side2 => repeat (first | (with_reducible first | exact HB.out | apply below_alloc | apply pw_below_drewN | apply below_drew1 | refine below_set ?_ (IsS119.ge HI137.out) | refine below_set ?_ GE133.out) | exact HB.out)); (case side3 => exact Kd.C_foot_came k24_heap HR0_5.out (by repeat (first | (with_reducible first | exact HB.out | apply below_alloc | apply pw_below_drewN | apply below_drew1 | refine below_set ?_ (IsS119.ge HI137.out) | refine below_set ?_ GE133.out) | exact HB.out)) (IsS119.ge HI137.out)); (case side4 => exact HC0_5.out); rintro e w28 ⟨rfl, hi, hb, hk⟩; refine ⟨_, rfl, ?_⟩; have n0_ := Aside0.mk (KeepBut.blk hk (g' := gb133) (o := .cells #[.string a0_0, .int .i64 a0_1, .int .i64 a0_2, .int .i64 a0_3, .int .i64 a0_4, .slice A0_5 l0_5.length c0_5, .slice A0_6 l0_6.length c0_6] 27 (0, 0)) (by (with_reducible repeat (first | refine blk_drewN ?_ _ | refine blk_drew ?_ | refine blk_alloc ?_ _)); (try refine blk_far ?_ NB133_137.out _); (try refine blk_far ?_ NB133_137.out _); (with_reducible repeat (first | refine blk_drewN ?_ _ | refine blk_drew ?_ | refine blk_alloc ?_ _)); exact BK133.out) NB133_137.out (by simp)); have n1_ := Aside0.mk (hb); have n2_ := Aside0.mk (hi); clear BK133; clear HB; clear HI137; have BK133 := n0_; have HB := n1_; have HI137 := n2_; clear n0_ n1_ n2_; (try clear hb); (try clear hb2); (try clear hk); (try clear hi)))
      go_ret
      exact ⟨by first | rfl | (simp [errW_none, errW_some] <;> rfl) | (simp [*, errW_none, errW_some] <;> rfl), by repeat (first | (with_reducible first | exact HB.out | apply below_alloc | apply pw_below_drewN | apply below_drew1 | refine below_set ?_ (IsS119.ge HI137.out) | refine below_set ?_ GE133.out) | exact HB.out)⟩
 ·replace c3 := Bool.eq_false_iff.mpr c3
  subst c3
  have H1 : (some 5) = some r := by rw [if_neg (show ¬ (false = true) by decide)] at H; exact H
  clear H
  have H := H1
  clear H1
  obtain rfl := Option.some.inj H
  go_enter Tryd.func8, Tryd.ntmps8
  go_wp2_with (first | ((with_reducible refine gate_dst (N := 1) rfl ?_); refine box_event ?hg (N := 1) ?hd (cs := #[.string a0_0, .int .i64 a0_1, .int .i64 a0_2, .int .i64 a0_3, .int .i64 a0_4, .slice A0_5 l0_5.length c0_5, .slice A0_6 l0_6.length c0_6]) (t := 27) ?hr ?_; (case hd => rfl); (case hg => rfl); (case hr => first | (go_simp; done) | (go_simp; rfl)); intro gb133 hg w29 hbox hb; have n0_ := Aside0.mk (below_step be hb); have n1_ := Aside0.mk (hbox); have n2_ := gs hg HB; have n3_ := n2_; clear HB; have HB := n0_; have BK133 := n1_; have GW133 := n2_; have GE133 := n3_; clear n0_ n1_ n2_ n3_; clear hb hbox hg; obtain ⟨hcz30_0, hcz30_1, hcz30_2, hcz30_3, hcz30_4, hcz30_5, hcz30_6, hfz30_0, hfz30_1, hfz30_2, hfz30_3, hfz30_4, hfz30_5, hfz30_6⟩ := bc7 BK133) | ((with_reducible refine gate_callee (f := 22) rfl ?_); refine goesL_ (some 7) rfl rfl Tryd.func22 kx rfl #[.string a0_0] rfl aa ?_; (with_reducible refine (rule_Name.calls a0_0 false _ A2.out).mono ?_); rintro e w31 ⟨rfl, hb⟩; refine ⟨_, rfl, ?_⟩; have n0_ := bb BK133 hb; have n1_ := Aside0.mk (below_step be hb); clear BK133; clear HB; have BK133 := n0_; have HB := n1_; clear n0_ n1_; (try clear hb); (try clear hb2); (try clear hk); (try clear hi)))
  go_ret
  exact ⟨by first | rfl | (simp [errW_none, errW_some] <;> rfl) | (simp [*, errW_none, errW_some] <;> rfl), be⟩

end Go.Proofs.YtgcmclnjnimolaaDoor.PCompileCompiles
