/- The walks of the functions of this part, laid closer by a program of mine. -/
-- The walks of the law's functions, told by a program.
import Derived.Test.YtgcmclnjnimolaaDoorY
import Derived.Test.YtgcmclnjnimolaaDoorPCompileCompilesx0
import Derived.Test.YtgcmclnjnimolaaDoorPCompileCompilesx10
import Derived.Test.YtgcmclnjnimolaaDoorPCompileCompilesx12
namespace Go.Proofs.YtgcmclnjnimolaaDoor.PCompileCompiles
open Go.RowKit Go.Proofs.YtgcmclnjnimolaaDoorW.PrintWords Go.Proofs.YtgcmclnjnimolaaDoorW.PrintLast Go.Proofs.YtgcmclnjnimolaaDoorW.PrintMore Go.Proofs.YtgcmclnjnimolaaDoor.Y
attribute [local go_sem] max2_int min2_int max_two min_two max_three min_three max_four min_four   -- for this text's walks alone
set_option linter.unusedVariables false
set_option linter.unusedSimpArgs false

/-! ### ephemerisref1_Compile: function 16 -/
def ephemerisref1_Compile.l0 : Nat → Int → ByteArray → Int → Int → Int → Int → List (S24) → List (S53) → ByteArray → Int → Int → List (S53) → List Int → Option (ByteArray × Int × Int × (List (S53)) × List Int × Int)
 | 0, _, _, _, _, _, _, _, _, _, _, _, _, _ => none
 | k + 1, x6, x256000, x256001, x256002, x256003, x256004, x256005, x256006, x259000, x259001, x259002, x259003, x259004 => if x6 ≤ x256002 then ((ephemerisref1_Eval.f k x256003 x256004 x256005 x6).bind fun bt259 => (if bt259.2 = 0 then (if bt259.1 = 0 then (ephemerisref1_Compile.l0 k (wrap64 (x6 + 1)) x256000 x256001 x256002 x256003 x256004 x256005 x256006 x259000 x259001 x259002 x259003 x259004) else (if x259004.length < 17592186044416 then (ephemerisref1_Compile.l0 k (wrap64 (x6 + 1)) x256000 x256001 x256002 x256003 x256004 x256005 x256006 x259000 x259001 x259002 x259003 (x259004 ++ [x6])) else (none))) else (some ((⟨#[]⟩ : ByteArray), 0, 0, ([] : List (S53)), ([] : List Int), bt259.2)))) else (some (x259000, x259001, x259002, x259003, x259004, 0))
def ephemerisref1_Compile.f (k : Nat) (a0_0 : ByteArray) (a0_1 : Int) (a0_2 : Int) (a0_3 : Int) (a0_4 : Int) (l0_5 : List (S24)) (l0_6 : List (S53)) : Option (ByteArray × Int × Int × (List (S53)) × List Int × Int) := (ephemerisref1_RuleError.f k a0_0 a0_1 a0_2 a0_3 a0_4 l0_5 l0_6).bind fun t257 => (if t257 = 0 then (ephemerisref1_Compile.l0 k 1 a0_0 a0_1 a0_2 a0_3 a0_4 l0_5 l0_6 a0_0 a0_1 a0_2 l0_6 ([] : List Int)) else (some ((⟨#[]⟩ : ByteArray), 0, 0, ([] : List (S53)), ([] : List Int), t257)))
theorem ephemerisref1_Compile.mono_l : ∀ k, (∀ y0 y1 y2 y3 y4 y5 y6 y7 y8 y9 y10 y11 y12, LeO (ephemerisref1_Compile.l0 k y0 y1 y2 y3 y4 y5 y6 y7 y8 y9 y10 y11 y12) (ephemerisref1_Compile.l0 (k + 1) y0 y1 y2 y3 y4 y5 y6 y7 y8 y9 y10 y11 y12))
 | 0 => fun _ _ _ _ _ _ _ _ _ _ _ _ _ r h => by simp [ephemerisref1_Compile.l0] at h
 | k + 1 => by
  have ih0 := ephemerisref1_Compile.mono_l k
  ·intro y0 y1 y2 y3 y4 y5 y6 y7 y8 y9 y10 y11 y12
   unfold ephemerisref1_Compile.l0
   repeat' first
   | (with_reducible exact ih0 _ _ _ _ _ _ _ _ _ _ _ _ _)
   | (with_reducible exact ephemerisref1_Eval.mono _ _ _ _ _)
   | (with_reducible exact ephemerisref1_RuleError.mono _ _ _ _ _ _ _ _)
   | (with_reducible exact LeO.refl _)
   | (with_reducible exact LeO.none _)
   | (with_reducible refine LeO.ite ?_ ?_)
   | (with_reducible refine LeO.bind ?_ (fun _ => ?_))
   | exact ih0 _ _ _ _ _ _ _ _ _ _ _ _ _
   | exact ephemerisref1_Eval.mono _ _ _ _ _
   | exact ephemerisref1_RuleError.mono _ _ _ _ _ _ _ _
   | exact LeO.none _
   | refine LeO.ite ?_ ?_
   | refine LeO.bind ?_ (fun _ => ?_)
theorem ephemerisref1_Compile.mono : ∀ a0 a1 a2 a3 a4 a5 a6 k, LeO (ephemerisref1_Compile.f k a0 a1 a2 a3 a4 a5 a6) (ephemerisref1_Compile.f (k + 1) a0 a1 a2 a3 a4 a5 a6) := by
 intro a0 a1 a2 a3 a4 a5 a6 k
 have ih0 := ephemerisref1_Compile.mono_l k
 unfold ephemerisref1_Compile.f
 repeat' first
   | (with_reducible exact ih0 _ _ _ _ _ _ _ _ _ _ _ _ _)
   | (with_reducible exact ephemerisref1_Eval.mono _ _ _ _ _)
   | (with_reducible exact ephemerisref1_RuleError.mono _ _ _ _ _ _ _ _)
   | (with_reducible exact LeO.refl _)
   | (with_reducible exact LeO.none _)
   | (with_reducible refine LeO.ite ?_ ?_)
   | (with_reducible refine LeO.bind ?_ (fun _ => ?_))
   | exact ih0 _ _ _ _ _ _ _ _ _ _ _ _ _
   | exact ephemerisref1_Eval.mono _ _ _ _ _
   | exact ephemerisref1_RuleError.mono _ _ _ _ _ _ _ _
   | exact LeO.none _
   | refine LeO.ite ?_ ?_
   | refine LeO.bind ?_ (fun _ => ?_)
set_option maxHeartbeats 8000000 in
set_option maxRecDepth 100000 in
theorem ephemerisref1_Compile.calls (k : Nat) (a0_0 : ByteArray) (a0_1 : Int) (a0_2 : Int) (a0_3 : Int) (a0_4 : Int) (A0_5 : Option Addr) (c0_5 : Nat) (l0_5 : List (S24)) (P0_6_ : Nat → Prop) (A0_6 : Option Addr) (c0_6 : Nat) (l0_6 : List (S53)) (r1 : ByteArray) (r2 : Int) (r3 : Int) (r4 : List (S53)) (r5 : List Int) (r6 : Int) (w : World) (hr0_5 : Kd.C k24 w A0_5 l0_5.length l0_5) (hc0_5 : l0_5.length ≤ c0_5) (hs0_6 : Kd.V k53 53 w w.heap.size (fun k_ => P0_6_ k_) (.slice A0_6 l0_6.length c0_6) l0_6) (h : ephemerisref1_Compile.f k a0_0 a0_1 a0_2 a0_3 a0_4 l0_5 l0_6 = some (r1, r2, r3, r4, r5, r6)) :
  Calls Tryd.prog 16 #[.agg #[.string a0_0, .int .i64 a0_1, .int .i64 a0_2, .int .i64 a0_3, .int .i64 a0_4, .slice A0_5 l0_5.length c0_5, .slice A0_6 l0_6.length c0_6]] w fun e w' => ∃ v3_ v4_ : Value, e = .returned (.tuple #[.agg #[.string r1, .int .i64 r2, .int .i64 r3, v3_, v4_], .int .i64 r6]) ∧ Kd.V k53 53 w' w.heap.size (fun k_ => (P0_6_ k_ ∨ w.heap.size ≤ k_) ∧ some k_ ≠ (v4_ : Value).ownBlock) v3_ r4 ∧ Kd.R (Kd.int .i64) 3 w' w.heap.size (fun k_ => (w.heap.size ≤ k_)) v4_ r5 ∧ Below w.heap.size w w' := by
 have hu27 := Tryd.underlying27
 have hu39 := Tryd.underlying39
 have hu24 := Tryd.underlying24
 have HR0_5 := Aside0.mk hr0_5
 have HC0_5 := Aside0.mk hc0_5
 clear hr0_5 hc0_5
 have HO0_6 := Aside0.mk (show Kd.V k53 53 w w.heap.size (fun k_ => (P0_6_ k_ ∨ w.heap.size ≤ k_)) (.slice A0_6 l0_6.length c0_6) l0_6 from Kd.V_mono hs0_6 (fun k_ hk => .inl hk))
 have HB := Aside0.mk (Below.refl w.heap.size w)
 have H : ((ephemerisref1_RuleError.f k a0_0 a0_1 a0_2 a0_3 a0_4 l0_5 l0_6).bind fun t257 => (if t257 = 0 then (ephemerisref1_Compile.l0 k 1 a0_0 a0_1 a0_2 a0_3 a0_4 l0_5 l0_6 a0_0 a0_1 a0_2 l0_6 ([] : List Int)) else (some ((⟨#[]⟩ : ByteArray), 0, 0, ([] : List (S53)), ([] : List Int), t257)))) = some (r1, r2, r3, r4, r5, r6) := h
 clear h
 replace H := Option.bind_eq_some_iff.mp H
 obtain ⟨t257, A20, H⟩ := H
 replace H : (if t257 = 0 then (ephemerisref1_Compile.l0 k 1 a0_0 a0_1 a0_2 a0_3 a0_4 l0_5 l0_6 a0_0 a0_1 a0_2 l0_6 ([] : List Int)) else (some ((⟨#[]⟩ : ByteArray), 0, 0, ([] : List (S53)), ([] : List Int), t257))) = some (r1, r2, r3, r4, r5, r6) := H
 have A2 := Aside0.mk A20
 clear A20
 by_cases c3 : t257 = 0
 ·rw [if_pos c3] at H
  have c3b0 : (t257 == 0) = true := beq_iff_eq.mpr c3
  have c3b1 : (t257 != 0) = false := bne_eq_false_iff_eq.mpr c3
  clear c3
  have H' := Aside0.mk H
  clear H
  go_enter Tryd.func16, Tryd.ntmps16
  go_wp2_with (first | ((with_reducible refine gate_dst (N := 1) rfl ?_); refine box_event ?hg (N := 1) ?hd (cs := #[.string a0_0, .int .i64 a0_1, .int .i64 a0_2, .int .i64 a0_3, .int .i64 a0_4, .slice A0_5 l0_5.length c0_5, .slice A0_6 l0_6.length c0_6]) (t := 27) ?hr ?_; (case hd => rfl); (case hg => rfl); (case hr => first | (go_simp; done) | (go_simp; rfl)); intro gb255 hg w4 hbox hb; have n0_ := Aside0.mk (Kd.V_below (Kd.V_elderB (by (with_reducible repeat (first | apply Kd.V_alloc | apply Kd.V_drewN | apply Kd.V_drew)); exact HO0_6.out) gb255 (Nat.le_of_eq hg.symm)) hb); have n1_ := Aside0.mk (below_step be hb); have n2_ := Aside0.mk (hbox); have n3_ := gs hg HB; have n4_ := n3_; clear HO0_6; clear HB; have HO0_6 := n0_; have HB := n1_; have BK255 := n2_; have GW255 := n3_; have GE255 := n4_; clear n0_ n1_ n2_ n3_ n4_; clear hb hbox hg) | ((with_reducible refine gate_dst (N := 2) rfl ?_); refine box_event ?hg (N := 2) ?hd (cs := #[.string (⟨#[]⟩ : ByteArray), .int .i64 0, .int .i64 0, .slice none 0 0, .slice none 0 0]) (t := 39) ?hr ?_; (case hd => rfl); (case hg => rfl); (case hr => first | (go_simp; done) | (go_simp; rfl)); intro gb256 hg w5 hbox hb; have n0_ := Aside0.mk (Kd.V_below (Kd.V_elderB (by (with_reducible repeat (first | apply Kd.V_alloc | apply Kd.V_drewN | apply Kd.V_drew)); exact HO0_6.out) gb256 (Nat.le_of_eq hg.symm)) hb); have n1_ := bb BK255 hb; have n2_ := Aside0.mk (below_step be hb); have n3_ := Aside0.mk (hbox); have n4_ := gs hg HB; have n5_ := n4_; have n6_ := nl BK255 hg; have n7_ := ns n6_; clear HO0_6; clear BK255; clear HB; have HO0_6 := n0_; have BK255 := n1_; have HB := n2_; have BK256 := n3_; have GW256 := n4_; have GE256 := n5_; have NB255_256 := n6_; have NB256_255 := n7_; clear n0_ n1_ n2_ n3_ n4_ n5_ n6_ n7_; clear hb hbox hg; have hnb6 := NB255_256.out; have hnc6 := NB256_255.out; obtain ⟨hcz7_0, hcz7_1, hcz7_2, hcz7_3, hcz7_4, hcz7_5, hcz7_6, hfz7_0, hfz7_1, hfz7_2, hfz7_3, hfz7_4, hfz7_5, hfz7_6⟩ := bc7 BK255) | ((with_reducible refine gate_callee (f := 9) rfl ?_); refine goesL_ (some 10) rfl rfl Tryd.func9 kx rfl #[.agg #[.string a0_0, .int .i64 a0_1, .int .i64 a0_2, .int .i64 a0_3, .int .i64 a0_4, .slice A0_5 l0_5.length c0_5, .slice A0_6 l0_6.length c0_6]] rfl aa ?_; (with_reducible refine (ephemerisref1_RuleError.calls k a0_0 a0_1 a0_2 a0_3 a0_4 _ _ l0_5 _ _ l0_6 t257 _ ?side1 ?side2 ?side3 ?side4 A2.out).mono ?_); (case side1 => exact kc (Kd.C_below HR0_5.out HB.out)); (case side2 => exact HC0_5.out); (case side3 => repeat (first | exact (Kd.V_reads' HO0_6.out).2.2 | (with_reducible refine Kd.C_alloc ?_ _) | (with_reducible refine Kd.C_drewN ?_ _) | (with_reducible refine Kd.C_drew ?_))); (case side4 => exact (Kd.V_reads' HO0_6.out).2.1); rintro e w8 ⟨rfl, hb⟩; refine ⟨_, rfl, ?_⟩; have n0_ := Aside0.mk (Kd.V_below (by (with_reducible repeat (first | apply Kd.V_alloc | apply Kd.V_drewN | apply Kd.V_drew)); exact HO0_6.out) hb); have n1_ := bb BK255 hb; have n2_ := bb BK256 hb; have n3_ := Aside0.mk (below_step be hb); clear HO0_6; clear BK255; clear BK256; clear HB; have HO0_6 := n0_; have BK255 := n1_; have BK256 := n2_; have HB := n3_; clear n0_ n1_ n2_ n3_; (try clear hb); (try clear hb2); (try clear hk); (try clear hi); obtain ⟨hcz9_0, hcz9_1, hcz9_2, hcz9_3, hcz9_4, hcz9_5, hcz9_6, hfz9_0, hfz9_1, hfz9_2, hfz9_3, hfz9_4, hfz9_5, hfz9_6⟩ := bc7 BK255) | ((with_reducible refine gate_dst (N := 5) rfl ?_); refine box_event ?hg (N := 5) ?hd (cs := #[.string (⟨#[]⟩ : ByteArray), .int .i64 0, .int .i64 0, .slice none 0 0, .slice none 0 0]) (t := 39) ?hr ?_; (case hd => rfl); (case hg => rfl); (case hr => first | (go_simp; done) | (go_simp; rfl)); intro gb258 hg w10 hbox hb; have n0_ := Aside0.mk (Kd.V_below (Kd.V_elderB (by (with_reducible repeat (first | apply Kd.V_alloc | apply Kd.V_drewN | apply Kd.V_drew)); exact HO0_6.out) gb258 (Nat.le_of_eq hg.symm)) hb); have n1_ := bb BK255 hb; have n2_ := bb BK256 hb; have n3_ := Aside0.mk (below_step be hb); have n4_ := Aside0.mk (hbox); have n5_ := gs hg HB; have n6_ := n5_; have n7_ := nl BK255 hg; have n8_ := ns n7_; have n9_ := nl BK256 hg; have n10_ := ns n9_; clear HO0_6; clear BK255; clear BK256; clear HB; have HO0_6 := n0_; have BK255 := n1_; have BK256 := n2_; have HB := n3_; have BK258 := n4_; have GW258 := n5_; have GE258 := n6_; have NB255_258 := n7_; have NB258_255 := n8_; have NB256_258 := n9_; have NB258_256 := n10_; clear n0_ n1_ n2_ n3_ n4_ n5_ n6_ n7_ n8_ n9_ n10_; clear hb hbox hg; have hnb11 := NB258_255.out; have hnc11 := NB255_258.out; have hnb12 := NB258_256.out; have hnc12 := NB256_258.out; obtain ⟨hcz13_0, hcz13_1, hcz13_2, hcz13_3, hcz13_4, hfz13_0, hfz13_1, hfz13_2, hfz13_3, hfz13_4⟩ := bc5 BK258))
  go_loopg [6] k (fun kq v6 w' => ∃ (x6_1 : Int) (x257000_1 : ByteArray) (x257001_1 : Int) (x257002_1 : Int) (x259004_1 : List Int) (u259004 : Value), v6 = .int .i64 x6_1 ∧ Aside0 (ephemerisref1_Compile.l0 kq x6_1 a0_0 a0_1 a0_2 a0_3 a0_4 l0_5 l0_6 a0_0 a0_1 a0_2 l0_6 x259004_1 = some (r1, r2, r3, r4, r5, r6)) ∧ Aside0 (kq ≤ k) ∧ Aside0 (Kd.V k53 53 w' w.heap.size (fun k_ => (P0_6_ k_ ∨ w.heap.size ≤ k_) ∧ some k_ ≠ (u259004 : Value).ownBlock ∧ k_ ≠ gb255 ∧ k_ ≠ gb256 ∧ k_ ≠ gb258) (.slice A0_6 l0_6.length c0_6) l0_6) ∧ Aside0 (Kd.V k53 53 w' w.heap.size (fun k_ => (P0_6_ k_ ∨ w.heap.size ≤ k_) ∧ some k_ ≠ (u259004 : Value).ownBlock ∧ k_ ≠ gb255 ∧ k_ ≠ gb256 ∧ k_ ≠ gb258) (.slice A0_6 l0_6.length c0_6) l0_6) ∧ Aside0 (Kd.R (Kd.int .i64) 3 w' w.heap.size (fun k_ => (w.heap.size ≤ k_)) u259004 x259004_1) ∧ Aside0 (w'.heap[gb255]? = some (.cells #[.string a0_0, .int .i64 a0_1, .int .i64 a0_2, .int .i64 a0_3, .int .i64 a0_4, (.slice A0_5 l0_5.length c0_5), (.slice A0_6 l0_6.length c0_6)] 27 (0, 0))) ∧ Aside0 (w'.heap[gb256]? = some (.cells #[.string x257000_1, .int .i64 x257001_1, .int .i64 x257002_1, (.slice none 0 0), (.slice none 0 0)] 39 (0, 0))) ∧ Aside0 (w'.heap[gb258]? = some (.cells #[.string a0_0, .int .i64 a0_1, .int .i64 a0_2, (.slice A0_6 l0_6.length c0_6), u259004] 39 (0, 0))) ∧ Aside0 (Below w.heap.size w w'))
  case atStart => exact ⟨(1), ((⟨#[]⟩ : ByteArray)), (0), (0), (([] : List Int)), (.slice none 0 0), rs, H', ⟨Nat.le_refl _⟩, ⟨by (with_reducible repeat (first | apply Kd.V_alloc | apply Kd.V_drewN | apply Kd.V_drew)); exact Kd.V_mono (Kd.V_far (p := ⟨gb258, 4, none⟩) (Kd.V_far (p := ⟨gb258, 3, none⟩) (Kd.V_far (p := ⟨gb258, 2, none⟩) (Kd.V_far (p := ⟨gb258, 1, none⟩) (Kd.V_far (p := ⟨gb258, 0, none⟩) (Kd.V_mono HO0_6.out (fun k_ hk => (⟨hk, hk.2⟩ : _ ∧ k_ ≠ gb258))) (fun _ hk => hk.2) (.string a0_0)) (fun _ hk => hk.2) (.int .i64 a0_1)) (fun _ hk => hk.2) (.int .i64 a0_2)) (fun _ hk => hk.2) (.slice A0_6 l0_6.length c0_6)) (fun _ hk => hk.2) (.slice none 0 0)) (fun _ hk => ⟨hk.1.1.1.1, ⟨(by simp [Value.ownBlock]), ⟨hk.1.1.1.2, ⟨hk.1.1.2, hk.1.2⟩⟩⟩⟩)⟩, ⟨by (with_reducible repeat (first | apply Kd.V_alloc | apply Kd.V_drewN | apply Kd.V_drew)); exact Kd.V_mono (Kd.V_far (p := ⟨gb258, 4, none⟩) (Kd.V_far (p := ⟨gb258, 3, none⟩) (Kd.V_far (p := ⟨gb258, 2, none⟩) (Kd.V_far (p := ⟨gb258, 1, none⟩) (Kd.V_far (p := ⟨gb258, 0, none⟩) (Kd.V_mono HO0_6.out (fun k_ hk => (⟨hk, hk.2⟩ : _ ∧ k_ ≠ gb258))) (fun _ hk => hk.2) (.string a0_0)) (fun _ hk => hk.2) (.int .i64 a0_1)) (fun _ hk => hk.2) (.int .i64 a0_2)) (fun _ hk => hk.2) (.slice A0_6 l0_6.length c0_6)) (fun _ hk => hk.2) (.slice none 0 0)) (fun _ hk => ⟨hk.1.1.1.1, ⟨(by simp [Value.ownBlock]), ⟨hk.1.1.1.2, ⟨hk.1.1.2, hk.1.2⟩⟩⟩⟩)⟩, ⟨by first | exact Kd.R_nil _ _ _ _ _ | exact Kd.N_nil _ _ _ _ _ | exact Kd.V_nil _ _ _ _ _ | exact Kd.Q_nil _ _ _ _ _ | exact Kd.S_nil _ _ _ _ _⟩, ⟨bk BK255⟩, ⟨bk BK256⟩, ⟨bk BK258⟩, ⟨be⟩⟩
  case round =>
   clear H'
   (try clear c1); (try clear p2); (try clear c3); (try clear c3b0); (try clear c3b1); (try clear c6); (try clear c9); (try clear c11); (try clear c12); (try clear hcz13_0); (try clear hcz13_1); (try clear hcz13_2); (try clear hcz13_3); (try clear hcz13_4); (try clear hcz7_0); (try clear hcz7_1); (try clear hcz7_2); (try clear hcz7_3); (try clear hcz7_4); (try clear hcz7_5); (try clear hcz7_6); (try clear hcz9_0); (try clear hcz9_1); (try clear hcz9_2); (try clear hcz9_3); (try clear hcz9_4); (try clear hcz9_5); (try clear hcz9_6); (try clear hfz13_0); (try clear hfz13_1); (try clear hfz13_2); (try clear hfz13_3); (try clear hfz13_4); (try clear hfz7_0); (try clear hfz7_1); (try clear hfz7_2); (try clear hfz7_3); (try clear hfz7_4); (try clear hfz7_5); (try clear hfz7_6); (try clear hfz9_0); (try clear hfz9_1); (try clear hfz9_2); (try clear hfz9_3); (try clear hfz9_4); (try clear hfz9_5); (try clear hfz9_6)
   obtain ⟨x6_1, x257000_1, x257001_1, x257002_1, x259004_1, u259004, rfl, HA, HK1, HO_256006, HO_259003, HO_259004, BK255, BK256, BK258, HB⟩ := hrel
   cases gk with
   | zero => exact absurd HA.out (by simp [ephemerisref1_Compile.l0])
   | succ k1 =>
    have H := HA.out
    clear HA
    simp only [ephemerisref1_Compile.l0] at H
    by_cases c14 : x6_1 ≤ a0_2
    ·rw [if_pos c14] at H
     have c14b0 : decide (x6_1 ≤ a0_2) = true := decide_eq_true c14
     clear c14
     replace H := Option.bind_eq_some_iff.mp H
     obtain ⟨⟨t259, t260⟩, A150, H⟩ := H
     replace H : (if t260 = 0 then (if t259 = 0 then (ephemerisref1_Compile.l0 k1 (wrap64 (x6_1 + 1)) a0_0 a0_1 a0_2 a0_3 a0_4 l0_5 l0_6 a0_0 a0_1 a0_2 l0_6 x259004_1) else (if x259004_1.length < 17592186044416 then (ephemerisref1_Compile.l0 k1 (wrap64 (x6_1 + 1)) a0_0 a0_1 a0_2 a0_3 a0_4 l0_5 l0_6 a0_0 a0_1 a0_2 l0_6 (x259004_1 ++ [x6_1])) else (none))) else (some ((⟨#[]⟩ : ByteArray), 0, 0, ([] : List (S53)), ([] : List Int), t260))) = some (r1, r2, r3, r4, r5, r6) := H
     have A15 := Aside0.mk A150
     clear A150
     by_cases c16 : t260 = 0
     ·rw [if_pos c16] at H
      have c16b0 : (t260 == 0) = true := beq_iff_eq.mpr c16
      have c16b1 : (t260 != 0) = false := bne_eq_false_iff_eq.mpr c16
      clear c16
      by_cases c17 : t259 = 0
      ·rw [if_pos c17] at H
       have c17b0 : (t259 == 0) = true := beq_iff_eq.mpr c17
       have c17b1 : (t259 != 0) = false := bne_eq_false_iff_eq.mpr c17
       clear c17
       have H' := Aside0.mk H
       clear H
       have hnb18 := NB255_256.out
       have hnc18 := NB256_255.out
       have hnb19 := NB255_258.out
       have hnc19 := NB258_255.out
       obtain ⟨hcz20_0, hcz20_1, hcz20_2, hcz20_3, hcz20_4, hcz20_5, hcz20_6, hfz20_0, hfz20_1, hfz20_2, hfz20_3, hfz20_4, hfz20_5, hfz20_6⟩ := bc7 BK255
       go_wp2_with (first | ((with_reducible refine gate_callee (f := 13) rfl ?_); refine goesL_ (some 34) rfl rfl Tryd.func13 kx rfl #[.agg #[.int .i64 a0_3, .int .i64 a0_4, .slice A0_5 l0_5.length c0_5], .int .i64 x6_1] rfl aa ?_; (with_reducible refine (ephemerisref1_Eval.calls k1 a0_3 a0_4 _ _ l0_5 x6_1 t259 t260 _ ?side1 ?side2 A15.out).mono ?_); (case side1 => exact kc (Kd.C_below HR0_5.out HB.out)); (case side2 => exact HC0_5.out); rintro e w21 ⟨rfl, hb⟩; refine ⟨_, rfl, ?_⟩; have n0_ := Aside0.mk (Kd.V_below (by (with_reducible repeat (first | apply Kd.V_alloc | apply Kd.V_drewN | apply Kd.V_drew)); exact HO_256006.out) hb); have n1_ := Aside0.mk (Kd.V_below (by (with_reducible repeat (first | apply Kd.V_alloc | apply Kd.V_drewN | apply Kd.V_drew)); exact HO_259003.out) hb); have n2_ := Aside0.mk (Kd.R_below (by (with_reducible repeat (first | apply Kd.R_alloc | apply Kd.R_drewN | apply Kd.R_drew)); exact HO_259004.out) hb); have n3_ := bb BK255 hb; have n4_ := bb BK256 hb; have n5_ := bb BK258 hb; have n6_ := Aside0.mk (below_step be hb); clear HO_256006; clear HO_259003; clear HO_259004; clear BK255; clear BK256; clear BK258; clear HB; have HO_256006 := n0_; have HO_259003 := n1_; have HO_259004 := n2_; have BK255 := n3_; have BK256 := n4_; have BK258 := n5_; have HB := n6_; clear n0_ n1_ n2_ n3_ n4_ n5_ n6_; (try clear hb); (try clear hb2); (try clear hk); (try clear hi)))
       go_roundg k1
       case measure => have := HK1.out; omega
       case rel => exact ⟨(wrap64 (x6_1 + 1)), (x257000_1), (x257001_1), (x257002_1), (x259004_1), (u259004), rs, H', ⟨by have := HK1.out; omega⟩, ⟨by (with_reducible repeat (first | apply Kd.V_alloc | apply Kd.V_drewN | apply Kd.V_drew)); exact HO_256006.out⟩, ⟨by (with_reducible repeat (first | apply Kd.V_alloc | apply Kd.V_drewN | apply Kd.V_drew)); exact HO_259003.out⟩, ⟨by (with_reducible repeat (first | apply Kd.R_alloc | apply Kd.R_drewN | apply Kd.R_drew)); exact HO_259004.out⟩, ⟨bk BK255⟩, ⟨bk BK256⟩, ⟨bk BK258⟩, ⟨be⟩⟩
      ·rw [if_neg c17] at H
       have c17b0 : (t259 == 0) = false := beq_eq_false_iff_ne.mpr c17
       have c17b1 : (t259 != 0) = true := bne_iff_ne.mpr c17
       by_cases c22 : x259004_1.length < 17592186044416
       ·rw [if_pos c22] at H
        have LMc22 := Aside0.mk c22
        clear c22
        obtain ⟨y261, hy261⟩ : ∃ y_ : List Int, y_ = (x259004_1 ++ [x6_1]) := ⟨_, rfl⟩
        replace H : (ephemerisref1_Compile.l0 k1 (wrap64 (x6_1 + 1)) a0_0 a0_1 a0_2 a0_3 a0_4 l0_5 l0_6 a0_0 a0_1 a0_2 l0_6 y261) = some (r1, r2, r3, r4, r5, r6) := rp hy261 H
        have Ny261 := Aside0.mk hy261
        clear hy261
        have H' := Aside0.mk H
        clear H
        have hnb23 := NB255_256.out
        have hnc23 := NB256_255.out
        have hnb24 := NB255_258.out
        have hnc24 := NB258_255.out
        obtain ⟨hcz25_0, hcz25_1, hcz25_2, hcz25_3, hcz25_4, hcz25_5, hcz25_6, hfz25_0, hfz25_1, hfz25_2, hfz25_3, hfz25_4, hfz25_5, hfz25_6⟩ := bc7 BK255
        go_wp2_with (first | ((with_reducible refine gate_callee (f := 13) rfl ?_); refine goesL_ (some 34) rfl rfl Tryd.func13 kx rfl #[.agg #[.int .i64 a0_3, .int .i64 a0_4, .slice A0_5 l0_5.length c0_5], .int .i64 x6_1] rfl aa ?_; (with_reducible refine (ephemerisref1_Eval.calls k1 a0_3 a0_4 _ _ l0_5 x6_1 t259 t260 _ ?side1 ?side2 A15.out).mono ?_); (case side1 => exact kc (Kd.C_below HR0_5.out HB.out)); (case side2 => exact HC0_5.out); rintro e w26 ⟨rfl, hb⟩; refine ⟨_, rfl, ?_⟩; have n0_ := Aside0.mk (Kd.V_below (by (with_reducible repeat (first | apply Kd.V_alloc | apply Kd.V_drewN | apply Kd.V_drew)); exact HO_256006.out) hb); have n1_ := Aside0.mk (Kd.V_below (by (with_reducible repeat (first | apply Kd.V_alloc | apply Kd.V_drewN | apply Kd.V_drew)); exact HO_259003.out) hb); have n2_ := Aside0.mk (Kd.R_below (by (with_reducible repeat (first | apply Kd.R_alloc | apply Kd.R_drewN | apply Kd.R_drew)); exact HO_259004.out) hb); have n3_ := bb BK255 hb; have n4_ := bb BK256 hb; have n5_ := bb BK258 hb; have n6_ := Aside0.mk (below_step be hb); clear HO_256006; clear HO_259003; clear HO_259004; clear BK255; clear BK256; clear BK258; clear HB; have HO_256006 := n0_; have HO_259003 := n1_; have HO_259004 := n2_; have BK255 := n3_; have BK256 := n4_; have BK258 := n5_; have HB := n6_; clear n0_ n1_ n2_ n3_ n4_ n5_ n6_; (try clear hb); (try clear hb2); (try clear hk); (try clear hi); have hnb27 := NB258_256.out; have hnc27 := NB256_258.out; obtain ⟨hcz28_0, hcz28_1, hcz28_2, hcz28_3, hcz28_4, hfz28_0, hfz28_1, hfz28_2, hfz28_3, hfz28_4⟩ := bc5 BK258) | ((with_reducible refine gate_builtin (b := .append) (xs := #[.tmp 44, .tmp 46]) rfl ?_); at_builtin; refine Kd.R_append (Kd.int .i64) (w0 := w) w.heap.size rfl (.tmp 44) (.tmp 46) 37 3 (.int .i64 0) 8 rfl Tryd.underlying37 info3 rfl (by decide) (by omega) u259004 x259004_1 x6_1 [.int .i64 x6_1] (fun k_ => (w.heap.size ≤ k_)) (fun _ => False) rfl rfl ?aP (fun _ hk => hk.elim) ?aF ?aO ?aB ?aS ?aL ?_; (case aP => exact rfl); (case aB => exact be); (case aF => exact (fun k_ hk => (Nat.le_trans (below_size be) hk))); (case aO => exact (by (with_reducible repeat (first | apply Kd.R_alloc | apply Kd.R_drewN | apply Kd.R_drew)); exact HO_259004.out)); (case aS => exact (below_size be)); (case aL => have := LMc22.out; omega); intro v262 w29 ho hb hg hat; rw [← Ny261.out] at ho; have n0_ := Aside0.mk (Kd.V_afterv (ok := (fun k_ => (P0_6_ k_ ∨ w.heap.size ≤ k_) ∧ k_ ≠ gb255 ∧ k_ ≠ gb256 ∧ k_ ≠ gb258)) (by (with_reducible repeat (first | apply Kd.V_alloc | apply Kd.V_drewN | apply Kd.V_drew)); exact Kd.V_mono HO_256006.out (fun _ hk => ⟨⟨hk.1, ⟨hk.2.2.1, ⟨hk.2.2.2.1, hk.2.2.2.2⟩⟩⟩, hk.2.1⟩)) hg hat); have n1_ := Aside0.mk (Kd.V_afterv (ok := (fun k_ => (P0_6_ k_ ∨ w.heap.size ≤ k_) ∧ k_ ≠ gb255 ∧ k_ ≠ gb256 ∧ k_ ≠ gb258)) (by (with_reducible repeat (first | apply Kd.V_alloc | apply Kd.V_drewN | apply Kd.V_drew)); exact Kd.V_mono HO_259003.out (fun _ hk => ⟨⟨hk.1, ⟨hk.2.2.1, ⟨hk.2.2.2.1, hk.2.2.2.2⟩⟩⟩, hk.2.1⟩)) hg hat); have n2_ := Aside0.mk (blk_grown (g := gb255) (o := .cells #[.string a0_0, .int .i64 a0_1, .int .i64 a0_2, .int .i64 a0_3, .int .i64 a0_4, .slice A0_5 l0_5.length c0_5, .slice A0_6 l0_6.length c0_6] 27 (0, 0)) (bk BK255) hg (Kd.R_ne HO_259004.out BK255.out (by decide))); have n3_ := Aside0.mk (blk_grown (g := gb256) (o := .cells #[.string x257000_1, .int .i64 x257001_1, .int .i64 x257002_1, .slice none 0 0, .slice none 0 0] 39 (0, 0)) (bk BK256) hg (Kd.R_ne HO_259004.out BK256.out (by decide))); have n4_ := Aside0.mk (blk_grown (g := gb258) (o := .cells #[.string a0_0, .int .i64 a0_1, .int .i64 a0_2, .slice A0_6 l0_6.length c0_6, u259004] 39 (0, 0)) (bk BK258) hg (Kd.R_ne HO_259004.out BK258.out (by decide))); have n5_ := Aside0.mk (hb); have n6_ := Aside0.mk (ho); clear HO_256006; clear HO_259003; clear BK255; clear BK256; clear BK258; clear HB; clear HO_259004; have HO_256006 := n0_; have HO_259003 := n1_; have BK255 := n2_; have BK256 := n3_; have BK258 := n4_; have HB := n5_; have HO263 := n6_; clear n0_ n1_ n2_ n3_ n4_ n5_ n6_; clear ho hb hg hat; obtain ⟨Ao30, co30, eo30⟩ := Kd.R_slice HO263.out; subst eo30; obtain ⟨hcz31_0, hcz31_1, hcz31_2, hcz31_3, hcz31_4, hfz31_0, hfz31_1, hfz31_2, hfz31_3, hfz31_4⟩ := bc5 BK258))
        go_roundg k1
        case measure => have := HK1.out; omega
        case rel => exact ⟨(wrap64 (x6_1 + 1)), (x257000_1), (x257001_1), (x257002_1), (y261), (.slice Ao30 y261.length co30), rs, H', ⟨by have := HK1.out; omega⟩, ⟨by (with_reducible repeat (first | apply Kd.V_alloc | apply Kd.V_drewN | apply Kd.V_drew)); exact Kd.V_mono (Kd.V_far (p := ⟨gb258, 4, none⟩) (Kd.V_mono HO_256006.out (fun k_ hk => (⟨hk, hk.1.2.2.2⟩ : _ ∧ k_ ≠ gb258))) (fun _ hk => hk.2) (.slice Ao30 y261.length co30)) (fun _ hk => ⟨hk.1.1.1, ⟨hk.1.2, ⟨hk.1.1.2.1, ⟨hk.1.1.2.2.1, hk.1.1.2.2.2⟩⟩⟩⟩)⟩, ⟨by (with_reducible repeat (first | apply Kd.V_alloc | apply Kd.V_drewN | apply Kd.V_drew)); exact Kd.V_mono (Kd.V_far (p := ⟨gb258, 4, none⟩) (Kd.V_mono HO_259003.out (fun k_ hk => (⟨hk, hk.1.2.2.2⟩ : _ ∧ k_ ≠ gb258))) (fun _ hk => hk.2) (.slice Ao30 y261.length co30)) (fun _ hk => ⟨hk.1.1.1, ⟨hk.1.2, ⟨hk.1.1.2.1, ⟨hk.1.1.2.2.1, hk.1.1.2.2.2⟩⟩⟩⟩)⟩, ⟨by (with_reducible repeat (first | apply Kd.R_alloc | apply Kd.R_drewN | apply Kd.R_drew)); exact Kd.R_mono (Kd.R_far (p := ⟨gb258, 4, none⟩) (Kd.R_types HO263.out BK258.out (by decide)) (fun _ hk => hk.2) (.slice Ao30 y261.length co30)) (fun _ hk => hk.1)⟩, ⟨bk BK255⟩, ⟨bk BK256⟩, ⟨bk BK258⟩, ⟨be⟩⟩
       ·rw [if_neg c22] at H
        exact absurd H (by simp)
     ·rw [if_neg c16] at H
      have c16b0 : (t260 == 0) = false := beq_eq_false_iff_ne.mpr c16
      have c16b1 : (t260 != 0) = true := bne_iff_ne.mpr c16
      simp only [Option.some.injEq, Prod.mk.injEq] at H
      obtain ⟨rfl, rfl, rfl, rfl, rfl, rfl⟩ := H
      have hnb32 := NB255_256.out
      have hnc32 := NB256_255.out
      have hnb33 := NB255_258.out
      have hnc33 := NB258_255.out
      obtain ⟨hcz34_0, hcz34_1, hcz34_2, hcz34_3, hcz34_4, hcz34_5, hcz34_6, hfz34_0, hfz34_1, hfz34_2, hfz34_3, hfz34_4, hfz34_5, hfz34_6⟩ := bc7 BK255
      go_wp2_with (first | ((with_reducible refine gate_callee (f := 13) rfl ?_); refine goesL_ (some 34) rfl rfl Tryd.func13 kx rfl #[.agg #[.int .i64 a0_3, .int .i64 a0_4, .slice A0_5 l0_5.length c0_5], .int .i64 x6_1] rfl aa ?_; (with_reducible refine (ephemerisref1_Eval.calls k1 a0_3 a0_4 _ _ l0_5 x6_1 t259 t260 _ ?side1 ?side2 A15.out).mono ?_); (case side1 => exact kc (Kd.C_below HR0_5.out HB.out)); (case side2 => exact HC0_5.out); rintro e w35 ⟨rfl, hb⟩; refine ⟨_, rfl, ?_⟩; have n0_ := Aside0.mk (Kd.V_below (by (with_reducible repeat (first | apply Kd.V_alloc | apply Kd.V_drewN | apply Kd.V_drew)); exact HO_256006.out) hb); have n1_ := Aside0.mk (Kd.V_below (by (with_reducible repeat (first | apply Kd.V_alloc | apply Kd.V_drewN | apply Kd.V_drew)); exact HO_259003.out) hb); have n2_ := Aside0.mk (Kd.R_below (by (with_reducible repeat (first | apply Kd.R_alloc | apply Kd.R_drewN | apply Kd.R_drew)); exact HO_259004.out) hb); have n3_ := bb BK255 hb; have n4_ := bb BK256 hb; have n5_ := bb BK258 hb; have n6_ := Aside0.mk (below_step be hb); clear HO_256006; clear HO_259003; clear HO_259004; clear BK255; clear BK256; clear BK258; clear HB; have HO_256006 := n0_; have HO_259003 := n1_; have HO_259004 := n2_; have BK255 := n3_; have BK256 := n4_; have BK258 := n5_; have HB := n6_; clear n0_ n1_ n2_ n3_ n4_ n5_ n6_; (try clear hb); (try clear hb2); (try clear hk); (try clear hi); have hnb36 := NB256_258.out; have hnc36 := NB258_256.out; obtain ⟨hcz37_0, hcz37_1, hcz37_2, hcz37_3, hcz37_4, hfz37_0, hfz37_1, hfz37_2, hfz37_3, hfz37_4⟩ := bc5 BK256))
      refine bodyPost_ret (results_ct rfl _ _ gb256 39 #[.string (⟨#[]⟩ : ByteArray), .int .i64 0, .int .i64 0, .slice none 0 0, .slice none 0 0] (0, 0) _ rfl (bk BK256) Tryd.underlying39 rfl kx) rfl ?_
      exact ⟨_, _, by first | rfl | (simp [errW_none, errW_some] <;> rfl) | (simp [*, errW_none, errW_some] <;> rfl), Kd.V_nil _ _ _ _ _, by first | exact Kd.R_nil _ _ _ _ _ | exact Kd.N_nil _ _ _ _ _ | exact Kd.V_nil _ _ _ _ _ | exact Kd.Q_nil _ _ _ _ _ | exact Kd.S_nil _ _ _ _ _, be⟩
    ·rw [if_neg c14] at H
     have c14b0 : decide (x6_1 ≤ a0_2) = false := decide_eq_false c14
     clear c14
     simp only [Option.some.injEq, Prod.mk.injEq] at H
     obtain ⟨rfl, rfl, rfl, rfl, rfl, rfl⟩ := H
     have hnb38 := NB255_256.out
     have hnc38 := NB256_255.out
     have hnb39 := NB255_258.out
     have hnc39 := NB258_255.out
     obtain ⟨hcz40_0, hcz40_1, hcz40_2, hcz40_3, hcz40_4, hcz40_5, hcz40_6, hfz40_0, hfz40_1, hfz40_2, hfz40_3, hfz40_4, hfz40_5, hfz40_6⟩ := bc7 BK255
     have hnb41 := NB258_256.out
     have hnc41 := NB256_258.out
     obtain ⟨hcz42_0, hcz42_1, hcz42_2, hcz42_3, hcz42_4, hfz42_0, hfz42_1, hfz42_2, hfz42_3, hfz42_4⟩ := bc5 BK258
     obtain ⟨hcz43_0, hcz43_1, hcz43_2, hcz43_3, hcz43_4, hfz43_0, hfz43_1, hfz43_2, hfz43_3, hfz43_4⟩ := bc5 BK256
     obtain ⟨Ao44, co44, eo44⟩ := Kd.R_slice HO_259004.out
     subst eo44
     go_wp2
     refine bodyPost_ret (results_ct rfl _ _ gb256 39 #[.string a0_0, .int .i64 a0_1, .int .i64 a0_2, .slice A0_6 l0_6.length c0_6, .slice Ao44 x259004_1.length co44] (0, 0) _ rfl (bk BK256) Tryd.underlying39 rfl kx) rfl ?_
     exact ⟨_, _, by first | rfl | (simp [errW_none, errW_some] <;> rfl) | (simp [*, errW_none, errW_some] <;> rfl), by (with_reducible repeat (first | apply Kd.V_alloc | apply Kd.V_drewN | apply Kd.V_drew)); exact Kd.V_mono (Kd.V_far (p := ⟨gb256, 4, none⟩) (Kd.V_far (p := ⟨gb256, 3, none⟩) (Kd.V_far (p := ⟨gb256, 2, none⟩) (Kd.V_far (p := ⟨gb256, 1, none⟩) (Kd.V_far (p := ⟨gb256, 0, none⟩) (Kd.V_mono HO_259003.out (fun k_ hk => (⟨hk, hk.2.2.2.1⟩ : _ ∧ k_ ≠ gb256))) (fun _ hk => hk.2) (.string a0_0)) (fun _ hk => hk.2) (.int .i64 a0_1)) (fun _ hk => hk.2) (.int .i64 a0_2)) (fun _ hk => hk.2) (.slice A0_6 l0_6.length c0_6)) (fun _ hk => hk.2) (.slice Ao44 x259004_1.length co44)) (fun _ hk => ⟨hk.1.1, hk.1.2.1⟩), by (with_reducible repeat (first | apply Kd.R_alloc | apply Kd.R_drewN | apply Kd.R_drew)); exact Kd.R_mono (Kd.R_far (p := ⟨gb256, 4, none⟩) (Kd.R_far (p := ⟨gb256, 3, none⟩) (Kd.R_far (p := ⟨gb256, 2, none⟩) (Kd.R_far (p := ⟨gb256, 1, none⟩) (Kd.R_far (p := ⟨gb256, 0, none⟩) (Kd.R_types HO_259004.out BK256.out (by decide)) (fun _ hk => hk.2) (.string a0_0)) (fun _ hk => hk.2) (.int .i64 a0_1)) (fun _ hk => hk.2) (.int .i64 a0_2)) (fun _ hk => hk.2) (.slice A0_6 l0_6.length c0_6)) (fun _ hk => hk.2) (.slice Ao44 x259004_1.length co44)) (fun _ hk => hk.1), be⟩
 ·rw [if_neg c3] at H
  have c3b0 : (t257 == 0) = false := beq_eq_false_iff_ne.mpr c3
  have c3b1 : (t257 != 0) = true := bne_iff_ne.mpr c3
  simp only [Option.some.injEq, Prod.mk.injEq] at H
  obtain ⟨rfl, rfl, rfl, rfl, rfl, rfl⟩ := H
  go_enter Tryd.func16, Tryd.ntmps16
  go_wp2_with (first | ((with_reducible refine gate_dst (N := 1) rfl ?_); refine box_event ?hg (N := 1) ?hd (cs := #[.string a0_0, .int .i64 a0_1, .int .i64 a0_2, .int .i64 a0_3, .int .i64 a0_4, .slice A0_5 l0_5.length c0_5, .slice A0_6 l0_6.length c0_6]) (t := 27) ?hr ?_; (case hd => rfl); (case hg => rfl); (case hr => first | (go_simp; done) | (go_simp; rfl)); intro gb255 hg w45 hbox hb; have n0_ := Aside0.mk (Kd.V_below (Kd.V_elderB (by (with_reducible repeat (first | apply Kd.V_alloc | apply Kd.V_drewN | apply Kd.V_drew)); exact HO0_6.out) gb255 (Nat.le_of_eq hg.symm)) hb); have n1_ := Aside0.mk (below_step be hb); have n2_ := Aside0.mk (hbox); have n3_ := gs hg HB; have n4_ := n3_; clear HO0_6; clear HB; have HO0_6 := n0_; have HB := n1_; have BK255 := n2_; have GW255 := n3_; have GE255 := n4_; clear n0_ n1_ n2_ n3_ n4_; clear hb hbox hg) | ((with_reducible refine gate_dst (N := 2) rfl ?_); refine box_event ?hg (N := 2) ?hd (cs := #[.string (⟨#[]⟩ : ByteArray), .int .i64 0, .int .i64 0, .slice none 0 0, .slice none 0 0]) (t := 39) ?hr ?_; (case hd => rfl); (case hg => rfl); (case hr => first | (go_simp; done) | (go_simp; rfl)); intro gb256 hg w46 hbox hb; have n0_ := Aside0.mk (Kd.V_below (Kd.V_elderB (by (with_reducible repeat (first | apply Kd.V_alloc | apply Kd.V_drewN | apply Kd.V_drew)); exact HO0_6.out) gb256 (Nat.le_of_eq hg.symm)) hb); have n1_ := bb BK255 hb; have n2_ := Aside0.mk (below_step be hb); have n3_ := Aside0.mk (hbox); have n4_ := gs hg HB; have n5_ := n4_; have n6_ := nl BK255 hg; have n7_ := ns n6_; clear HO0_6; clear BK255; clear HB; have HO0_6 := n0_; have BK255 := n1_; have HB := n2_; have BK256 := n3_; have GW256 := n4_; have GE256 := n5_; have NB255_256 := n6_; have NB256_255 := n7_; clear n0_ n1_ n2_ n3_ n4_ n5_ n6_ n7_; clear hb hbox hg; have hnb47 := NB255_256.out; have hnc47 := NB256_255.out; obtain ⟨hcz48_0, hcz48_1, hcz48_2, hcz48_3, hcz48_4, hcz48_5, hcz48_6, hfz48_0, hfz48_1, hfz48_2, hfz48_3, hfz48_4, hfz48_5, hfz48_6⟩ := bc7 BK255) | ((with_reducible refine gate_callee (f := 9) rfl ?_); refine goesL_ (some 10) rfl rfl Tryd.func9 kx rfl #[.agg #[.string a0_0, .int .i64 a0_1, .int .i64 a0_2, .int .i64 a0_3, .int .i64 a0_4, .slice A0_5 l0_5.length c0_5, .slice A0_6 l0_6.length c0_6]] rfl aa ?_; (with_reducible refine (ephemerisref1_RuleError.calls k a0_0 a0_1 a0_2 a0_3 a0_4 _ _ l0_5 _ _ l0_6 t257 _ ?side1 ?side2 ?side3 ?side4 A2.out).mono ?_); (case side1 => exact kc (Kd.C_below HR0_5.out HB.out)); (case side2 => exact HC0_5.out); (case side3 => repeat (first | exact (Kd.V_reads' HO0_6.out).2.2 | (with_reducible refine Kd.C_alloc ?_ _) | (with_reducible refine Kd.C_drewN ?_ _) | (with_reducible refine Kd.C_drew ?_))); (case side4 => exact (Kd.V_reads' HO0_6.out).2.1); rintro e w49 ⟨rfl, hb⟩; refine ⟨_, rfl, ?_⟩; have n0_ := Aside0.mk (Kd.V_below (by (with_reducible repeat (first | apply Kd.V_alloc | apply Kd.V_drewN | apply Kd.V_drew)); exact HO0_6.out) hb); have n1_ := bb BK255 hb; have n2_ := bb BK256 hb; have n3_ := Aside0.mk (below_step be hb); clear HO0_6; clear BK255; clear BK256; clear HB; have HO0_6 := n0_; have BK255 := n1_; have BK256 := n2_; have HB := n3_; clear n0_ n1_ n2_ n3_; (try clear hb); (try clear hb2); (try clear hk); (try clear hi); obtain ⟨hcz50_0, hcz50_1, hcz50_2, hcz50_3, hcz50_4, hfz50_0, hfz50_1, hfz50_2, hfz50_3, hfz50_4⟩ := bc5 BK256))
  refine bodyPost_ret (results_ct rfl _ _ gb256 39 #[.string (⟨#[]⟩ : ByteArray), .int .i64 0, .int .i64 0, .slice none 0 0, .slice none 0 0] (0, 0) _ rfl (bk BK256) Tryd.underlying39 rfl kx) rfl ?_
  exact ⟨_, _, by first | rfl | (simp [errW_none, errW_some] <;> rfl) | (simp [*, errW_none, errW_some] <;> rfl), Kd.V_nil _ _ _ _ _, by first | exact Kd.R_nil _ _ _ _ _ | exact Kd.N_nil _ _ _ _ _ | exact Kd.V_nil _ _ _ _ _ | exact Kd.Q_nil _ _ _ _ _ | exact Kd.S_nil _ _ _ _ _, be⟩

end Go.Proofs.YtgcmclnjnimolaaDoor.PCompileCompiles
