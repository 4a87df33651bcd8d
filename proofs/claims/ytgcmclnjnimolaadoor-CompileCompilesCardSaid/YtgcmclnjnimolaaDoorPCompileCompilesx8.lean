/- The walks of the functions of this part. The proof of ephemerisref1_ExprError (in part) is written by hand; the other ones are as the kit's print tells them. -/
-- The walks of the law's functions, told by a program.
import Derived.Test.YtgcmclnjnimolaaDoorY
import Derived.Test.YtgcmclnjnimolaaDoorPCompileCompilesx0
import Derived.Test.YtgcmclnjnimolaaDoorPCompileCompilesx7
namespace Go.Proofs.YtgcmclnjnimolaaDoor.PCompileCompiles
open Go.RowKit Go.Proofs.YtgcmclnjnimolaaDoorW.PrintWords Go.Proofs.YtgcmclnjnimolaaDoorW.PrintLast Go.Proofs.YtgcmclnjnimolaaDoorW.PrintMore Go.Proofs.YtgcmclnjnimolaaDoor.Y
attribute [local go_sem] max2_int min2_int max_two min_two max_three min_three max_four min_four   -- for this text's walks alone
set_option linter.unusedVariables false
set_option linter.unusedSimpArgs false

/-! ### ephemerisref1_ExprError: function 11 -/
/-- A list that came in by w0, told by a slice of one cell. -/
def Kd.lent {α : Type} (w0 : World) (d : Kd α) : Kd (List α) where
 sz := 1
 E := []
 K := fun _ xs cs => ∃ A c, cs = [.slice A xs.length c] ∧ xs.length ≤ c ∧ d.C w0 A xs.length xs
 M := fun _ _ _ xs cs => ∃ A c, cs = [.slice A xs.length c] ∧ xs.length ≤ c ∧ d.C w0 A xs.length xs
 K_len := fun h => by obtain ⟨A, c, rfl, _, _⟩ := h; rfl
 K_one := fun h u hu => by obtain ⟨A, c, rfl, _, _⟩ := h; rw [List.mem_singleton.1 hu]; rfl
 K_below := fun _ h => h
 K_of_M := fun h => h
 M_mono := fun _ h => h
 M_bound := fun h => h
 M_move := fun _ h => h
 M_lower := fun _ h => h
theorem info122 : (Tryd.prog.info? 63).map (fun i => (i.zero, i.size, i.bytes)) = some (some (.agg #[(.int .i64 0), (.int .i64 0), (.slice none 0 0), (.int .i64 0)]), 4, 48) := by kernel_rfl
structure S122 where
 f0 : S24
 f1 : Int
def z122 : S122 := ⟨z24, (0 : Int)⟩
def k121 (w0 : World) : Kd S24 := Kd.iso (Kd.pair (Kd.int .i64) (Kd.pair (Kd.int .i64) (Kd.lent w0 k24))) (fun x : S24 => (x.f0, x.f1, x.f2))
def k122 (w0 : World) : Kd S122 := Kd.iso (Kd.pair (k121 w0) (Kd.int .i64)) (fun x : S122 => (x.f0, x.f1))
theorem k122_open {w0 w : World} {x : S122} {cs : List Value} (h : (k122 w0).K w x cs) : ∃ A2 c2, cs = [.int .i64 x.f0.f0, .int .i64 x.f0.f1, .slice A2 x.f0.f2.length c2, .int .i64 x.f1] ∧ x.f0.f2.length ≤ c2 ∧ k24.C w0 A2 x.f0.f2.length x.f0.f2 := by
 obtain ⟨_, _, rfl, ⟨_, _, rfl, rfl, ⟨_, _, rfl, rfl, ⟨A2, c2, rfl, h1, h2⟩⟩⟩, rfl⟩ := h
 exact ⟨A2, c2, rfl, h1, h2⟩
theorem k122_mkM (w0 w : World) (base : Nat) (ok : Nat → Prop) (x : S122) {A2 : Option Addr} {c2 : Nat} (h1 : x.f0.f2.length ≤ c2) (h2 : k24.C w0 A2 x.f0.f2.length x.f0.f2) : (k122 w0).M w base ok x [.int .i64 x.f0.f0, .int .i64 x.f0.f1, .slice A2 x.f0.f2.length c2, .int .i64 x.f1] :=
 ⟨[.int .i64 x.f0.f0, .int .i64 x.f0.f1, .slice A2 x.f0.f2.length c2], [.int .i64 x.f1], rfl, ⟨[.int .i64 x.f0.f0], [.int .i64 x.f0.f1, .slice A2 x.f0.f2.length c2], rfl, rfl, ⟨[.int .i64 x.f0.f1], [.slice A2 x.f0.f2.length c2], rfl, rfl, ⟨A2, c2, rfl, h1, h2⟩⟩⟩, rfl⟩
def rd_T122 (xs : List S122) (i : Int) : S122 := xs.getD i.toNat z122
theorem at_T122 {w0 w : World} {A : Option Addr} {n : Nat} {xs : List S122} (h : Kd.C (k122 w0) w A n xs) (i : Int) (h0 : 0 ≤ i) (h1 : i < n) : ∃ ad A2 c2, A = some ad ∧ w.cell? (ad.add (i.toNat * 4)) = some (.int .i64 (rd_T122 xs i).f0.f0) ∧ w.cell? ⟨(ad.add (i.toNat * 4)).block, (ad.add (i.toNat * 4)).off + 1, none⟩ = some (.int .i64 (rd_T122 xs i).f0.f1) ∧ w.cell? ⟨(ad.add (i.toNat * 4)).block, (ad.add (i.toNat * 4)).off + 2, none⟩ = some (.slice A2 ((rd_T122 xs i).f0.f2).length c2) ∧ w.cell? ⟨(ad.add (i.toNat * 4)).block, (ad.add (i.toNat * 4)).off + 3, none⟩ = some (.int .i64 (rd_T122 xs i).f1) ∧ ((rd_T122 xs i).f0.f2).length ≤ c2 ∧ k24.C w0 A2 ((rd_T122 xs i).f0.f2).length (rd_T122 xs i).f0.f2 := by
 obtain ⟨ad, c, e, _, hK, hc0⟩ := Kd.C_get h z122 i h0 h1
 have hc : ∀ j u, c[j]? = some u → w.cell? (ad.add (i.toNat * 4 + j)) = some u := hc0
 obtain ⟨A2, c2, rfl, g1, g2⟩ := k122_open hK
 exact ⟨ad, A2, c2, e, hc 0 _ rfl, by rw [← add_field _ _ 1 (by omega)]; exact hc 1 _ rfl, by rw [← add_field _ _ 2 (by omega)]; exact hc 2 _ rfl, by rw [← add_field _ _ 3 (by omega)]; exact hc 3 _ rfl, g1, g2⟩
mutual
def ephemerisref1_ExprError.l0 : Nat → List (S122) → Int → Int → Int → List (S24) → Option (Int)
 | 0, _, _, _, _, _ => none
 | k + 1, x3, x4, x192000, x192001, x192002 => if (x3.length : Int) > 0 then (if 0 ≤ (wrap64 ((x3.length : Int) - 1)) then (if (wrap64 ((x3.length : Int) - 1)) < (x3.length : Int) then (if (wrap64 ((x3.length : Int) - 1)) ≤ (x3.length : Int) then ((some (x3.take ((wrap64 ((x3.length : Int) - 1)) : Int).toNat : List (S122))).bind fun y197 => (if x4 > 60 then (ephemerisref1_ExprError.j1 k y197 x4 true x192000 x192001 x192002 ((rd_T122 x3 (wrap64 ((x3.length : Int) - 1))).f0.f0) ((rd_T122 x3 (wrap64 ((x3.length : Int) - 1))).f0.f1) ((rd_T122 x3 (wrap64 ((x3.length : Int) - 1))).f0.f2) ((rd_T122 x3 (wrap64 ((x3.length : Int) - 1))).f1)) else (ephemerisref1_ExprError.j1 k y197 x4 (decide (((rd_T122 x3 (wrap64 ((x3.length : Int) - 1))).f1) > 12)) x192000 x192001 x192002 ((rd_T122 x3 (wrap64 ((x3.length : Int) - 1))).f0.f0) ((rd_T122 x3 (wrap64 ((x3.length : Int) - 1))).f0.f1) ((rd_T122 x3 (wrap64 ((x3.length : Int) - 1))).f0.f2) ((rd_T122 x3 (wrap64 ((x3.length : Int) - 1))).f1)))) else (none)) else (none)) else (none)) else (some 0)
def ephemerisref1_ExprError.j1 : Nat → List (S122) → Int → Bool → Int → Int → List (S24) → Int → Int → List (S24) → Int → Option (Int)
 | 0, _, _, _, _, _, _, _, _, _, _ => none
 | k + 1, x3, x4, x32, x192000, x192001, x192002, x197000, x197001, x197002, x197003 => if x32 = true then (some 2) else ((ephemerisref1_operands.f k x197000).bind fun t200 => (if (x197002.length : Int) = t200 then (if x197000 = 1 then ((ephemerisref1_In.f x197001 0 2147483647).bind fun t201 => (if t201 = true then (ephemerisref1_ExprError.j2 k x3 x4 x192000 x192001 x192002 x197000 x197001 x197002 x197003) else (some 8))) else (if x197001 = 0 then (ephemerisref1_ExprError.j2 k x3 x4 x192000 x192001 x192002 x197000 x197001 x197002 x197003) else (some 8))) else (some 8)))
def ephemerisref1_ExprError.j2 : Nat → List (S122) → Int → Int → Int → List (S24) → Int → Int → List (S24) → Int → Option (Int)
 | 0, _, _, _, _, _, _, _, _, _ => none
 | k + 1, x3, x4, x192000, x192001, x192002, x197000, x197001, x197002, x197003 => ephemerisref1_ExprError.l1 k x3 x4 (wrap64 ((x197002.length : Int) - 1)) x192000 x192001 x192002 x197000 x197001 x197002 x197003
def ephemerisref1_ExprError.l1 : Nat → List (S122) → Int → Int → Int → Int → List (S24) → Int → Int → List (S24) → Int → Option (Int)
 | 0, _, _, _, _, _, _, _, _, _, _ => none
 | k + 1, x3, x4, x6, x192000, x192001, x192002, x197000, x197001, x197002, x197003 => if x6 ≥ 0 then (if 0 ≤ x6 then (if x6 < (x197002.length : Int) then (if x3.length < 2932031007402 then (ephemerisref1_ExprError.l1 k (x3 ++ [(⟨(rd_T24 x197002 x6), wrap64 (x197003 + 1)⟩ : S122)]) x4 (wrap64 (x6 - 1)) x192000 x192001 x192002 x197000 x197001 x197002 x197003) else (none)) else (none)) else (none)) else (ephemerisref1_ExprError.l0 k x3 (wrap64 (x4 + 1)) x192000 x192001 x192002)
end
def ephemerisref1_ExprError.f (k : Nat) (a0_0 : Int) (a0_1 : Int) (l0_2 : List (S24)) : Option (Int) := ephemerisref1_ExprError.l0 k (([(⟨(⟨a0_0, a0_1, l0_2⟩ : S24), 1⟩ : S122)] : List (S122))) 1 a0_0 a0_1 l0_2
theorem ephemerisref1_ExprError.mono_l : ∀ k, (∀ y0 y1 y2 y3 y4, LeO (ephemerisref1_ExprError.l0 k y0 y1 y2 y3 y4) (ephemerisref1_ExprError.l0 (k + 1) y0 y1 y2 y3 y4)) ∧ (∀ y0 y1 y2 y3 y4 y5 y6 y7 y8 y9, LeO (ephemerisref1_ExprError.j1 k y0 y1 y2 y3 y4 y5 y6 y7 y8 y9) (ephemerisref1_ExprError.j1 (k + 1) y0 y1 y2 y3 y4 y5 y6 y7 y8 y9)) ∧ (∀ y0 y1 y2 y3 y4 y5 y6 y7 y8, LeO (ephemerisref1_ExprError.j2 k y0 y1 y2 y3 y4 y5 y6 y7 y8) (ephemerisref1_ExprError.j2 (k + 1) y0 y1 y2 y3 y4 y5 y6 y7 y8)) ∧ (∀ y0 y1 y2 y3 y4 y5 y6 y7 y8 y9, LeO (ephemerisref1_ExprError.l1 k y0 y1 y2 y3 y4 y5 y6 y7 y8 y9) (ephemerisref1_ExprError.l1 (k + 1) y0 y1 y2 y3 y4 y5 y6 y7 y8 y9))
 | 0 => ⟨fun _ _ _ _ _ r h => by simp [ephemerisref1_ExprError.l0] at h, fun _ _ _ _ _ _ _ _ _ _ r h => by simp [ephemerisref1_ExprError.j1] at h, fun _ _ _ _ _ _ _ _ _ r h => by simp [ephemerisref1_ExprError.j2] at h, fun _ _ _ _ _ _ _ _ _ _ r h => by simp [ephemerisref1_ExprError.l1] at h⟩
 | k + 1 => by
  obtain ⟨ih0, ih1, ih2, ih3⟩ := ephemerisref1_ExprError.mono_l k
  refine ⟨?_, ?_, ?_, ?_⟩
  ·intro y0 y1 y2 y3 y4
   unfold ephemerisref1_ExprError.l0
   repeat' first
   | (with_reducible exact ih0 _ _ _ _ _)
   | (with_reducible exact ih1 _ _ _ _ _ _ _ _ _ _)
   | (with_reducible exact ih2 _ _ _ _ _ _ _ _ _)
   | (with_reducible exact ih3 _ _ _ _ _ _ _ _ _ _)
   | (with_reducible exact ephemerisref1_operands.mono _ _)
   | (with_reducible exact LeO.refl _)
   | (with_reducible exact LeO.none _)
   | (with_reducible refine LeO.ite ?_ ?_)
   | (with_reducible refine LeO.bind ?_ (fun _ => ?_))
   | exact ih0 _ _ _ _ _
   | exact ih1 _ _ _ _ _ _ _ _ _ _
   | exact ih2 _ _ _ _ _ _ _ _ _
   | exact ih3 _ _ _ _ _ _ _ _ _ _
   | exact ephemerisref1_operands.mono _ _
   | exact LeO.none _
   | refine LeO.ite ?_ ?_
   | refine LeO.bind ?_ (fun _ => ?_)
  ·intro y0 y1 y2 y3 y4 y5 y6 y7 y8 y9
   unfold ephemerisref1_ExprError.j1
   repeat' first
   | (with_reducible exact ih0 _ _ _ _ _)
   | (with_reducible exact ih1 _ _ _ _ _ _ _ _ _ _)
   | (with_reducible exact ih2 _ _ _ _ _ _ _ _ _)
   | (with_reducible exact ih3 _ _ _ _ _ _ _ _ _ _)
   | (with_reducible exact ephemerisref1_operands.mono _ _)
   | (with_reducible exact LeO.refl _)
   | (with_reducible exact LeO.none _)
   | (with_reducible refine LeO.ite ?_ ?_)
   | (with_reducible refine LeO.bind ?_ (fun _ => ?_))
   | exact ih0 _ _ _ _ _
   | exact ih1 _ _ _ _ _ _ _ _ _ _
   | exact ih2 _ _ _ _ _ _ _ _ _
   | exact ih3 _ _ _ _ _ _ _ _ _ _
   | exact ephemerisref1_operands.mono _ _
   | exact LeO.none _
   | refine LeO.ite ?_ ?_
   | refine LeO.bind ?_ (fun _ => ?_)
  ·intro y0 y1 y2 y3 y4 y5 y6 y7 y8
   unfold ephemerisref1_ExprError.j2
   repeat' first
   | (with_reducible exact ih0 _ _ _ _ _)
   | (with_reducible exact ih1 _ _ _ _ _ _ _ _ _ _)
   | (with_reducible exact ih2 _ _ _ _ _ _ _ _ _)
   | (with_reducible exact ih3 _ _ _ _ _ _ _ _ _ _)
   | (with_reducible exact ephemerisref1_operands.mono _ _)
   | (with_reducible exact LeO.refl _)
   | (with_reducible exact LeO.none _)
   | (with_reducible refine LeO.ite ?_ ?_)
   | (with_reducible refine LeO.bind ?_ (fun _ => ?_))
   | exact ih0 _ _ _ _ _
   | exact ih1 _ _ _ _ _ _ _ _ _ _
   | exact ih2 _ _ _ _ _ _ _ _ _
   | exact ih3 _ _ _ _ _ _ _ _ _ _
   | exact ephemerisref1_operands.mono _ _
   | exact LeO.none _
   | refine LeO.ite ?_ ?_
   | refine LeO.bind ?_ (fun _ => ?_)
  ·intro y0 y1 y2 y3 y4 y5 y6 y7 y8 y9
   unfold ephemerisref1_ExprError.l1
   repeat' first
   | (with_reducible exact ih0 _ _ _ _ _)
   | (with_reducible exact ih1 _ _ _ _ _ _ _ _ _ _)
   | (with_reducible exact ih2 _ _ _ _ _ _ _ _ _)
   | (with_reducible exact ih3 _ _ _ _ _ _ _ _ _ _)
   | (with_reducible exact ephemerisref1_operands.mono _ _)
   | (with_reducible exact LeO.refl _)
   | (with_reducible exact LeO.none _)
   | (with_reducible refine LeO.ite ?_ ?_)
   | (with_reducible refine LeO.bind ?_ (fun _ => ?_))
   | exact ih0 _ _ _ _ _
   | exact ih1 _ _ _ _ _ _ _ _ _ _
   | exact ih2 _ _ _ _ _ _ _ _ _
   | exact ih3 _ _ _ _ _ _ _ _ _ _
   | exact ephemerisref1_operands.mono _ _
   | exact LeO.none _
   | refine LeO.ite ?_ ?_
   | refine LeO.bind ?_ (fun _ => ?_)
theorem ephemerisref1_ExprError.mono : ∀ a0 a1 a2 k, LeO (ephemerisref1_ExprError.f k a0 a1 a2) (ephemerisref1_ExprError.f (k + 1) a0 a1 a2) := by
 intro a0 a1 a2 k
 obtain ⟨ih0, ih1, ih2, ih3⟩ := ephemerisref1_ExprError.mono_l k
 unfold ephemerisref1_ExprError.f
 repeat' first
   | (with_reducible exact ih0 _ _ _ _ _)
   | (with_reducible exact ih1 _ _ _ _ _ _ _ _ _ _)
   | (with_reducible exact ih2 _ _ _ _ _ _ _ _ _)
   | (with_reducible exact ih3 _ _ _ _ _ _ _ _ _ _)
   | (with_reducible exact ephemerisref1_operands.mono _ _)
   | (with_reducible exact LeO.refl _)
   | (with_reducible exact LeO.none _)
   | (with_reducible refine LeO.ite ?_ ?_)
   | (with_reducible refine LeO.bind ?_ (fun _ => ?_))
   | exact ih0 _ _ _ _ _
   | exact ih1 _ _ _ _ _ _ _ _ _ _
   | exact ih2 _ _ _ _ _ _ _ _ _
   | exact ih3 _ _ _ _ _ _ _ _ _ _
   | exact ephemerisref1_operands.mono _ _
   | exact LeO.none _
   | refine LeO.ite ?_ ?_
   | refine LeO.bind ?_ (fun _ => ?_)
def ephemerisref1_ExprError.T9 : Bool × List (List Nat × List Nat) := (true, [([], []), ([0], [0]), ([1], [1]), ([2], [2]), ([], []), ([4], [4]), ([5], [5]), ([6], [6]), ([3, 7], [3, 7])])
def ephemerisref1_ExprError.B9 : List Nat := [0, 1, 3, 7, 0, 16, 48, 112, 255]
theorem ephemerisref1_ExprError.tab9 : rtab .any (opsOf Tryd.f11 9) = ephemerisref1_ExprError.T9 := by kernel_rfl
theorem ephemerisref1_ExprError.bits9 : waitsOk ephemerisref1_ExprError.T9.2 ephemerisref1_ExprError.B9 = true := by kernel_rfl
def ephemerisref1_ExprError.T19 : Bool × List (List Nat × List Nat) := (true, [([], []), ([], []), ([1], [1]), ([2], [2]), ([], []), ([3, 4], [3, 4]), ([5], [5]), ([], []), ([7], [7]), ([8], [8]), ([6, 9], [6, 9]), ([10], [10]), ([0, 11], [0, 11]), ([12, 12, 0, 1, 2, 3, 4, 5, 6, 7, 8, 9, 10, 11, 12], [0, 12])])
def ephemerisref1_ExprError.B19 : List Nat := [0, 0, 2, 6, 0, 30, 62, 0, 128, 384, 1022, 2046, 4095, 8191]
theorem ephemerisref1_ExprError.tab19 : rtab .any (opsOf Tryd.f11 19) = ephemerisref1_ExprError.T19 := by kernel_rfl
theorem ephemerisref1_ExprError.bits19 : waitsOk ephemerisref1_ExprError.T19.2 ephemerisref1_ExprError.B19 = true := by kernel_rfl
set_option maxHeartbeats 8000000 in
set_option maxRecDepth 100000 in
theorem ephemerisref1_ExprError.calls (k : Nat) (a0_0 : Int) (a0_1 : Int) (A0_2 : Option Addr) (c0_2 : Nat) (l0_2 : List (S24)) (r : Int) (w : World) (hr0_2 : Kd.C k24 w A0_2 l0_2.length l0_2) (hc0_2 : l0_2.length ≤ c0_2) (h : ephemerisref1_ExprError.f k a0_0 a0_1 l0_2 = some r) :
  Calls Tryd.prog 11 #[.agg #[.int .i64 a0_0, .int .i64 a0_1, .slice A0_2 l0_2.length c0_2]] w fun e w' => e = .returned (.int .i64 r) ∧ Below w.heap.size w w' := by
 have hu24 := Tryd.underlying24
 have hu121 := Tryd.underlying24
 have hu122 := Tryd.underlying63
 have HR0_2 := Aside0.mk hr0_2
 have HC0_2 := Aside0.mk hc0_2
 clear hr0_2 hc0_2
 have HB := Aside0.mk (Below.refl w.heap.size w)
 have H : (ephemerisref1_ExprError.l0 k (([(⟨(⟨a0_0, a0_1, l0_2⟩ : S24), 1⟩ : S122)] : List (S122))) 1 a0_0 a0_1 l0_2) = some r := h
 clear h
 obtain ⟨y192, hy192⟩ : ∃ y_ : List (S122), y_ = (([(⟨(⟨a0_0, a0_1, l0_2⟩ : S24), 1⟩ : S122)] : List (S122))) := ⟨_, rfl⟩
 replace H : (ephemerisref1_ExprError.l0 k y192 1 a0_0 a0_1 l0_2) = some r := rp hy192 H
 have Ny192 := Aside0.mk hy192
 clear hy192
 have H' := Aside0.mk H
 clear H
 go_enter Tryd.func11, Tryd.ntmps11
 go_wp2_with (first | ((with_reducible refine gate_dst (N := 1) rfl ?_); refine box_event ?hg (N := 1) ?hd (cs := #[.int .i64 a0_0, .int .i64 a0_1, .slice A0_2 l0_2.length c0_2]) (t := 24) ?hr ?_; (case hd => rfl); (case hg => rfl); (case hr => first | (go_simp; done) | (go_simp; rfl)); intro gb191 hg w2 hbox hb; have n0_ := Aside0.mk (below_step be hb); have n1_ := Aside0.mk (hbox); have n2_ := gs hg HB; have n3_ := n2_; clear HB; have HB := n0_; have BK191 := n1_; have GW191 := n2_; have GE191 := n3_; clear n0_ n1_ n2_ n3_; clear hb hbox hg; obtain ⟨hcz3_0, hcz3_1, hcz3_2, hfz3_0, hfz3_1, hfz3_2⟩ := bc3 BK191) | ((with_reducible refine gate_dst (N := 9) rfl ?_); refine Kd.R_lit (k122 w) _ 63 ?hg (N := 9) ?hd (xs := ([(⟨(⟨a0_0, a0_1, l0_2⟩ : S24), 1⟩ : S122)] : List (S122))) (inner := [.int .i64 a0_0, .int .i64 a0_1, .slice A0_2 l0_2.length c0_2, .int .i64 1]) (ok := fun _ => True) (okp := fun _ => True) ?hr ?hp (fun _ hk => hk) trivial (Below.refl _ _) (Nat.le_refl _) (by simp) ?_; (case hd => rfl); (case hg => rfl); (case hr => first | (go_simp; done) | (go_simp; rfl)); (case hp => exact (Reps.c4 (show Kd.M (k122 w) _ _ _ (⟨(⟨a0_0, a0_1, l0_2⟩ : S24), 1⟩ : S122) [.int .i64 a0_0, .int .i64 a0_1, .slice A0_2 l0_2.length c0_2, .int .i64 1] from (k122_mkM w _ _ _ (⟨(⟨a0_0, a0_1, l0_2⟩ : S24), 1⟩ : S122) HC0_2.out HR0_2.out)) (Reps.none _ _))); intro v193 w4 ho5 hb hg_ hnew_; clear hg_ hnew_; (first | rw [← Ny192.out] at ho5 | (simp only [Int.reduceToNat] at ho5; rw [← Ny192.out] at ho5)); have n0_ := Aside0.mk (Kd.R_lower ho5 (below_size be)); have n1_ := bb BK191 hb; have n2_ := Aside0.mk (below_step be hb); clear BK191; clear HB; have HO194 := n0_; have BK191 := n1_; have HB := n2_; clear n0_ n1_ n2_; clear hb ho5))
 go_loopg [3, 4] k (fun kq v3 v4 w' => ∃ (x3_1 : List (S122)) (x4_1 : Int), v4 = .int .i64 x4_1 ∧ Aside0 (ephemerisref1_ExprError.l0 kq x3_1 x4_1 a0_0 a0_1 l0_2 = some r) ∧ Aside0 (kq ≤ k) ∧ Aside0 (Kd.R (k122 w) 63 w' w.heap.size (fun _ => True) v3 x3_1) ∧ Aside0 (w'.heap[gb191]? = some (.cells #[.int .i64 a0_0, .int .i64 a0_1, (.slice A0_2 l0_2.length c0_2)] 24 (0, 0))) ∧ Aside0 (Below w.heap.size w w'))
 case atStart => exact ⟨(y192), (1), rs, H', ⟨Nat.le_refl _⟩, ⟨by (with_reducible repeat (first | apply Kd.R_alloc | apply Kd.R_drewN | apply Kd.R_drew)); exact HO194.out⟩, ⟨bk BK191⟩, ⟨be⟩⟩
 case round =>
  clear H'
  (try clear c1); (try clear p2); (try clear c4); (try clear hcz3_0); (try clear hcz3_1); (try clear hcz3_2); (try clear hfz3_0); (try clear hfz3_1); (try clear hfz3_2)
  obtain ⟨x3_1, x4_1, rfl, HA, HK1, HO_3, BK191, HB⟩ := hrel
  cases gk with
  | zero => exact absurd HA.out (by simp [ephemerisref1_ExprError.l0])
  | succ k1 =>
   have H := HA.out
   clear HA
   simp only [ephemerisref1_ExprError.l0] at H
   by_cases c6 : (x3_1.length : Int) > 0
   ·rw [if_pos c6] at H
    have c6b0 : decide (0 < (x3_1.length : Int)) = true := decide_eq_true c6
    have c6b1 : decide (0 < x3_1.length) = true := decide_eq_true (by omega)
    clear c6
    obtain ⟨ji7, hji7⟩ : ∃ j_ : Int, (wrap64 ((x3_1.length : Int) - 1)) = j_ := ⟨_, rfl⟩
    replace H : (if 0 ≤ (ji7) then (if (ji7) < (x3_1.length : Int) then (if (ji7) ≤ (x3_1.length : Int) then ((some (x3_1.take ((ji7) : Int).toNat : List (S122))).bind fun y197 => (if x4_1 > 60 then (ephemerisref1_ExprError.j1 k1 y197 x4_1 true a0_0 a0_1 l0_2 ((rd_T122 x3_1 (ji7)).f0.f0) ((rd_T122 x3_1 (ji7)).f0.f1) ((rd_T122 x3_1 (ji7)).f0.f2) ((rd_T122 x3_1 (ji7)).f1)) else (ephemerisref1_ExprError.j1 k1 y197 x4_1 (decide (((rd_T122 x3_1 (ji7)).f1) > 12)) a0_0 a0_1 l0_2 ((rd_T122 x3_1 (ji7)).f0.f0) ((rd_T122 x3_1 (ji7)).f0.f1) ((rd_T122 x3_1 (ji7)).f0.f2) ((rd_T122 x3_1 (ji7)).f1)))) else (none)) else (none)) else (none)) = some r := by first | (rw [hji7] at H; exact H) | (simp only [hji7] at H ⊢; exact H)
    have hji7w : (IntKind.i64.wrap ((x3_1.length : Int) - 1)) = ji7 := (i64_w _).trans hji7
    by_cases c8 : 0 ≤ (ji7)
    ·rw [if_pos c8] at H
     have c8b0 : decide (0 ≤ (ji7)) = true := decide_eq_true c8
     clear c8
     by_cases c9 : (ji7) < (x3_1.length : Int)
     ·rw [if_pos c9] at H
      have c9b0 : decide ((ji7) < (x3_1.length : Int)) = true := decide_eq_true c9
      clear c9
      by_cases c10 : (ji7) ≤ (x3_1.length : Int)
      ·rw [if_pos c10] at H
       have c10b0 := eq_true c10
       have c10b1 : decide ((ji7) ≤ (x3_1.length : Int)) = true := decide_eq_true c10
       clear c10
       obtain ⟨y197, hy197⟩ : ∃ y_ : List (S122), y_ = (x3_1.take ((ji7) : Int).toNat) := ⟨_, rfl⟩
       replace H : (if x4_1 > 60 then (ephemerisref1_ExprError.j1 k1 y197 x4_1 true a0_0 a0_1 l0_2 ((rd_T122 x3_1 (ji7)).f0.f0) ((rd_T122 x3_1 (ji7)).f0.f1) ((rd_T122 x3_1 (ji7)).f0.f2) ((rd_T122 x3_1 (ji7)).f1)) else (ephemerisref1_ExprError.j1 k1 y197 x4_1 (decide (((rd_T122 x3_1 (ji7)).f1) > 12)) a0_0 a0_1 l0_2 ((rd_T122 x3_1 (ji7)).f0.f0) ((rd_T122 x3_1 (ji7)).f0.f1) ((rd_T122 x3_1 (ji7)).f0.f2) ((rd_T122 x3_1 (ji7)).f1))) = some r := rp hy197 H
       have Ny197 := Aside0.mk hy197
       clear hy197
       have HC11 := Aside0.mk H
       clear H
       obtain ⟨Ao12, co12, eo12⟩ := Kd.R_slice HO_3.out
       subst eo12
       have p195 : 0 ≤ ((ji7) : Int) := of_decide_eq_true ka
       have q195 : (ji7) < (x3_1.length : Int) := of_decide_eq_true ka
       obtain ⟨ad195, AI_, cI_, e195, hx195_0, hx195_1, hx195_2, hx195_3, hlI_, hiI_⟩ := at_T122 (Kd.R_reads' HO_3.out).2.2 (ji7) p195 q195
       cases e195
       have HCI_ := Aside0.mk hlI_
       have HRI_ := Aside0.mk hiI_
       clear hlI_ hiI_
       replace p195 := eq_true p195
       replace q195 := eq_true q195
       go_upto_region 7 with (first | ((with_reducible refine gate_dst (N := 5) rfl ?_); refine box_event ?hg (N := 5) ?hd (cs := #[.int .i64 0, .int .i64 0, .slice none 0 0, .int .i64 0]) (t := 63) ?hr ?_; (case hd => rfl); (case hg => rfl); (case hr => first | (go_simp; done) | (go_simp; rfl)); intro gb196 hg w13 hbox hb; have n0_ := Aside0.mk (Kd.R_below (Kd.R_elderB (by (with_reducible repeat (first | apply Kd.R_alloc | apply Kd.R_drewN | apply Kd.R_drew)); exact HO_3.out) gb196 (Nat.le_of_eq hg.symm)) hb); have n1_ := bb BK191 hb; have n2_ := Aside0.mk (below_step be hb); have n3_ := Aside0.mk (hbox); have n4_ := gs hg HB; have n5_ := n4_; have n6_ := nl BK191 hg; have n7_ := ns n6_; clear HO_3; clear BK191; clear HB; have HO_3 := n0_; have BK191 := n1_; have HB := n2_; have BK196 := n3_; have GW196 := n4_; have GE196 := n5_; have NB191_196 := n6_; have NB196_191 := n7_; clear n0_ n1_ n2_ n3_ n4_ n5_ n6_ n7_; clear hb hbox hg; have hnb14 := NB196_191.out; have hnc14 := NB191_196.out; obtain ⟨hcz15_0, hcz15_1, hcz15_2, hcz15_3, hfz15_0, hfz15_1, hfz15_2, hfz15_3⟩ := bc4 BK196) | ((with_reducible refine gate_store (t := 63) (p := 5) rfl ?_); refine store_event (t := 63) (p := 5) (v := ?vo_w16) (w1 := ((((w13.setCell ⟨gb196, 0, none⟩ (.int .i64 ((rd_T122 x3_1 (ji7)).f0.f0))).setCell ⟨gb196, 1, none⟩ (.int .i64 ((rd_T122 x3_1 (ji7)).f0.f1))).setCell ⟨gb196, 2, none⟩ (.slice AI_ ((rd_T122 x3_1 (ji7)).f0.f2).length cI_)).setCell ⟨gb196, 3, none⟩ (.int .i64 ((rd_T122 x3_1 (ji7)).f1)))) ?hg ?ho ?hn ?hr ?_; (case ho => rfl); (case hg => rfl); (case hn => rfl); (case hr => first | (go_simp; done) | (go_simp; rfl)); intro w16 hw; have n0_ : Aside0 (Kd.R (k122 w) 63 w16 w.heap.size (fun k_ => k_ ≠ gb196) (.slice (some ad195) x3_1.length co12) x3_1) := ⟨(by rw [hw]; exact (by (with_reducible repeat (first | apply Kd.R_alloc | apply Kd.R_drewN | apply Kd.R_drew)); exact Kd.R_mono (Kd.R_far (p := ⟨gb196, 3, none⟩) (Kd.R_far (p := ⟨gb196, 2, none⟩) (Kd.R_far (p := ⟨gb196, 1, none⟩) (Kd.R_far (p := ⟨gb196, 0, none⟩) (Kd.R_mono HO_3.out (fun k_ hk => (⟨hk, hk.2⟩ : _ ∧ k_ ≠ gb196))) (fun _ hk => hk.2) (.int .i64 ((rd_T122 x3_1 (ji7)).f0.f0))) (fun _ hk => hk.2) (.int .i64 ((rd_T122 x3_1 (ji7)).f0.f1))) (fun _ hk => hk.2) (.slice AI_ ((rd_T122 x3_1 (ji7)).f0.f2).length cI_)) (fun _ hk => hk.2) (.int .i64 ((rd_T122 x3_1 (ji7)).f1))) (fun _ hk => hk.1.2)))⟩; have n1_ : Aside0 (w16.heap[gb191]? = some (.cells #[.int .i64 a0_0, .int .i64 a0_1, .slice A0_2 l0_2.length c0_2] 24 (0, 0))) := ⟨(by rw [hw]; exact (bk BK191))⟩; have n2_ : Aside0 (w16.heap[gb196]? = some (.cells #[.int .i64 ((rd_T122 x3_1 (ji7)).f0.f0), .int .i64 ((rd_T122 x3_1 (ji7)).f0.f1), .slice AI_ ((rd_T122 x3_1 (ji7)).f0.f2).length cI_, .int .i64 ((rd_T122 x3_1 (ji7)).f1)] 63 (0, 0))) := ⟨(by rw [hw]; exact (bk BK196))⟩; have n3_ : Aside0 (Below w.heap.size w w16) := ⟨(by rw [hw]; exact be)⟩; clear hw; clear HO_3; clear BK191; clear BK196; clear HB; have HO_3 := n0_; have BK191 := n1_; have BK196 := n2_; have HB := n3_; clear n0_ n1_ n2_ n3_; have q17 : ((ji7) : Int) ≤ ((x3_1.length : Int) : Int) := of_decide_eq_true ka; obtain ⟨i017, hi017, _, hsz17, _⟩ := info_parts info122; have hcut17 := cut_to (P := Tryd.prog) 64 63 .i64 Tryd.underlying64 hi017 (some ad195) x3_1.length co12 (ji7) (of_decide_eq_true ka) q17 (Kd.R_reads' HO_3.out).2.1; have hr17 := Kd.R_take (m := ((ji7) : Int).toNat) HO_3.out (by omega); have hy17 : y197.length = ((ji7) : Int).toNat := (by rw [Ny197.out, List.length_take]; omega); rw [← Ny197.out] at hr17; rw [← hy17] at hr17 hcut17; clear hy17 hi017 hsz17 HO_3; have HO199 := Aside0.mk hr17; clear hr17; replace q17 := eq_true q17))
       (try simp only [Act.put, List.setIfInBounds_toArray, List.set_cons_zero, List.set_cons_succ])
       go_cut [32] (fun v32 wc => ∃ (kq : Nat) (x32_10 : Bool), v32 = .bool x32_10 ∧ Aside0 (ephemerisref1_ExprError.j1 kq y197 x4_1 x32_10 a0_0 a0_1 l0_2 ((rd_T122 x3_1 (ji7)).f0.f0) ((rd_T122 x3_1 (ji7)).f0.f1) ((rd_T122 x3_1 (ji7)).f0.f2) ((rd_T122 x3_1 (ji7)).f1) = some r) ∧ Aside0 (kq ≤ k1) ∧ Aside0 (Kd.R (k122 w) 63 wc w.heap.size (fun k_ => k_ ≠ gb196) (.slice (some ad195) y197.length co12) y197) ∧ Aside0 (wc.heap[gb191]? = some (.cells #[.int .i64 a0_0, .int .i64 a0_1, (.slice A0_2 l0_2.length c0_2)] 24 (0, 0))) ∧ Aside0 (wc.heap[gb196]? = some (.cells #[.int .i64 ((rd_T122 x3_1 (ji7)).f0.f0), .int .i64 ((rd_T122 x3_1 (ji7)).f0.f1), .slice AI_ ((rd_T122 x3_1 (ji7)).f0.f2).length cI_, .int .i64 ((rd_T122 x3_1 (ji7)).f1)] 63 (0, 0))) ∧ Aside0 (Below w.heap.size w wc))
       case first =>
        have H := HC11.out
        clear HC11
        by_cases c18 : x4_1 > 60
        ·rw [if_pos c18] at H
         have c18b0 : decide (60 < x4_1) = true := decide_eq_true c18
         clear c18
         (first | rw [c18b0] | (simp only [i64_w, i32_w]; rw [c18b0]) | skip)
         have H' := Aside0.mk H
         clear H
         go_wp2
         go_meet
         case rel => exact ⟨_, (true), rs, H', ⟨by have := HK1.out; first | omega | exact Nat.le_refl _⟩, ⟨by (with_reducible repeat (first | apply Kd.R_alloc | apply Kd.R_drewN | apply Kd.R_drew)); exact HO199.out⟩, ⟨bk BK191⟩, ⟨bk BK196⟩, ⟨be⟩⟩
        ·rw [if_neg c18] at H
         have c18b0 : decide (60 < x4_1) = false := decide_eq_false c18
         clear c18
         (first | rw [c18b0] | (simp only [i64_w, i32_w]; rw [c18b0]) | skip)
         have H' := Aside0.mk H
         clear H
         have hnb19 := NB196_191.out
         have hnc19 := NB191_196.out
         obtain ⟨hcz20_0, hcz20_1, hcz20_2, hcz20_3, hfz20_0, hfz20_1, hfz20_2, hfz20_3⟩ := bc4 BK196
         go_wp2
         go_meet
         case rel => exact ⟨_, (decide (((rd_T122 x3_1 (ji7)).f1) > 12)), (by first | rfl | (simp; done) | (simp only [← hji7] <;> (first | rfl | simp)) | (simp [*]; done)), H', ⟨by have := HK1.out; first | omega | exact Nat.le_refl _⟩, ⟨by (with_reducible repeat (first | apply Kd.R_alloc | apply Kd.R_drewN | apply Kd.R_drew)); exact HO199.out⟩, ⟨bk BK191⟩, ⟨bk BK196⟩, ⟨be⟩⟩
       case rest =>
        clear HC11
        (try clear c1); (try clear p1); (try clear q1); (try clear hx1); (try clear p2); (try clear c4); (try clear c6); (try clear c6b0); (try clear c6b1); (try clear p6); (try clear c8); (try clear c8b0); (try clear c9); (try clear c9b0); (try clear c10); (try clear c10b0); (try clear c10b1); (try clear c11); (try clear c14); (try clear q17); (try clear c18); (try clear c18b0); (try clear c19); (try clear p19); (try clear q19); (try clear hx19); (try clear hcz15_0); (try clear hcz15_1); (try clear hcz15_2); (try clear hcz15_3); (try clear hcz20_0); (try clear hcz20_1); (try clear hcz20_2); (try clear hcz20_3); (try clear hcz3_0); (try clear hcz3_1); (try clear hcz3_2); (try clear hfz15_0); (try clear hfz15_1); (try clear hfz15_2); (try clear hfz15_3); (try clear hfz20_0); (try clear hfz20_1); (try clear hfz20_2); (try clear hfz20_3); (try clear hfz3_0); (try clear hfz3_1); (try clear hfz3_2); (try clear hx195_0); (try clear hx195_1); (try clear hx195_2); (try clear hx195_3); (try clear p195); (try clear p2); (try clear q17); (try clear q195)
        obtain ⟨kq, x32_10, rfl, HA, HJ10, HO_3, BK191, BK196, HB⟩ := hcut
        cases kq with
        | zero => exact absurd HA.out (by simp [ephemerisref1_ExprError.j1])
        | succ kj10 =>
         have H := HA.out
         clear HA
         simp only [ephemerisref1_ExprError.j1] at H
         by_cases c21 : x32_10 = true
         ·subst c21
          have H1 : (some 2) = some r := by rw [if_pos rfl] at H; exact H
          clear H
          have H := H1
          clear H1
          obtain rfl := Option.some.inj H
          go_wp2
          go_ret
          exact ⟨by first | rfl | (simp [errW_none, errW_some] <;> rfl) | (simp only [← hji7]; first | rfl | (simp [errW_none, errW_some] <;> rfl)) | (simp [*, errW_none, errW_some] <;> rfl), be⟩
         ·replace c21 := Bool.eq_false_iff.mpr c21
          subst c21
          have H1 : ((ephemerisref1_operands.f kj10 ((rd_T122 x3_1 (ji7)).f0.f0)).bind fun t200 => (if (((rd_T122 x3_1 (ji7)).f0.f2).length : Int) = t200 then (if ((rd_T122 x3_1 (ji7)).f0.f0) = 1 then ((ephemerisref1_In.f ((rd_T122 x3_1 (ji7)).f0.f1) 0 2147483647).bind fun t201 => (if t201 = true then (ephemerisref1_ExprError.j2 kj10 y197 x4_1 a0_0 a0_1 l0_2 ((rd_T122 x3_1 (ji7)).f0.f0) ((rd_T122 x3_1 (ji7)).f0.f1) ((rd_T122 x3_1 (ji7)).f0.f2) ((rd_T122 x3_1 (ji7)).f1)) else (some 8))) else (if ((rd_T122 x3_1 (ji7)).f0.f1) = 0 then (ephemerisref1_ExprError.j2 kj10 y197 x4_1 a0_0 a0_1 l0_2 ((rd_T122 x3_1 (ji7)).f0.f0) ((rd_T122 x3_1 (ji7)).f0.f1) ((rd_T122 x3_1 (ji7)).f0.f2) ((rd_T122 x3_1 (ji7)).f1)) else (some 8))) else (some 8))) = some r := by rw [if_neg (show ¬ (false = true) by decide)] at H; exact H
          clear H
          have H := H1
          clear H1
          replace H := Option.bind_eq_some_iff.mp H
          obtain ⟨t200, A220, H⟩ := H
          replace H : (if (((rd_T122 x3_1 (ji7)).f0.f2).length : Int) = t200 then (if ((rd_T122 x3_1 (ji7)).f0.f0) = 1 then ((ephemerisref1_In.f ((rd_T122 x3_1 (ji7)).f0.f1) 0 2147483647).bind fun t201 => (if t201 = true then (ephemerisref1_ExprError.j2 kj10 y197 x4_1 a0_0 a0_1 l0_2 ((rd_T122 x3_1 (ji7)).f0.f0) ((rd_T122 x3_1 (ji7)).f0.f1) ((rd_T122 x3_1 (ji7)).f0.f2) ((rd_T122 x3_1 (ji7)).f1)) else (some 8))) else (if ((rd_T122 x3_1 (ji7)).f0.f1) = 0 then (ephemerisref1_ExprError.j2 kj10 y197 x4_1 a0_0 a0_1 l0_2 ((rd_T122 x3_1 (ji7)).f0.f0) ((rd_T122 x3_1 (ji7)).f0.f1) ((rd_T122 x3_1 (ji7)).f0.f2) ((rd_T122 x3_1 (ji7)).f1)) else (some 8))) else (some 8)) = some r := H
          have A22 := Aside0.mk A220
          clear A220
          by_cases c23 : (((rd_T122 x3_1 (ji7)).f0.f2).length : Int) = t200
          ·rw [if_pos c23] at H
           have c23b0 : ((((rd_T122 x3_1 (ji7)).f0.f2).length : Int) == t200) = true := beq_iff_eq.mpr c23
           have c23b1 : ((((rd_T122 x3_1 (ji7)).f0.f2).length : Int) != t200) = false := bne_eq_false_iff_eq.mpr c23
           clear c23
           have HC24 := Aside0.mk H
           clear H
           try go_wp2
           have n0_ := Aside0.mk (Kd.R_drew HO_3.out)
           have n1_ := Aside0.mk (blk_drew BK191.out)
           have n2_ := Aside0.mk (blk_drew BK196.out)
           have n3_ := Aside0.mk (below_drew1 HB.out)
           clear HO_3
           clear BK191
           clear BK196
           clear HB
           have HO_3 := n0_
           have BK191 := n1_
           have BK196 := n2_
           have HB := n3_
           clear n0_ n1_ n2_ n3_
           refine start_ (n := 9) (S := fun w' => w'.cell? ⟨gb196, 0, none⟩ = some (.int .i64 ((rd_T122 x3_1 (ji7)).f0.f0)) ∧ w'.cell? ⟨gb196, 1, none⟩ = some (.int .i64 ((rd_T122 x3_1 (ji7)).f0.f1)) ∧ w'.cell? ⟨gb196, 2, none⟩ = some (.slice AI_ ((rd_T122 x3_1 (ji7)).f0.f2).length cI_) ∧ w'.cell? ⟨gb196, 3, none⟩ = some (.int .i64 ((rd_T122 x3_1 (ji7)).f1))) (ds := []) #[false, false, false, false, false, false, false, false, false] kx rfl rfl ⟨(blk_cell BK196.out 0).trans rfl, (blk_cell BK196.out 1).trans rfl, (blk_cell BK196.out 2).trans rfl, (blk_cell BK196.out 3).trans rfl⟩ (fun hHeld => ?_); refine with_tabW ephemerisref1_ExprError.tab9 ephemerisref1_ExprError.bits9 (fun HT_ HW_ => ?_)
           generalize wc.drew = w25 at HO_3 BK191 BK196 HB hHeld ⊢
           refine pure_ (i := 0) (N := some 33) (v := ?_) (a' := ?_) #[true, false, false, false, false, false, false, false, false] rfl rfl (any_of HT_.out kx) (fun _ _ _ h => h) (Or.inl ⟨by rfl, ?_⟩) ?_ ?_
           rotate_left
           ·intro w'
            go_simp
            with_reducible rfl
           rotate_left
           ·simp only [Act.put, List.setIfInBounds_toArray, List.set_cons_zero, List.set_cons_succ, i64_w, i32_w]
            rfl
           refine pure_ (i := 1) (N := some 34) (v := ?_) (a' := ?_) #[true, true, false, false, false, false, false, false, false] rfl rfl (any_of HT_.out kx) (fun _ _ _ h => h) (Or.inl ⟨by rfl, ?_⟩) ?_ ?_
           rotate_left
           ·intro w'
            go_simp
            with_reducible rfl
           rotate_left
           ·simp only [Act.put, List.setIfInBounds_toArray, List.set_cons_zero, List.set_cons_succ, i64_w, i32_w]
            rfl
           refine pure_ (i := 4) (N := some 37) (v := ?_) (a' := ?_) #[true, true, false, false, true, false, false, false, false] rfl rfl (any_of HT_.out kx) (fun _ _ _ h => h) (Or.inl ⟨by rfl, ?_⟩) ?_ ?_
           rotate_left
           ·intro w'
            go_simp
            with_reducible rfl
           rotate_left
           ·simp only [Act.put, List.setIfInBounds_toArray, List.set_cons_zero, List.set_cons_succ, i64_w, i32_w]
            rfl
           refine pure_ (i := 5) (N := some 38) (v := ?_) (a' := ?_) #[true, true, false, false, true, true, false, false, false] rfl rfl (any_of HT_.out kx) (fun _ _ _ h => h) (Or.inl ⟨by rfl, ?_⟩) ?_ ?_
           rotate_left
           ·intro w'
            go_simp
            with_reducible rfl
           rotate_left
           ·simp only [Act.put, List.setIfInBounds_toArray, List.set_cons_zero, List.set_cons_succ, i64_w, i32_w]
            rfl
           refine take_ (i := 2) (N := some 35) (v := ?_) (a' := ?_) #[true, true, true, false, true, true, false, false, false] rfl rfl (take_ofW HT_.out HW_.out kx) (fun _ _ _ h => h) (Or.inl ⟨by rfl, ?_⟩) hHeld ?_ ?_
           rotate_left
           ·rintro w' ⟨s0, s1, s2, s3⟩
            go_simp
            with_reducible rfl
           rotate_left
           ·simp only [Act.put, List.setIfInBounds_toArray, List.set_cons_zero, List.set_cons_succ, i64_w, i32_w]
            rfl
           refine pure_ (i := 3) (N := some 36) (v := ?_) (a' := ?_) #[true, true, true, true, true, true, false, false, false] rfl rfl (any_of HT_.out kx) (fun _ _ _ h => h) (Or.inl ⟨by rfl, ?_⟩) ?_ ?_
           rotate_left
           ·intro w'
            go_simp
            with_reducible rfl
           rotate_left
           ·simp only [Act.put, List.setIfInBounds_toArray, List.set_cons_zero, List.set_cons_succ, i64_w, i32_w]
            rfl
           refine take_ (i := 6) (N := some 39) (v := ?_) (a' := ?_) #[true, true, true, true, true, true, true, false, false] rfl rfl (take_ofW HT_.out HW_.out kx) (fun _ _ _ h => h) (Or.inl ⟨by rfl, ?_⟩) hHeld ?_ ?_
           rotate_left
           ·rintro w' ⟨s0, s1, s2, s3⟩
            go_simp
            with_reducible rfl
           rotate_left
           ·simp only [Act.put, List.setIfInBounds_toArray, List.set_cons_zero, List.set_cons_succ, i64_w, i32_w]
            rfl
           refine one_ (i := 7) (N := some 40) #[true, true, true, true, true, true, true, true, false] rfl rfl (one_of HT_.out kx) (by decide) (fun K hK => ?_)
           refine goes_ Tryd.func30 kx rfl #[.int .i64 ((rd_T122 x3_1 (ji7)).f0.f0)] (by rfl) rfl rfl (by (try simp only [List.map_toArray, List.map_cons, List.map_nil]); first | done | (simp only [hji7]; rfl) | rfl | (simp only [List.length_drop, List.length_take]; rfl)) ?_
           with_reducible refine (ephemerisref1_operands.calls kj10 ((rd_T122 x3_1 (ji7)).f0.f0) t200 _ A22.out).mono ?_
           rintro e w' ⟨rfl, ⟨nd, rfl⟩⟩
           refine ⟨_, rfl, ?_⟩
           refine hK.out _ _ ⟨(blk_cell BK196.out 0).trans rfl, (blk_cell BK196.out 1).trans rfl, (blk_cell BK196.out 2).trans rfl, (blk_cell BK196.out 3).trans rfl⟩ (fun hHeld => ?_)
           clear hK K
           refine norm_ (a' := ?_) ?_ ?_
           rotate_left
           ·show Act.put _ (some 40) _ = _
            simp only [Act.put, List.setIfInBounds_toArray, List.set_cons_zero, List.set_cons_succ, i64_w, i32_w]
            rfl
           refine pure_ (i := 8) (N := some 41) (v := ?_) (a' := ?_) #[true, true, true, true, true, true, true, true, true] rfl rfl (any_of HT_.out kx) (fun _ _ _ h => h) (Or.inl ⟨by rfl, ?_⟩) ?_ ?_
           rotate_left
           ·intro w'
            go_simp
            with_reducible rfl
           rotate_left
           ·simp only [Act.put, List.setIfInBounds_toArray, List.set_cons_zero, List.set_cons_succ, i64_w, i32_w]
            rfl
           refine done_ (done_of HT_.out kx) ?_
           have hnb26 := NB196_191.out
           have hnc26 := NB191_196.out
           obtain ⟨hcz27_0, hcz27_1, hcz27_2, hcz27_3, hfz27_0, hfz27_1, hfz27_2, hfz27_3⟩ := bc4 BK196
           go_upto_if 45 with (fail)
           go_cut [] (fun wc => ∃ (kq : Nat), Aside0 (ephemerisref1_ExprError.j2 kq y197 x4_1 a0_0 a0_1 l0_2 ((rd_T122 x3_1 (ji7)).f0.f0) ((rd_T122 x3_1 (ji7)).f0.f1) ((rd_T122 x3_1 (ji7)).f0.f2) ((rd_T122 x3_1 (ji7)).f1) = some r) ∧ Aside0 (kq ≤ kj10) ∧ Aside0 (Kd.R (k122 w) 63 wc w.heap.size (fun k_ => k_ ≠ gb196) (.slice (some ad195) y197.length co12) y197) ∧ Aside0 (wc.heap[gb191]? = some (.cells #[.int .i64 a0_0, .int .i64 a0_1, (.slice A0_2 l0_2.length c0_2)] 24 (0, 0))) ∧ Aside0 (wc.heap[gb196]? = some (.cells #[.int .i64 ((rd_T122 x3_1 (ji7)).f0.f0), .int .i64 ((rd_T122 x3_1 (ji7)).f0.f1), .slice AI_ ((rd_T122 x3_1 (ji7)).f0.f2).length cI_, .int .i64 ((rd_T122 x3_1 (ji7)).f1)] 63 (0, 0))) ∧ Aside0 (Below w.heap.size w wc))
           case first =>
            have H := HC24.out
            clear HC24
            by_cases c28 : ((rd_T122 x3_1 (ji7)).f0.f0) = 1
            ·rw [if_pos c28] at H
             have c28b0 : (((rd_T122 x3_1 (ji7)).f0.f0) == 1) = true := beq_iff_eq.mpr c28
             have c28b1 : (((rd_T122 x3_1 (ji7)).f0.f0) != 1) = false := bne_eq_false_iff_eq.mpr c28
             clear c28
             (first | rw [c28b0] | (simp only [i64_w, i32_w]; rw [c28b0]) | skip)
             replace H := Option.bind_eq_some_iff.mp H
             obtain ⟨t201, A290, H⟩ := H
             replace H : (if t201 = true then (ephemerisref1_ExprError.j2 kj10 y197 x4_1 a0_0 a0_1 l0_2 ((rd_T122 x3_1 (ji7)).f0.f0) ((rd_T122 x3_1 (ji7)).f0.f1) ((rd_T122 x3_1 (ji7)).f0.f2) ((rd_T122 x3_1 (ji7)).f1)) else (some 8)) = some r := H
             have A29 := Aside0.mk A290
             clear A290
             by_cases c30 : t201 = true
             ·subst c30
              have H1 : (ephemerisref1_ExprError.j2 kj10 y197 x4_1 a0_0 a0_1 l0_2 ((rd_T122 x3_1 (ji7)).f0.f0) ((rd_T122 x3_1 (ji7)).f0.f1) ((rd_T122 x3_1 (ji7)).f0.f2) ((rd_T122 x3_1 (ji7)).f1)) = some r := by rw [if_pos rfl] at H; exact H
              clear H
              have H := H1
              clear H1
              have H' := Aside0.mk H
              clear H
              have hnb31 := NB196_191.out
              have hnc31 := NB191_196.out
              obtain ⟨hcz32_0, hcz32_1, hcz32_2, hcz32_3, hfz32_0, hfz32_1, hfz32_2, hfz32_3⟩ := bc4 BK196
              go_wp2_with (first | ((with_reducible refine gate_callee (f := 12) rfl ?_); refine goesL_ (some 49) rfl rfl Tryd.func12 kx rfl #[.int .i64 ((rd_T122 x3_1 (ji7)).f0.f1), .int .i64 0, .int .i64 2147483647] rfl (by (try simp only [List.map_toArray, List.map_cons, List.map_nil]); first | done | (simp only [hji7]; rfl) | rfl | (simp only [List.length_drop, List.length_take]; rfl)) ?_; (with_reducible refine (ephemerisref1_In.calls ((rd_T122 x3_1 (ji7)).f0.f1) 0 2147483647 true _ A29.out).mono ?_); rintro e w' ⟨rfl, ⟨nd, rfl⟩⟩; refine ⟨_, rfl, ?_⟩))
              go_meet
              case rel => exact ⟨_, H', ⟨by have := HK1.out; have := HJ10.out; first | omega | exact Nat.le_refl _⟩, ⟨by (with_reducible repeat (first | apply Kd.R_alloc | apply Kd.R_drewN | apply Kd.R_drew)); exact HO_3.out⟩, ⟨bk BK191⟩, ⟨bk BK196⟩, ⟨be⟩⟩
             ·replace c30 := Bool.eq_false_iff.mpr c30
              subst c30
              have H1 : (some 8) = some r := by rw [if_neg (show ¬ (false = true) by decide)] at H; exact H
              clear H
              have H := H1
              clear H1
              obtain rfl := Option.some.inj H
              have hnb33 := NB196_191.out
              have hnc33 := NB191_196.out
              obtain ⟨hcz34_0, hcz34_1, hcz34_2, hcz34_3, hfz34_0, hfz34_1, hfz34_2, hfz34_3⟩ := bc4 BK196
              go_wp2_with (first | ((with_reducible refine gate_callee (f := 12) rfl ?_); refine goesL_ (some 49) rfl rfl Tryd.func12 kx rfl #[.int .i64 ((rd_T122 x3_1 (ji7)).f0.f1), .int .i64 0, .int .i64 2147483647] rfl (by (try simp only [List.map_toArray, List.map_cons, List.map_nil]); first | done | (simp only [hji7]; rfl) | rfl | (simp only [List.length_drop, List.length_take]; rfl)) ?_; (with_reducible refine (ephemerisref1_In.calls ((rd_T122 x3_1 (ji7)).f0.f1) 0 2147483647 false _ A29.out).mono ?_); rintro e w' ⟨rfl, ⟨nd, rfl⟩⟩; refine ⟨_, rfl, ?_⟩))
              go_ret
              exact ⟨by first | rfl | (simp [errW_none, errW_some] <;> rfl) | (simp only [← hji7]; first | rfl | (simp [errW_none, errW_some] <;> rfl)) | (simp [*, errW_none, errW_some] <;> rfl), be⟩
            ·rw [if_neg c28] at H
             have c28b0 : (((rd_T122 x3_1 (ji7)).f0.f0) == 1) = false := beq_eq_false_iff_ne.mpr c28
             have c28b1 : (((rd_T122 x3_1 (ji7)).f0.f0) != 1) = true := bne_iff_ne.mpr c28
             (first | rw [c28b0] | (simp only [i64_w, i32_w]; rw [c28b0]) | skip)
             by_cases c35 : ((rd_T122 x3_1 (ji7)).f0.f1) = 0
             ·rw [if_pos c35] at H
              have c35b0 : (((rd_T122 x3_1 (ji7)).f0.f1) == 0) = true := beq_iff_eq.mpr c35
              have c35b1 : (((rd_T122 x3_1 (ji7)).f0.f1) != 0) = false := bne_eq_false_iff_eq.mpr c35
              clear c35
              have H' := Aside0.mk H
              clear H
              have hnb36 := NB196_191.out
              have hnc36 := NB191_196.out
              obtain ⟨hcz37_0, hcz37_1, hcz37_2, hcz37_3, hfz37_0, hfz37_1, hfz37_2, hfz37_3⟩ := bc4 BK196
              go_wp2
              go_meet
              case rel => exact ⟨_, H', ⟨by have := HK1.out; have := HJ10.out; first | omega | exact Nat.le_refl _⟩, ⟨by (with_reducible repeat (first | apply Kd.R_alloc | apply Kd.R_drewN | apply Kd.R_drew)); exact HO_3.out⟩, ⟨bk BK191⟩, ⟨bk BK196⟩, ⟨be⟩⟩
             ·rw [if_neg c35] at H
              have c35b0 : (((rd_T122 x3_1 (ji7)).f0.f1) == 0) = false := beq_eq_false_iff_ne.mpr c35
              have c35b1 : (((rd_T122 x3_1 (ji7)).f0.f1) != 0) = true := bne_iff_ne.mpr c35
              obtain rfl := Option.some.inj H
              have hnb38 := NB196_191.out
              have hnc38 := NB191_196.out
              obtain ⟨hcz39_0, hcz39_1, hcz39_2, hcz39_3, hfz39_0, hfz39_1, hfz39_2, hfz39_3⟩ := bc4 BK196
              go_wp2
              go_ret
              exact ⟨by first | rfl | (simp [errW_none, errW_some] <;> rfl) | (simp only [← hji7]; first | rfl | (simp [errW_none, errW_some] <;> rfl)) | (simp [*, errW_none, errW_some] <;> rfl), be⟩
           case rest =>
            clear HC24
            (try clear c1); (try clear p1); (try clear q1); (try clear hx1); (try clear c2); (try clear p2); (try clear c3); (try clear c4); (try clear c6); (try clear c6b0); (try clear c6b1); (try clear p6); (try clear c8); (try clear c8b0); (try clear c9); (try clear c9b0); (try clear c10); (try clear c10b0); (try clear c10b1); (try clear c11); (try clear c12); (try clear c14); (try clear q17); (try clear c18); (try clear c18b0); (try clear c19); (try clear p19); (try clear q19); (try clear hx19); (try clear c21); (try clear c23); (try clear c23b0); (try clear c23b1); (try clear c26); (try clear c28); (try clear c28b0); (try clear c28b1); (try clear c30); (try clear c31); (try clear c33); (try clear c35); (try clear c35b0); (try clear c35b1); (try clear c36); (try clear c38); (try clear hcz15_0); (try clear hcz15_1); (try clear hcz15_2); (try clear hcz15_3); (try clear hcz20_0); (try clear hcz20_1); (try clear hcz20_2); (try clear hcz20_3); (try clear hcz27_0); (try clear hcz27_1); (try clear hcz27_2); (try clear hcz27_3); (try clear hcz32_0); (try clear hcz32_1); (try clear hcz32_2); (try clear hcz32_3); (try clear hcz34_0); (try clear hcz34_1); (try clear hcz34_2); (try clear hcz34_3); (try clear hcz37_0); (try clear hcz37_1); (try clear hcz37_2); (try clear hcz37_3); (try clear hcz39_0); (try clear hcz39_1); (try clear hcz39_2); (try clear hcz39_3); (try clear hcz3_0); (try clear hcz3_1); (try clear hcz3_2); (try clear hfz15_0); (try clear hfz15_1); (try clear hfz15_2); (try clear hfz15_3); (try clear hfz20_0); (try clear hfz20_1); (try clear hfz20_2); (try clear hfz20_3); (try clear hfz27_0); (try clear hfz27_1); (try clear hfz27_2); (try clear hfz27_3); (try clear hfz32_0); (try clear hfz32_1); (try clear hfz32_2); (try clear hfz32_3); (try clear hfz34_0); (try clear hfz34_1); (try clear hfz34_2); (try clear hfz34_3); (try clear hfz37_0); (try clear hfz37_1); (try clear hfz37_2); (try clear hfz37_3); (try clear hfz39_0); (try clear hfz39_1); (try clear hfz39_2); (try clear hfz39_3); (try clear hfz3_0); (try clear hfz3_1); (try clear hfz3_2); (try clear hx195_0); (try clear hx195_1); (try clear hx195_2); (try clear hx195_3); (try clear p1); (try clear p19); (try clear p195); (try clear p2); (try clear p6); (try clear q1); (try clear q17); (try clear q19); (try clear q195)
            obtain ⟨kq, HA, HJ23, HO_3, BK191, BK196, HB⟩ := hcut
            cases kq with
            | zero => exact absurd HA.out (by simp [ephemerisref1_ExprError.j2])
            | succ kj23 =>
             have H := HA.out
             clear HA
             simp only [ephemerisref1_ExprError.j2] at H
             have H' := Aside0.mk H
             clear H
             have hnb40 := NB196_191.out
             have hnc40 := NB191_196.out
             obtain ⟨hcz41_0, hcz41_1, hcz41_2, hcz41_3, hfz41_0, hfz41_1, hfz41_2, hfz41_3⟩ := bc4 BK196
             go_wp2
             go_loopg [3, 6] kj23 (fun kq v3 v6 w' => ∃ (x3_4 : List (S122)) (x6_4 : Int), v6 = .int .i64 x6_4 ∧ Aside0 (ephemerisref1_ExprError.l1 kq x3_4 x4_1 x6_4 a0_0 a0_1 l0_2 ((rd_T122 x3_1 (ji7)).f0.f0) ((rd_T122 x3_1 (ji7)).f0.f1) ((rd_T122 x3_1 (ji7)).f0.f2) ((rd_T122 x3_1 (ji7)).f1) = some r) ∧ Aside0 (kq ≤ kj23) ∧ Aside0 (Kd.R (k122 w) 63 w' w.heap.size (fun k_ => k_ ≠ gb196) v3 x3_4) ∧ Aside0 (w'.heap[gb191]? = some (.cells #[.int .i64 a0_0, .int .i64 a0_1, (.slice A0_2 l0_2.length c0_2)] 24 (0, 0))) ∧ Aside0 (w'.heap[gb196]? = some (.cells #[.int .i64 ((rd_T122 x3_1 (ji7)).f0.f0), .int .i64 ((rd_T122 x3_1 (ji7)).f0.f1), .slice AI_ ((rd_T122 x3_1 (ji7)).f0.f2).length cI_, .int .i64 ((rd_T122 x3_1 (ji7)).f1)] 63 (0, 0))) ∧ Aside0 (Below w.heap.size w w'))
             case atStart => exact ⟨(y197), (wrap64 ((((rd_T122 x3_1 (ji7)).f0.f2).length : Int) - 1)), (by first | rfl | (simp; done) | (simp only [← hji7] <;> (first | rfl | simp)) | (simp [*]; done)), H', ⟨Nat.le_refl _⟩, ⟨by (with_reducible repeat (first | apply Kd.R_alloc | apply Kd.R_drewN | apply Kd.R_drew)); exact HO_3.out⟩, ⟨bk BK191⟩, ⟨bk BK196⟩, ⟨be⟩⟩
             case round =>
              clear H'
              (try clear c1); (try clear p1); (try clear q1); (try clear hx1); (try clear c2); (try clear p2); (try clear c3); (try clear c4); (try clear c6); (try clear c6b0); (try clear c6b1); (try clear p6); (try clear c8); (try clear c8b0); (try clear c9); (try clear c9b0); (try clear c10); (try clear c10b0); (try clear c10b1); (try clear c11); (try clear c12); (try clear c14); (try clear q17); (try clear c18); (try clear c18b0); (try clear c19); (try clear p19); (try clear q19); (try clear hx19); (try clear c21); (try clear c23); (try clear c23b0); (try clear c23b1); (try clear c26); (try clear c28); (try clear c28b0); (try clear c28b1); (try clear c30); (try clear c31); (try clear c33); (try clear c35); (try clear c35b0); (try clear c35b1); (try clear c36); (try clear c38); (try clear c40); (try clear hcz15_0); (try clear hcz15_1); (try clear hcz15_2); (try clear hcz15_3); (try clear hcz20_0); (try clear hcz20_1); (try clear hcz20_2); (try clear hcz20_3); (try clear hcz27_0); (try clear hcz27_1); (try clear hcz27_2); (try clear hcz27_3); (try clear hcz32_0); (try clear hcz32_1); (try clear hcz32_2); (try clear hcz32_3); (try clear hcz34_0); (try clear hcz34_1); (try clear hcz34_2); (try clear hcz34_3); (try clear hcz37_0); (try clear hcz37_1); (try clear hcz37_2); (try clear hcz37_3); (try clear hcz39_0); (try clear hcz39_1); (try clear hcz39_2); (try clear hcz39_3); (try clear hcz3_0); (try clear hcz3_1); (try clear hcz3_2); (try clear hcz41_0); (try clear hcz41_1); (try clear hcz41_2); (try clear hcz41_3); (try clear hfz15_0); (try clear hfz15_1); (try clear hfz15_2); (try clear hfz15_3); (try clear hfz20_0); (try clear hfz20_1); (try clear hfz20_2); (try clear hfz20_3); (try clear hfz27_0); (try clear hfz27_1); (try clear hfz27_2); (try clear hfz27_3); (try clear hfz32_0); (try clear hfz32_1); (try clear hfz32_2); (try clear hfz32_3); (try clear hfz34_0); (try clear hfz34_1); (try clear hfz34_2); (try clear hfz34_3); (try clear hfz37_0); (try clear hfz37_1); (try clear hfz37_2); (try clear hfz37_3); (try clear hfz39_0); (try clear hfz39_1); (try clear hfz39_2); (try clear hfz39_3); (try clear hfz3_0); (try clear hfz3_1); (try clear hfz3_2); (try clear hfz41_0); (try clear hfz41_1); (try clear hfz41_2); (try clear hfz41_3); (try clear hx195_0); (try clear hx195_1); (try clear hx195_2); (try clear hx195_3); (try clear p1); (try clear p19); (try clear p195); (try clear p2); (try clear p6); (try clear q1); (try clear q17); (try clear q19); (try clear q195)
              obtain ⟨x3_4, x6_4, rfl, HA, HK4, HO_3, BK191, BK196, HB⟩ := hrel
              cases gk with
              | zero => exact absurd HA.out (by simp [ephemerisref1_ExprError.l1])
              | succ k4 =>
               have H := HA.out
               clear HA
               simp only [ephemerisref1_ExprError.l1] at H
               by_cases c42 : x6_4 ≥ 0
               ·rw [if_pos c42] at H
                have c42b0 : decide (0 ≤ x6_4) = true := decide_eq_true c42
                clear c42
                by_cases c43 : 0 ≤ x6_4
                ·rw [if_pos c43] at H
                 have c43b0 : decide (0 ≤ x6_4) = true := decide_eq_true c43
                 clear c43
                 by_cases c44 : x6_4 < (((rd_T122 x3_1 (ji7)).f0.f2).length : Int)
                 ·rw [if_pos c44] at H
                  have c44b0 : decide (x6_4 < (((rd_T122 x3_1 (ji7)).f0.f2).length : Int)) = true := decide_eq_true c44
                  clear c44
                  by_cases c45 : x3_4.length < 2932031007402
                  ·rw [if_pos c45] at H
                   have LMc45 := Aside0.mk c45
                   clear c45
                   obtain ⟨y203, hy203⟩ : ∃ y_ : List (S122), y_ = (x3_4 ++ [(⟨(rd_T24 ((rd_T122 x3_1 (ji7)).f0.f2) x6_4), wrap64 (((rd_T122 x3_1 (ji7)).f1) + 1)⟩ : S122)]) := ⟨_, rfl⟩
                   replace H : (ephemerisref1_ExprError.l1 k4 y203 x4_1 (wrap64 (x6_4 - 1)) a0_0 a0_1 l0_2 ((rd_T122 x3_1 (ji7)).f0.f0) ((rd_T122 x3_1 (ji7)).f0.f1) ((rd_T122 x3_1 (ji7)).f0.f2) ((rd_T122 x3_1 (ji7)).f1)) = some r := rp hy203 H
                   have Ny203 := Aside0.mk hy203
                   clear hy203
                   have H' := Aside0.mk H
                   clear H
                   try go_wp2
                   have n0_ := Aside0.mk (Kd.R_drew HO_3.out)
                   have n1_ := Aside0.mk (blk_drew BK191.out)
                   have n2_ := Aside0.mk (blk_drew BK196.out)
                   have n3_ := Aside0.mk (below_drew1 HB.out)
                   clear HO_3
                   clear BK191
                   clear BK196
                   clear HB
                   have HO_3 := n0_
                   have BK191 := n1_
                   have BK196 := n2_
                   have HB := n3_
                   clear n0_ n1_ n2_ n3_
                   have p202 : 0 ≤ (x6_4 : Int) := of_decide_eq_true ka
                   have q202 : x6_4 < (((rd_T122 x3_1 (ji7)).f0.f2).length : Int) := of_decide_eq_true ka
                   obtain ⟨ad202, A202_2, c202_2, e202, hx202_0, hx202_1, hx202_2, hl202_2, hi202_2⟩ := at_T24 HRI_.out x6_4 p202 q202
                   have hw202_2 := hx202_2
                   have hw202_1 := hx202_1
                   have hw202_0 := hx202_0
                   cases e202
                   replace hx202_0 := (HB.out.cell (World.block_lt_of_cell? w _ hx202_0)).trans hx202_0
                   replace hx202_1 := (HB.out.cell (World.block_lt_of_cell? w _ hx202_1)).trans hx202_1
                   replace hx202_2 := (HB.out.cell (World.block_lt_of_cell? w _ hx202_2)).trans hx202_2
                   have HR202_2 := Aside0.mk hi202_2
                   have HC202_2 := Aside0.mk hl202_2
                   clear hi202_2 hl202_2
                   replace p202 := eq_true p202
                   replace q202 := eq_true q202
                   refine start_ (n := 14) (S := fun w' => w'.cell? ⟨gb191, 0, none⟩ = some (.int .i64 a0_0) ∧ w'.cell? ⟨gb191, 1, none⟩ = some (.int .i64 a0_1) ∧ w'.cell? ⟨gb191, 2, none⟩ = some (.slice A0_2 l0_2.length c0_2) ∧ w'.cell? ⟨gb196, 0, none⟩ = some (.int .i64 ((rd_T122 x3_1 (ji7)).f0.f0)) ∧ w'.cell? ⟨gb196, 1, none⟩ = some (.int .i64 ((rd_T122 x3_1 (ji7)).f0.f1)) ∧ w'.cell? ⟨gb196, 2, none⟩ = some (.slice (some ad202) ((rd_T122 x3_1 (ji7)).f0.f2).length cI_) ∧ w'.cell? ⟨gb196, 3, none⟩ = some (.int .i64 ((rd_T122 x3_1 (ji7)).f1)) ∧ w'.cell? (ad202.add ((x6_4).toNat * 3)) = some (.int .i64 ((rd_T24 ((rd_T122 x3_1 (ji7)).f0.f2) x6_4).f0)) ∧ w'.cell? ⟨(ad202.add ((x6_4).toNat * 3)).block, (ad202.add ((x6_4).toNat * 3)).off + 1, none⟩ = some (.int .i64 ((rd_T24 ((rd_T122 x3_1 (ji7)).f0.f2) x6_4).f1)) ∧ w'.cell? ⟨(ad202.add ((x6_4).toNat * 3)).block, (ad202.add ((x6_4).toNat * 3)).off + 2, none⟩ = some (.slice A202_2 ((rd_T24 ((rd_T122 x3_1 (ji7)).f0.f2) x6_4).f2).length c202_2)) (ds := []) #[false, false, false, false, false, false, false, false, false, false, false, false, false, false] kx rfl rfl ⟨(blk_cell BK191.out 0).trans rfl, (blk_cell BK191.out 1).trans rfl, (blk_cell BK191.out 2).trans rfl, (blk_cell BK196.out 0).trans rfl, (blk_cell BK196.out 1).trans rfl, (blk_cell BK196.out 2).trans rfl, (blk_cell BK196.out 3).trans rfl, ((HB.out.cell (World.block_lt_of_cell? w _ hw202_0)).trans hw202_0), ((HB.out.cell (World.block_lt_of_cell? w _ hw202_1)).trans hw202_1), ((HB.out.cell (World.block_lt_of_cell? w _ hw202_2)).trans hw202_2)⟩ (fun hHeld => ?_); refine with_tabW ephemerisref1_ExprError.tab19 ephemerisref1_ExprError.bits19 (fun HT_ HW_ => ?_)
                   generalize wr.drew = w46 at HO_3 BK191 BK196 HB HR202_2 hx202_0 hx202_1 hx202_2 hHeld ⊢
                   refine pure_ (i := 0) (N := some 64) (v := ?_) (a' := ?_) #[true, false, false, false, false, false, false, false, false, false, false, false, false, false] rfl rfl (any_of HT_.out kx) (fun _ _ _ h => h) (Or.inl ⟨by rfl, ?_⟩) ?_ ?_
                   rotate_left
                   ·intro w'
                    go_simp
                    with_reducible rfl
                   rotate_left
                   ·simp only [Act.put, List.setIfInBounds_toArray, List.set_cons_zero, List.set_cons_succ, i64_w, i32_w]
                    rfl
                   refine pure_ (i := 1) (N := some 65) (v := ?_) (a' := ?_) #[true, true, false, false, false, false, false, false, false, false, false, false, false, false] rfl rfl (any_of HT_.out kx) (fun _ _ _ h => h) (Or.inl ⟨by rfl, ?_⟩) ?_ ?_
                   rotate_left
                   ·intro w'
                    go_simp
                    with_reducible rfl
                   rotate_left
                   ·simp only [Act.put, List.setIfInBounds_toArray, List.set_cons_zero, List.set_cons_succ, i64_w, i32_w]
                    rfl
                   refine pure_ (i := 2) (N := some 66) (v := ?_) (a' := ?_) #[true, true, true, false, false, false, false, false, false, false, false, false, false, false] rfl rfl (any_of HT_.out kx) (fun _ _ _ h => h) (Or.inl ⟨by rfl, ?_⟩) ?_ ?_
                   rotate_left
                   ·intro w'
                    go_simp
                    with_reducible rfl
                   rotate_left
                   ·simp only [Act.put, List.setIfInBounds_toArray, List.set_cons_zero, List.set_cons_succ, i64_w, i32_w]
                    rfl
                   refine pure_ (i := 4) (N := some 68) (v := ?_) (a' := ?_) #[true, true, true, false, true, false, false, false, false, false, false, false, false, false] rfl rfl (any_of HT_.out kx) (fun _ _ _ h => h) (Or.inl ⟨by rfl, ?_⟩) ?_ ?_
                   rotate_left
                   ·intro w'
                    go_simp
                    with_reducible rfl
                   rotate_left
                   ·simp only [Act.put, List.setIfInBounds_toArray, List.set_cons_zero, List.set_cons_succ, i64_w, i32_w]
                    rfl
                   refine pure_ (i := 7) (N := some 71) (v := ?_) (a' := ?_) #[true, true, true, false, true, false, false, true, false, false, false, false, false, false] rfl rfl (any_of HT_.out kx) (fun _ _ _ h => h) (Or.inl ⟨by rfl, ?_⟩) ?_ ?_
                   rotate_left
                   ·intro w'
                    go_simp
                    with_reducible rfl
                   rotate_left
                   ·simp only [Act.put, List.setIfInBounds_toArray, List.set_cons_zero, List.set_cons_succ, i64_w, i32_w]
                    rfl
                   refine take_ (i := 3) (N := some 67) (v := ?_) (a' := ?_) #[true, true, true, true, true, false, false, true, false, false, false, false, false, false] rfl rfl (take_ofW HT_.out HW_.out kx) (fun _ _ _ h => h) (Or.inl ⟨by rfl, ?_⟩) hHeld ?_ ?_
                   rotate_left
                   ·rintro w' ⟨s0, s1, s2, s3, s4, s5, s6, s7, s8, s9⟩
                    go_simp
                    with_reducible rfl
                   rotate_left
                   ·simp only [Act.put, List.setIfInBounds_toArray, List.set_cons_zero, List.set_cons_succ, i64_w, i32_w]
                    rfl
                   refine pure_ (i := 5) (N := some 69) (v := ?_) (a' := ?_) #[true, true, true, true, true, true, false, true, false, false, false, false, false, false] rfl rfl (any_of HT_.out kx) (fun _ _ _ h => h) (Or.inl ⟨by rfl, ?_⟩) ?_ ?_
                   rotate_left
                   ·intro w'
                    go_simp
                    with_reducible rfl
                   rotate_left
                   ·simp only [Act.put, List.setIfInBounds_toArray, List.set_cons_zero, List.set_cons_succ, i64_w, i32_w]
                    rfl
                   refine take_ (i := 6) (N := some 70) (v := ?_) (a' := ?_) #[true, true, true, true, true, true, true, true, false, false, false, false, false, false] rfl rfl (take_ofW HT_.out HW_.out kx) (fun _ _ _ h => h) (Or.inl ⟨by rfl, ?_⟩) hHeld ?_ ?_
                   rotate_left
                   ·rintro w' ⟨s0, s1, s2, s3, s4, s5, s6, s7, s8, s9⟩
                    go_simp
                    with_reducible rfl
                   rotate_left
                   ·simp only [Act.put, List.setIfInBounds_toArray, List.set_cons_zero, List.set_cons_succ, i64_w, i32_w]
                    rfl
                   refine take_ (i := 8) (N := some 72) (v := ?_) (a' := ?_) #[true, true, true, true, true, true, true, true, true, false, false, false, false, false] rfl rfl (take_ofW HT_.out HW_.out kx) (fun _ _ _ h => h) (Or.inl ⟨by rfl, ?_⟩) hHeld ?_ ?_
                   rotate_left
                   ·rintro w' ⟨s0, s1, s2, s3, s4, s5, s6, s7, s8, s9⟩
                    go_simp
                    with_reducible rfl
                   rotate_left
                   ·simp only [Act.put, List.setIfInBounds_toArray, List.set_cons_zero, List.set_cons_succ, i64_w, i32_w]
                    rfl
                   refine pure_ (i := 9) (N := some 73) (v := ?_) (a' := ?_) #[true, true, true, true, true, true, true, true, true, true, false, false, false, false] rfl rfl (any_of HT_.out kx) (fun _ _ _ h => h) (Or.inl ⟨by rfl, ?_⟩) ?_ ?_
                   rotate_left
                   ·intro w'
                    go_simp
                    with_reducible rfl
                   rotate_left
                   ·simp only [Act.put, List.setIfInBounds_toArray, List.set_cons_zero, List.set_cons_succ, i64_w, i32_w]
                    rfl
                   refine pure_ (i := 10) (N := some 74) (v := ?_) (a' := ?_) #[true, true, true, true, true, true, true, true, true, true, true, false, false, false] rfl rfl (any_of HT_.out kx) (fun _ _ _ h => h) (Or.inl ⟨by rfl, ?_⟩) ?_ ?_
                   rotate_left
                   ·intro w'
                    go_simp
                    with_reducible rfl
                   rotate_left
                   ·simp only [Act.put, List.setIfInBounds_toArray, List.set_cons_zero, List.set_cons_succ, i64_w, i32_w]
                    rfl
                   refine one_ (i := 11) (N := some 75) #[true, true, true, true, true, true, true, true, true, true, true, true, false, false] rfl rfl (one_of HT_.out kx) (by decide) (fun K hK => ?_)
                   refine value_ (w1 := ?_) (v := ?_) (by rfl) rfl ?_ ?_
                   rotate_left 2
                   ·go_simp
                    constructor
                    ·rfl
                    ·rfl
                   refine hK.out _ _ ⟨(blk_cell (blk_alloc BK191.out _) 0).trans rfl, (blk_cell (blk_alloc BK191.out _) 1).trans rfl, (blk_cell (blk_alloc BK191.out _) 2).trans rfl, (blk_cell (blk_alloc BK196.out _) 0).trans rfl, (blk_cell (blk_alloc BK196.out _) 1).trans rfl, (blk_cell (blk_alloc BK196.out _) 2).trans rfl, (blk_cell (blk_alloc BK196.out _) 3).trans rfl, (World.cell?_alloc_lt _ _ _ (World.block_lt_of_cell? _ _ (((HB.out.cell (World.block_lt_of_cell? w _ hw202_0)).trans hw202_0)))).trans (((HB.out.cell (World.block_lt_of_cell? w _ hw202_0)).trans hw202_0)), (World.cell?_alloc_lt _ _ _ (World.block_lt_of_cell? _ _ (((HB.out.cell (World.block_lt_of_cell? w _ hw202_1)).trans hw202_1)))).trans (((HB.out.cell (World.block_lt_of_cell? w _ hw202_1)).trans hw202_1)), (World.cell?_alloc_lt _ _ _ (World.block_lt_of_cell? _ _ (((HB.out.cell (World.block_lt_of_cell? w _ hw202_2)).trans hw202_2)))).trans (((HB.out.cell (World.block_lt_of_cell? w _ hw202_2)).trans hw202_2))⟩ (fun hHeld => ?_)
                   clear hK K
                   refine norm_ (a' := ?_) ?_ ?_
                   rotate_left
                   ·show Act.put _ (some 75) _ = _
                    simp only [Act.put, List.setIfInBounds_toArray, List.set_cons_zero, List.set_cons_succ, i64_w, i32_w]
                    rfl
                   refine one_ (i := 12) (N := some 76) #[true, true, true, true, true, true, true, true, true, true, true, true, true, false] rfl rfl (one_of HT_.out kx) (by decide) (fun K hK => ?_)
                   refine Kd.R_append_step (k122 w) (w0 := w) w.heap.size (by rfl) (.tmp 64) (.tmp 75) 64 63 (.agg #[(.int .i64 0), (.int .i64 0), (.slice none 0 0), (.int .i64 0)]) 48 rfl Tryd.underlying64 info122 rfl (show 0 < 4 by decide) (by omega) u3 x3_4 (⟨(rd_T24 ((rd_T122 x3_1 (ji7)).f0.f2) x6_4), wrap64 (((rd_T122 x3_1 (ji7)).f1) + 1)⟩ : S122) [.int .i64 ((rd_T24 ((rd_T122 x3_1 (ji7)).f0.f2) x6_4).f0), .int .i64 ((rd_T24 ((rd_T122 x3_1 (ji7)).f0.f2) x6_4).f1), .slice A202_2 ((rd_T24 ((rd_T122 x3_1 (ji7)).f0.f2) x6_4).f2).length c202_2, .int .i64 (wrap64 (((rd_T122 x3_1 (ji7)).f1) + 1))] (fun k_ => k_ ≠ gb196) (fun _ => False) rfl rfl ?aP (fun _ hk => hk.elim) ?aF ?aO ?aB ?aS ?aL ?_
                   (case aP => exact k122_mkM w _ _ _ (⟨(rd_T24 ((rd_T122 x3_1 (ji7)).f0.f2) x6_4), wrap64 (((rd_T122 x3_1 (ji7)).f1) + 1)⟩ : S122) HC202_2.out HR202_2.out)
                   (case aB => exact be)
                   (case aF => exact (fun k_ hk => Kd.freshB (g := gb196) (o := .cells #[.int .i64 ((rd_T122 x3_1 (ji7)).f0.f0), .int .i64 ((rd_T122 x3_1 (ji7)).f0.f1), .slice (some ad202) ((rd_T122 x3_1 (ji7)).f0.f2).length cI_, .int .i64 ((rd_T122 x3_1 (ji7)).f1)] 63 (0, 0)) (bk BK196) k_ hk))
                   (case aO => exact (by (with_reducible repeat (first | apply Kd.R_alloc | apply Kd.R_drewN | apply Kd.R_drew)); exact HO_3.out))
                   (case aS => exact (below_size be))
                   (case aL => have := LMc45.out; omega)
                   intro v204 w47 ho hb hg hat
                   rw [← Ny203.out] at ho
                   have n0_ := Aside0.mk (blk_grown (g := gb191) (o := .cells #[.int .i64 a0_0, .int .i64 a0_1, .slice A0_2 l0_2.length c0_2] 24 (0, 0)) (bk BK191) hg (Kd.R_ne HO_3.out BK191.out (by decide)))
                   have n1_ := Aside0.mk (blk_grown (g := gb196) (o := .cells #[.int .i64 ((rd_T122 x3_1 (ji7)).f0.f0), .int .i64 ((rd_T122 x3_1 (ji7)).f0.f1), .slice (some ad202) ((rd_T122 x3_1 (ji7)).f0.f2).length cI_, .int .i64 ((rd_T122 x3_1 (ji7)).f1)] 63 (0, 0)) (bk BK196) hg (Kd.R_away HO_3.out (fun _ hk => hk)))
                   have n2_ := Aside0.mk (hb)
                   have n3_ := Aside0.mk (ho)
                   clear BK191
                   clear BK196
                   clear HB
                   clear HO_3
                   have BK191 := n0_
                   have BK196 := n1_
                   have HB := n2_
                   have HO205 := n3_
                   clear n0_ n1_ n2_ n3_
                   clear ho hb hg hat
                   refine hK.out _ _ ⟨(blk_cell BK191.out 0).trans rfl, (blk_cell BK191.out 1).trans rfl, (blk_cell BK191.out 2).trans rfl, (blk_cell BK196.out 0).trans rfl, (blk_cell BK196.out 1).trans rfl, (blk_cell BK196.out 2).trans rfl, (blk_cell BK196.out 3).trans rfl, ((HB.out.cell (World.block_lt_of_cell? w _ hw202_0)).trans hw202_0), ((HB.out.cell (World.block_lt_of_cell? w _ hw202_1)).trans hw202_1), ((HB.out.cell (World.block_lt_of_cell? w _ hw202_2)).trans hw202_2)⟩ (fun hHeld => ?_)
                   clear hK K
                   refine norm_ (a' := ?_) ?_ ?_
                   rotate_left
                   ·show Act.put _ (some 76) _ = _
                    simp only [Act.put, List.setIfInBounds_toArray, List.set_cons_zero, List.set_cons_succ, i64_w, i32_w]
                    rfl
                   refine pure_ (i := 13) (N := some 3) (v := ?_) (a' := ?_) #[true, true, true, true, true, true, true, true, true, true, true, true, true, true] rfl rfl (any_of HT_.out kx) (fun _ _ _ h => h) (Or.inl ⟨by rfl, ?_⟩) ?_ ?_
                   rotate_left
                   ·intro w'
                    go_simp
                    with_reducible rfl
                   rotate_left
                   ·simp only [Act.put, List.setIfInBounds_toArray, List.set_cons_zero, List.set_cons_succ, i64_w, i32_w]
                    rfl
                   refine done_ (done_of HT_.out kx) ?_
                   try go_wp2
                   go_roundg k4
                   case measure => have := HK1.out; have := HJ10.out; have := HJ23.out; have := HK4.out; omega
                   case rel => exact ⟨(y203), (wrap64 (x6_4 - 1)), rs, H', ⟨by have := HK1.out; have := HJ10.out; have := HJ23.out; have := HK4.out; omega⟩, ⟨by (with_reducible repeat (first | apply Kd.R_alloc | apply Kd.R_drewN | apply Kd.R_drew)); exact HO205.out⟩, ⟨bk BK191⟩, ⟨bk BK196⟩, ⟨be⟩⟩
                  ·rw [if_neg c45] at H
                   exact absurd H (by simp)
                 ·rw [if_neg c44] at H
                  exact absurd H (by simp)
                ·rw [if_neg c43] at H
                 exact absurd H (by simp)
               ·rw [if_neg c42] at H
                have c42b0 : decide (0 ≤ x6_4) = false := decide_eq_false c42
                clear c42
                have H' := Aside0.mk H
                clear H
                go_wp2
                go_roundg k4
                case measure => have := HK1.out; have := HJ10.out; have := HJ23.out; have := HK4.out; omega
                case rel => exact ⟨(x3_4), (wrap64 (x4_1 + 1)), rs, H', ⟨by have := HK1.out; have := HJ10.out; have := HJ23.out; have := HK4.out; omega⟩, ⟨by (with_reducible repeat (first | apply Kd.R_alloc | apply Kd.R_drewN | apply Kd.R_drew)); exact Kd.R_mono HO_3.out (fun _ hk => trivial)⟩, ⟨bk BK191⟩, ⟨be⟩⟩
          ·rw [if_neg c23] at H
           have c23b0 : ((((rd_T122 x3_1 (ji7)).f0.f2).length : Int) == t200) = false := beq_eq_false_iff_ne.mpr c23
           have c23b1 : ((((rd_T122 x3_1 (ji7)).f0.f2).length : Int) != t200) = true := bne_iff_ne.mpr c23
           obtain rfl := Option.some.inj H
           try go_wp2
           have n0_ := Aside0.mk (Kd.R_drew HO_3.out)
           have n1_ := Aside0.mk (blk_drew BK191.out)
           have n2_ := Aside0.mk (blk_drew BK196.out)
           have n3_ := Aside0.mk (below_drew1 HB.out)
           clear HO_3
           clear BK191
           clear BK196
           clear HB
           have HO_3 := n0_
           have BK191 := n1_
           have BK196 := n2_
           have HB := n3_
           clear n0_ n1_ n2_ n3_
           refine start_ (n := 9) (S := fun w' => w'.cell? ⟨gb196, 0, none⟩ = some (.int .i64 ((rd_T122 x3_1 (ji7)).f0.f0)) ∧ w'.cell? ⟨gb196, 1, none⟩ = some (.int .i64 ((rd_T122 x3_1 (ji7)).f0.f1)) ∧ w'.cell? ⟨gb196, 2, none⟩ = some (.slice AI_ ((rd_T122 x3_1 (ji7)).f0.f2).length cI_) ∧ w'.cell? ⟨gb196, 3, none⟩ = some (.int .i64 ((rd_T122 x3_1 (ji7)).f1))) (ds := []) #[false, false, false, false, false, false, false, false, false] kx rfl rfl ⟨(blk_cell BK196.out 0).trans rfl, (blk_cell BK196.out 1).trans rfl, (blk_cell BK196.out 2).trans rfl, (blk_cell BK196.out 3).trans rfl⟩ (fun hHeld => ?_); refine with_tabW ephemerisref1_ExprError.tab9 ephemerisref1_ExprError.bits9 (fun HT_ HW_ => ?_)
           generalize wc.drew = w48 at HO_3 BK191 BK196 HB hHeld ⊢
           refine pure_ (i := 0) (N := some 33) (v := ?_) (a' := ?_) #[true, false, false, false, false, false, false, false, false] rfl rfl (any_of HT_.out kx) (fun _ _ _ h => h) (Or.inl ⟨by rfl, ?_⟩) ?_ ?_
           rotate_left
           ·intro w'
            go_simp
            with_reducible rfl
           rotate_left
           ·simp only [Act.put, List.setIfInBounds_toArray, List.set_cons_zero, List.set_cons_succ, i64_w, i32_w]
            rfl
           refine pure_ (i := 1) (N := some 34) (v := ?_) (a' := ?_) #[true, true, false, false, false, false, false, false, false] rfl rfl (any_of HT_.out kx) (fun _ _ _ h => h) (Or.inl ⟨by rfl, ?_⟩) ?_ ?_
           rotate_left
           ·intro w'
            go_simp
            with_reducible rfl
           rotate_left
           ·simp only [Act.put, List.setIfInBounds_toArray, List.set_cons_zero, List.set_cons_succ, i64_w, i32_w]
            rfl
           refine pure_ (i := 4) (N := some 37) (v := ?_) (a' := ?_) #[true, true, false, false, true, false, false, false, false] rfl rfl (any_of HT_.out kx) (fun _ _ _ h => h) (Or.inl ⟨by rfl, ?_⟩) ?_ ?_
           rotate_left
           ·intro w'
            go_simp
            with_reducible rfl
           rotate_left
           ·simp only [Act.put, List.setIfInBounds_toArray, List.set_cons_zero, List.set_cons_succ, i64_w, i32_w]
            rfl
           refine pure_ (i := 5) (N := some 38) (v := ?_) (a' := ?_) #[true, true, false, false, true, true, false, false, false] rfl rfl (any_of HT_.out kx) (fun _ _ _ h => h) (Or.inl ⟨by rfl, ?_⟩) ?_ ?_
           rotate_left
           ·intro w'
            go_simp
            with_reducible rfl
           rotate_left
           ·simp only [Act.put, List.setIfInBounds_toArray, List.set_cons_zero, List.set_cons_succ, i64_w, i32_w]
            rfl
           refine take_ (i := 2) (N := some 35) (v := ?_) (a' := ?_) #[true, true, true, false, true, true, false, false, false] rfl rfl (take_ofW HT_.out HW_.out kx) (fun _ _ _ h => h) (Or.inl ⟨by rfl, ?_⟩) hHeld ?_ ?_
           rotate_left
           ·rintro w' ⟨s0, s1, s2, s3⟩
            go_simp
            with_reducible rfl
           rotate_left
           ·simp only [Act.put, List.setIfInBounds_toArray, List.set_cons_zero, List.set_cons_succ, i64_w, i32_w]
            rfl
           refine pure_ (i := 3) (N := some 36) (v := ?_) (a' := ?_) #[true, true, true, true, true, true, false, false, false] rfl rfl (any_of HT_.out kx) (fun _ _ _ h => h) (Or.inl ⟨by rfl, ?_⟩) ?_ ?_
           rotate_left
           ·intro w'
            go_simp
            with_reducible rfl
           rotate_left
           ·simp only [Act.put, List.setIfInBounds_toArray, List.set_cons_zero, List.set_cons_succ, i64_w, i32_w]
            rfl
           refine take_ (i := 6) (N := some 39) (v := ?_) (a' := ?_) #[true, true, true, true, true, true, true, false, false] rfl rfl (take_ofW HT_.out HW_.out kx) (fun _ _ _ h => h) (Or.inl ⟨by rfl, ?_⟩) hHeld ?_ ?_
           rotate_left
           ·rintro w' ⟨s0, s1, s2, s3⟩
            go_simp
            with_reducible rfl
           rotate_left
           ·simp only [Act.put, List.setIfInBounds_toArray, List.set_cons_zero, List.set_cons_succ, i64_w, i32_w]
            rfl
           refine one_ (i := 7) (N := some 40) #[true, true, true, true, true, true, true, true, false] rfl rfl (one_of HT_.out kx) (by decide) (fun K hK => ?_)
           refine goes_ Tryd.func30 kx rfl #[.int .i64 ((rd_T122 x3_1 (ji7)).f0.f0)] (by rfl) rfl rfl (by (try simp only [List.map_toArray, List.map_cons, List.map_nil]); first | done | (simp only [hji7]; rfl) | rfl | (simp only [List.length_drop, List.length_take]; rfl)) ?_
           with_reducible refine (ephemerisref1_operands.calls kj10 ((rd_T122 x3_1 (ji7)).f0.f0) t200 _ A22.out).mono ?_
           rintro e w' ⟨rfl, ⟨nd, rfl⟩⟩
           refine ⟨_, rfl, ?_⟩
           refine hK.out _ _ ⟨(blk_cell BK196.out 0).trans rfl, (blk_cell BK196.out 1).trans rfl, (blk_cell BK196.out 2).trans rfl, (blk_cell BK196.out 3).trans rfl⟩ (fun hHeld => ?_)
           clear hK K
           refine norm_ (a' := ?_) ?_ ?_
           rotate_left
           ·show Act.put _ (some 40) _ = _
            simp only [Act.put, List.setIfInBounds_toArray, List.set_cons_zero, List.set_cons_succ, i64_w, i32_w]
            rfl
           refine pure_ (i := 8) (N := some 41) (v := ?_) (a' := ?_) #[true, true, true, true, true, true, true, true, true] rfl rfl (any_of HT_.out kx) (fun _ _ _ h => h) (Or.inl ⟨by rfl, ?_⟩) ?_ ?_
           rotate_left
           ·intro w'
            go_simp
            with_reducible rfl
           rotate_left
           ·simp only [Act.put, List.setIfInBounds_toArray, List.set_cons_zero, List.set_cons_succ, i64_w, i32_w]
            rfl
           refine done_ (done_of HT_.out kx) ?_
           try go_wp2
           go_ret
           exact ⟨by first | rfl | (simp [errW_none, errW_some] <;> rfl) | (simp only [← hji7]; first | rfl | (simp [errW_none, errW_some] <;> rfl)) | (simp [*, errW_none, errW_some] <;> rfl), be⟩
      ·rw [if_neg c10] at H
       exact absurd H (by simp)
     ·rw [if_neg c9] at H
      exact absurd H (by simp)
    ·rw [if_neg c8] at H
     exact absurd H (by simp)
   ·rw [if_neg c6] at H
    have c6b0 : decide (0 < (x3_1.length : Int)) = false := decide_eq_false c6
    have c6b1 : decide (0 < x3_1.length) = false := decide_eq_false (by omega)
    clear c6
    obtain rfl := Option.some.inj H
    obtain ⟨Ao49, co49, eo49⟩ := Kd.R_slice HO_3.out
    subst eo49
    go_wp2
    go_ret
    exact ⟨by first | rfl | (simp [errW_none, errW_some] <;> rfl) | (simp [*, errW_none, errW_some] <;> rfl), be⟩

end Go.Proofs.YtgcmclnjnimolaaDoor.PCompileCompiles
