/- The walks of the functions of this part. The proof of sort_SearchInts, rule_Name is written by hand; the other ones are as the kit's print tells them. -/
-- The walks of the law's functions, told by a program.
import Derived.Shelf.SlSorted.Search
import Derived.Test.YtlfammlboncmeaaY
import Derived.Test.YtlfammlboncmeaaPArithLatersx0
namespace Go.Proofs.Ytlfammlboncmeaa.PArithLaters
open Go.RowKit Go.Proofs.YtlfammlboncmeaaW.PrintWords Go.Proofs.YtlfammlboncmeaaW.PrintLast Go.Proofs.YtlfammlboncmeaaW.PrintMore Go.Proofs.Ytlfammlboncmeaa.Y
attribute [local go_sem] max2_int min2_int max_two min_two max_three min_three max_four min_four   -- for this text's walks alone
set_option linter.unusedVariables false
set_option linter.unusedSimpArgs false

/-! ### line_Check: function 55 -/
def line_Check.f (a0 : Int) : Option (Int) := if a0 < (-4000000) then (some 3) else (if a0 > 4000000 then (some 3) else (some 0))
set_option maxHeartbeats 8000000 in
set_option maxRecDepth 100000 in
theorem line_Check.calls (a0 : Int) (r : Int) (w : World) (h : line_Check.f a0 = some r) :
  Calls Try.prog 55 #[.int .i64 a0] w fun e w' => e = .returned (.int .i64 r) ∧ Drawn0 w w' := by
 have H : (if a0 < (-4000000) then (some 3) else (if a0 > 4000000 then (some 3) else (some 0))) = some r := h
 clear h
 by_cases c2 : a0 < (-4000000)
 ·rw [if_pos c2] at H
  have c2b0 : decide (a0 < (-4000000)) = true := decide_eq_true c2
  clear c2
  obtain rfl := Option.some.inj H
  go_enter Try.func55, Try.ntmps55
  go_wp2
  go_ret
  exact ⟨by first | rfl | (simp; done) | (simp [*]; done), by repeat (first | exact Drawn0.refl _ | apply Drawn0.step)⟩
 ·rw [if_neg c2] at H
  have c2b0 : decide (a0 < (-4000000)) = false := decide_eq_false c2
  clear c2
  by_cases c3 : a0 > 4000000
  ·rw [if_pos c3] at H
   have c3b0 : decide (4000000 < a0) = true := decide_eq_true c3
   clear c3
   obtain rfl := Option.some.inj H
   go_enter Try.func55, Try.ntmps55
   go_wp2
   go_ret
   exact ⟨by first | rfl | (simp; done) | (simp [*]; done), by repeat (first | exact Drawn0.refl _ | apply Drawn0.step)⟩
  ·rw [if_neg c3] at H
   have c3b0 : decide (4000000 < a0) = false := decide_eq_false c3
   clear c3
   obtain rfl := Option.some.inj H
   go_enter Try.func55, Try.ntmps55
   go_wp2
   go_ret
   exact ⟨by first | rfl | (simp; done) | (simp [*]; done), by repeat (first | exact Drawn0.refl _ | apply Drawn0.step)⟩

/-! ### whole_Mod: function 95 -/
def whole_Mod.f (a0 : Int) (a1 : Int) : Option (Int) := if a1 = 0 then (none) else (if (Int.tmod a0 a1) < 0 then (some (wrap64 ((Int.tmod a0 a1) + a1))) else (some (Int.tmod a0 a1)))
set_option maxHeartbeats 8000000 in
set_option maxRecDepth 100000 in
theorem whole_Mod.calls (a0 : Int) (a1 : Int) (r : Int) (w : World) (h : whole_Mod.f a0 a1 = some r) :
  Calls Try.prog 95 #[.int .i64 a0, .int .i64 a1] w fun e w' => e = .returned (.int .i64 r) ∧ Drawn0 w w' := by
 have H : (if a1 = 0 then (none) else (if (Int.tmod a0 a1) < 0 then (some (wrap64 ((Int.tmod a0 a1) + a1))) else (some (Int.tmod a0 a1)))) = some r := h
 clear h
 by_cases c3 : a1 = 0
 ·rw [if_pos c3] at H
  exact absurd H (by simp)
 ·rw [if_neg c3] at H
  have c3b0 : (a1 == 0) = false := beq_eq_false_iff_ne.mpr c3
  have c3b1 : (a1 != 0) = true := bne_iff_ne.mpr c3
  by_cases c4 : (Int.tmod a0 a1) < 0
  ·rw [if_pos c4] at H
   have c4b0 : decide ((Int.tmod a0 a1) < 0) = true := decide_eq_true c4
   clear c4
   obtain rfl := Option.some.inj H
   go_enter Try.func95, Try.ntmps95
   go_wp2
   go_ret
   exact ⟨by first | rfl | (simp; done) | (simp [*]; done), by repeat (first | exact Drawn0.refl _ | apply Drawn0.step)⟩
  ·rw [if_neg c4] at H
   have c4b0 : decide ((Int.tmod a0 a1) < 0) = false := decide_eq_false c4
   clear c4
   obtain rfl := Option.some.inj H
   go_enter Try.func95, Try.ntmps95
   go_wp2
   go_ret
   exact ⟨by first | rfl | (simp; done) | (simp [*]; done), by repeat (first | exact Drawn0.refl _ | apply Drawn0.step)⟩

-- NOT PRINTED: function 136 (sort_Search)

/-! ### sort_SearchInts: function 128 -/
/-- Is the list ascending? -/
def sort_SearchInts.asc (l : List Int) : Bool := decide (l.Pairwise (· ≤ ·) ∧ l.length < 4611686018427387904)
/-- How many numbers of an ascending list are less than x. -/
def sort_SearchInts.f (a0 : List Int) (a1 : Int) : Option Int := if sort_SearchInts.asc a0 = true then some ((a0.countP fun y => !decide (a1 ≤ y) : Nat) : Int) else none
def sort_SearchInts.ren : Go.Shelf.Ren := ⟨fun | 14 => 128 | 22 => 137 | 16 => 136 | n => n, fun | 28 => 22 | 3 => 3 | 0 => 0 | 35 => 66 | 4 => 4 | 38 => 166 | n => n, fun | n => n⟩
theorem sort_SearchInts.lays : Go.Proofs.SlLaysO.n14 Try.prog sort_SearchInts.ren := {
 mixed := by kernel_rfl
 f14 := Try.func128.trans (congrArg some kx)
 f16 := Try.func136.trans (congrArg some kx)
 f22 := Try.func137.trans (congrArg some kx)
 t0 := Try.underlying0
 a0 := Try.isAgg0
 z0 := Try.sizeOf0
 v0 := Try.zeroValue0
 t3 := Try.underlying3
 a3 := Try.isAgg3
 z3 := Try.sizeOf3
 v3 := Try.zeroValue3
 t4 := Try.underlying4
 a4 := Try.isAgg4
 z4 := Try.sizeOf4
 v4 := Try.zeroValue4
 t28 := Try.underlying22
 a28 := Try.isAgg22
 z28 := Try.sizeOf22
 v28 := Try.zeroValue22
 t35 := Try.underlying66
 a35 := Try.isAgg66
 z35 := Try.sizeOf66
 v35 := Try.zeroValue66
 t38 := Try.underlying166
 a38 := Try.isAgg166
 z38 := Try.sizeOf166
 v38 := Try.zeroValue166 }
theorem sort_SearchInts.calls (A0 : Option Addr) (c0 : Nat) (l0 : List Int) (a1 : Int) (r : Int) (w : World) (hr0 : Kd.C (Kd.int .i64) w A0 l0.length l0) (hc0 : l0.length ≤ c0) (h : sort_SearchInts.f l0 a1 = some r) :
  Calls Try.prog 128 #[.slice A0 l0.length c0, .int .i64 a1] w fun e w' => e = .returned (.int .i64 r) ∧ Below w.heap.size w w' := by
 unfold sort_SearchInts.f at h
 by_cases ha : sort_SearchInts.asc l0 = true
 ·rw [if_pos ha] at h
  obtain rfl := Option.some.inj h
  obtain ⟨hasc, hlong⟩ : l0.Pairwise (· ≤ ·) ∧ l0.length < 4611686018427387904 := of_decide_eq_true ha
  clear h ha
  by_cases hl : l0.length = 0
  ·obtain rfl : l0 = [] := List.length_eq_zero_iff.1 hl
   exact Go.Proofs.Any.sort_SearchInts_none sort_SearchInts.lays A0 c0 a1 w
  ·obtain ⟨_, hbig, hne⟩ := hr0
   obtain ⟨ad, rfl, hc⟩ := hne (by omega)
   have cell : ∀ i (hi : i < l0.length), w.cell? (ad.add i) = some (.int .i64 l0[i]) := by
    intro i hi
    obtain ⟨c, hs, hk, hcell⟩ := hc i _ (List.getElem?_eq_getElem hi)
    have hk' : c = [.int .i64 l0[i]] := hk
    have := hcell 0 (.int .i64 l0[i]) (by rw [hk']; rfl)
    have e1 : (Kd.int IntKind.i64).sz = 1 := rfl
    rw [e1, Nat.mul_one, Nat.add_zero] at this
    exact this
   obtain ⟨b, o, sp⟩ := ad
   have c0' := cell 0 (by omega)
   have hsp : sp = none := by
    cases sp with
    | none => rfl
    | some q =>
     exfalso
     have : w.cell? ⟨b, o, some q⟩ = none := by
      unfold World.cell?
      split
      ·simp
      ·rfl
     rw [show (Addr.add ⟨b, o, some q⟩ 0 : Addr) = ⟨b, o, some q⟩ from rfl, this] at c0'
     cases c0'
   subst hsp
   have hadd : ∀ i, (Addr.add ⟨b, o, none⟩ i : Addr) = ⟨b, o + i, none⟩ := by
    intro i
    unfold Addr.add
    split
    ·rename_i h0; rw [h0]; rfl
    ·rfl
   have hsz : l0.toArray.size = l0.length := by simp
   have hget : ∀ i (hi : i < l0.length), l0.toArray[i]! = l0[i] := by
    intro i hi
    rw [getElem!_pos l0.toArray i (by simpa using hi)]; simp
   have hC := Go.Proofs.Any.sort_SearchInts sort_SearchInts.lays b o c0 l0.toArray a1 w
    (fun i hi => by
     rw [hsz] at hi
     rw [hget i hi, ← hadd]; exact cell i hi)
    (by have := World.block_lt_of_cell? w _ c0'; exact this)
    (by rw [hsz]; exact hlong)
    (fun a b' hab hb hx => by
     rw [hsz] at hb
     have h1 := of_decide_eq_true hx
     rw [hget a (by omega)] at h1
     rw [hget b' hb]
     refine decide_eq_true ?_
     by_cases e : a = b'
     ·subst e; exact h1
     ·have := List.pairwise_iff_getElem.1 hasc a b' (by omega) hb (by omega)
      omega)
   rw [hsz] at hC
   exact hC
 ·rw [if_neg ha] at h; cases h

/-! ### arith_leap: function 103 -/
def arith_leap.f (a0_0 : ByteArray) (a0_1 : Int) (a0_2 : Int) (l0_3 : List (S125)) (l0_4 : List Int) (a1 : Int) : Option (Bool) := (whole_Mod.f (wrap64 (a1 - 1)) a0_2).bind fun t105 => ((sort_SearchInts.f l0_4 (wrap64 (t105 + 1))).bind fun t106 => (if t106 < (l0_4.length : Int) then (if 0 ≤ t106 then (some ((rd l0_4 t106) == (wrap64 (t105 + 1)))) else (none)) else (some false)))
set_option maxHeartbeats 8000000 in
set_option maxRecDepth 100000 in
theorem arith_leap.calls (a0_0 : ByteArray) (a0_1 : Int) (a0_2 : Int) (A0_3 : Option Addr) (c0_3 : Nat) (l0_3 : List (S125)) (A0_4 : Option Addr) (c0_4 : Nat) (l0_4 : List Int) (a1 : Int) (r : Bool) (w : World) (hr0_3 : Kd.C k125 w A0_3 l0_3.length l0_3) (hc0_3 : l0_3.length ≤ c0_3) (hr0_4 : Kd.C (Kd.int .i64) w A0_4 l0_4.length l0_4) (hc0_4 : l0_4.length ≤ c0_4) (h : arith_leap.f a0_0 a0_1 a0_2 l0_3 l0_4 a1 = some r) :
  Calls Try.prog 103 #[.agg #[.string a0_0, .int .i64 a0_1, .int .i64 a0_2, .slice A0_3 l0_3.length c0_3, .slice A0_4 l0_4.length c0_4], .int .i64 a1] w fun e w' => e = .returned (.bool r) ∧ Below w.heap.size w w' := by
 have hu44 := Try.underlying44
 have HR0_3 := Aside0.mk hr0_3
 have HC0_3 := Aside0.mk hc0_3
 clear hr0_3 hc0_3
 have HR0_4 := Aside0.mk hr0_4
 have HC0_4 := Aside0.mk hc0_4
 clear hr0_4 hc0_4
 have HB := Aside0.mk (Below.refl w.heap.size w)
 have H : ((whole_Mod.f (wrap64 (a1 - 1)) a0_2).bind fun t105 => ((sort_SearchInts.f l0_4 (wrap64 (t105 + 1))).bind fun t106 => (if t106 < (l0_4.length : Int) then (if 0 ≤ t106 then (some ((rd l0_4 t106) == (wrap64 (t105 + 1)))) else (none)) else (some false)))) = some r := h
 clear h
 replace H := Option.bind_eq_some_iff.mp H
 obtain ⟨t105, A30, H⟩ := H
 replace H : ((sort_SearchInts.f l0_4 (wrap64 (t105 + 1))).bind fun t106 => (if t106 < (l0_4.length : Int) then (if 0 ≤ t106 then (some ((rd l0_4 t106) == (wrap64 (t105 + 1)))) else (none)) else (some false))) = some r := H
 have A3 := Aside0.mk A30
 clear A30
 replace H := Option.bind_eq_some_iff.mp H
 obtain ⟨t106, A40, H⟩ := H
 replace H : (if t106 < (l0_4.length : Int) then (if 0 ≤ t106 then (some ((rd l0_4 t106) == (wrap64 (t105 + 1)))) else (none)) else (some false)) = some r := H
 have A4 := Aside0.mk A40
 clear A40
 by_cases c5 : t106 < (l0_4.length : Int)
 ·rw [if_pos c5] at H
  have c5b0 : decide (t106 < (l0_4.length : Int)) = true := decide_eq_true c5
  clear c5
  by_cases c6 : 0 ≤ t106
  ·rw [if_pos c6] at H
   have c6b0 : decide (0 ≤ t106) = true := decide_eq_true c6
   clear c6
   obtain rfl := Option.some.inj H
   go_enter Try.func103, Try.ntmps103
   go_wp2_with (first | ((with_reducible refine gate_dst (N := 2) rfl ?_); refine box_event ?hg (N := 2) ?hd (cs := #[.string a0_0, .int .i64 a0_1, .int .i64 a0_2, .slice A0_3 l0_3.length c0_3, .slice A0_4 l0_4.length c0_4]) (t := 44) ?hr ?_; (case hd => rfl); (case hg => rfl); (case hr => first | (go_simp; done) | (go_simp; rfl)); intro gb104 hg w7 hbox hb; have n0_ := Aside0.mk (below_step be hb); have n1_ := Aside0.mk (hbox); have n2_ := gs hg HB; have n3_ := n2_; clear HB; have HB := n0_; have BK104 := n1_; have GW104 := n2_; have GE104 := n3_; clear n0_ n1_ n2_ n3_; clear hb hbox hg; obtain ⟨hcz8_0, hcz8_1, hcz8_2, hcz8_3, hcz8_4, hfz8_0, hfz8_1, hfz8_2, hfz8_3, hfz8_4⟩ := bc5 BK104) | ((with_reducible refine gate_callee (f := 95) rfl ?_); refine goesL_ (some 11) rfl rfl Try.func95 kx rfl #[.int .i64 (wrap64 (a1 - 1)), .int .i64 a0_2] rfl aa ?_; (with_reducible refine (whole_Mod.calls (wrap64 (a1 - 1)) a0_2 t105 _ A3.out).mono ?_); rintro e w' ⟨rfl, ⟨nd, rfl⟩⟩; refine ⟨_, rfl, ?_⟩) | ((with_reducible refine gate_callee (f := 128) rfl ?_); refine goesL_ (some 16) rfl rfl Try.func128 kx rfl #[.slice A0_4 l0_4.length c0_4, .int .i64 (wrap64 (t105 + 1))] rfl aa ?_; (with_reducible refine (sort_SearchInts.calls _ _ l0_4 (wrap64 (t105 + 1)) t106 _ ?side1 ?side2 A4.out).mono ?_); (case side1 => repeat (first | exact (Kd.C_below HR0_4.out be) | (with_reducible refine Kd.C_alloc ?_ _) | (with_reducible refine Kd.C_drewN ?_ _) | (with_reducible refine Kd.C_drew ?_))); (case side2 => exact HC0_4.out); rintro e w9 ⟨rfl, hb⟩; refine ⟨_, rfl, ?_⟩; have n0_ := bb BK104 hb; have n1_ := Aside0.mk (below_step be hb); clear BK104; clear HB; have BK104 := n0_; have HB := n1_; clear n0_ n1_; (try clear hb); (try clear hb2); (try clear hk); (try clear hi); obtain ⟨hcz10_0, hcz10_1, hcz10_2, hcz10_3, hcz10_4, hfz10_0, hfz10_1, hfz10_2, hfz10_3, hfz10_4⟩ := bc5 BK104; have p107 : 0 ≤ (t106 : Int) := of_decide_eq_true ka; have q107 : t106 < (l0_4.length : Int) := of_decide_eq_true ka; obtain ⟨ad107, e107, hx107_0⟩ := Kd.at_int HR0_4.out t106 p107 q107; cases e107; replace hx107_0 := (HB.out.cell (World.block_lt_of_cell? w _ hx107_0)).trans hx107_0; replace p107 := eq_true p107; replace q107 := eq_true q107))
   go_ret
   exact ⟨by first | rfl | (simp [errW_none, errW_some] <;> rfl) | (simp [*, errW_none, errW_some] <;> rfl), be⟩
  ·rw [if_neg c6] at H
   exact absurd H (by simp)
 ·rw [if_neg c5] at H
  have c5b0 : decide (t106 < (l0_4.length : Int)) = false := decide_eq_false c5
  clear c5
  obtain rfl := Option.some.inj H
  go_enter Try.func103, Try.ntmps103
  go_wp2_with (first | ((with_reducible refine gate_dst (N := 2) rfl ?_); refine box_event ?hg (N := 2) ?hd (cs := #[.string a0_0, .int .i64 a0_1, .int .i64 a0_2, .slice A0_3 l0_3.length c0_3, .slice A0_4 l0_4.length c0_4]) (t := 44) ?hr ?_; (case hd => rfl); (case hg => rfl); (case hr => first | (go_simp; done) | (go_simp; rfl)); intro gb104 hg w11 hbox hb; have n0_ := Aside0.mk (below_step be hb); have n1_ := Aside0.mk (hbox); have n2_ := gs hg HB; have n3_ := n2_; clear HB; have HB := n0_; have BK104 := n1_; have GW104 := n2_; have GE104 := n3_; clear n0_ n1_ n2_ n3_; clear hb hbox hg; obtain ⟨hcz12_0, hcz12_1, hcz12_2, hcz12_3, hcz12_4, hfz12_0, hfz12_1, hfz12_2, hfz12_3, hfz12_4⟩ := bc5 BK104) | ((with_reducible refine gate_callee (f := 95) rfl ?_); refine goesL_ (some 11) rfl rfl Try.func95 kx rfl #[.int .i64 (wrap64 (a1 - 1)), .int .i64 a0_2] rfl aa ?_; (with_reducible refine (whole_Mod.calls (wrap64 (a1 - 1)) a0_2 t105 _ A3.out).mono ?_); rintro e w' ⟨rfl, ⟨nd, rfl⟩⟩; refine ⟨_, rfl, ?_⟩) | ((with_reducible refine gate_callee (f := 128) rfl ?_); refine goesL_ (some 16) rfl rfl Try.func128 kx rfl #[.slice A0_4 l0_4.length c0_4, .int .i64 (wrap64 (t105 + 1))] rfl aa ?_; (with_reducible refine (sort_SearchInts.calls _ _ l0_4 (wrap64 (t105 + 1)) t106 _ ?side1 ?side2 A4.out).mono ?_); (case side1 => repeat (first | exact (Kd.C_below HR0_4.out be) | (with_reducible refine Kd.C_alloc ?_ _) | (with_reducible refine Kd.C_drewN ?_ _) | (with_reducible refine Kd.C_drew ?_))); (case side2 => exact HC0_4.out); rintro e w13 ⟨rfl, hb⟩; refine ⟨_, rfl, ?_⟩; have n0_ := bb BK104 hb; have n1_ := Aside0.mk (below_step be hb); clear BK104; clear HB; have BK104 := n0_; have HB := n1_; clear n0_ n1_; (try clear hb); (try clear hb2); (try clear hk); (try clear hi); obtain ⟨hcz14_0, hcz14_1, hcz14_2, hcz14_3, hcz14_4, hfz14_0, hfz14_1, hfz14_2, hfz14_3, hfz14_4⟩ := bc5 BK104))
  go_ret
  exact ⟨by first | rfl | (simp [errW_none, errW_some] <;> rfl) | (simp [*, errW_none, errW_some] <;> rfl), be⟩

/-! ### arith_month: function 64 -/
def arith_month.f (a0_0 : ByteArray) (a0_1 : Int) (a0_2 : Int) (l0_3 : List (S125)) (l0_4 : List Int) (a1 : Int) (a2 : Int) : Option (Int) := (arith_leap.f a0_0 a0_1 a0_2 l0_3 l0_4 a1).bind fun t109 => (if t109 = true then (if 0 ≤ (wrap64 (a2 - 1)) then (if (wrap64 (a2 - 1)) < (l0_3.length : Int) then (some ((rd_T125 l0_3 (wrap64 (a2 - 1))).f2)) else (none)) else (none)) else (if 0 ≤ (wrap64 (a2 - 1)) then (if (wrap64 (a2 - 1)) < (l0_3.length : Int) then (some ((rd_T125 l0_3 (wrap64 (a2 - 1))).f1)) else (none)) else (none)))
set_option maxHeartbeats 8000000 in
set_option maxRecDepth 100000 in
theorem arith_month.calls (a0_0 : ByteArray) (a0_1 : Int) (a0_2 : Int) (A0_3 : Option Addr) (c0_3 : Nat) (l0_3 : List (S125)) (A0_4 : Option Addr) (c0_4 : Nat) (l0_4 : List Int) (a1 : Int) (a2 : Int) (r : Int) (w : World) (hr0_3 : Kd.C k125 w A0_3 l0_3.length l0_3) (hc0_3 : l0_3.length ≤ c0_3) (hr0_4 : Kd.C (Kd.int .i64) w A0_4 l0_4.length l0_4) (hc0_4 : l0_4.length ≤ c0_4) (h : arith_month.f a0_0 a0_1 a0_2 l0_3 l0_4 a1 a2 = some r) :
  Calls Try.prog 64 #[.agg #[.string a0_0, .int .i64 a0_1, .int .i64 a0_2, .slice A0_3 l0_3.length c0_3, .slice A0_4 l0_4.length c0_4], .int .i64 a1, .int .i64 a2] w fun e w' => e = .returned (.int .i64 r) ∧ Below w.heap.size w w' := by
 have hu44 := Try.underlying44
 have HR0_3 := Aside0.mk hr0_3
 have HC0_3 := Aside0.mk hc0_3
 clear hr0_3 hc0_3
 have HR0_4 := Aside0.mk hr0_4
 have HC0_4 := Aside0.mk hc0_4
 clear hr0_4 hc0_4
 have HB := Aside0.mk (Below.refl w.heap.size w)
 have H : ((arith_leap.f a0_0 a0_1 a0_2 l0_3 l0_4 a1).bind fun t109 => (if t109 = true then (if 0 ≤ (wrap64 (a2 - 1)) then (if (wrap64 (a2 - 1)) < (l0_3.length : Int) then (some ((rd_T125 l0_3 (wrap64 (a2 - 1))).f2)) else (none)) else (none)) else (if 0 ≤ (wrap64 (a2 - 1)) then (if (wrap64 (a2 - 1)) < (l0_3.length : Int) then (some ((rd_T125 l0_3 (wrap64 (a2 - 1))).f1)) else (none)) else (none)))) = some r := h
 clear h
 replace H := Option.bind_eq_some_iff.mp H
 obtain ⟨t109, A40, H⟩ := H
 replace H : (if t109 = true then (if 0 ≤ (wrap64 (a2 - 1)) then (if (wrap64 (a2 - 1)) < (l0_3.length : Int) then (some ((rd_T125 l0_3 (wrap64 (a2 - 1))).f2)) else (none)) else (none)) else (if 0 ≤ (wrap64 (a2 - 1)) then (if (wrap64 (a2 - 1)) < (l0_3.length : Int) then (some ((rd_T125 l0_3 (wrap64 (a2 - 1))).f1)) else (none)) else (none))) = some r := H
 have A4 := Aside0.mk A40
 clear A40
 by_cases c5 : t109 = true
 ·subst c5
  have H1 : (if 0 ≤ (wrap64 (a2 - 1)) then (if (wrap64 (a2 - 1)) < (l0_3.length : Int) then (some ((rd_T125 l0_3 (wrap64 (a2 - 1))).f2)) else (none)) else (none)) = some r := by rw [if_pos rfl] at H; exact H
  clear H
  have H := H1
  clear H1
  obtain ⟨ji6, hji6⟩ : ∃ j_ : Int, (wrap64 (a2 - 1)) = j_ := ⟨_, rfl⟩
  replace H : (if 0 ≤ (ji6) then (if (ji6) < (l0_3.length : Int) then (some ((rd_T125 l0_3 (ji6)).f2)) else (none)) else (none)) = some r := by first | (rw [hji6] at H; exact H) | (simp only [hji6] at H ⊢; exact H)
  (try rw [hji6] at A4)
  have hji6w : (IntKind.i64.wrap (a2 - 1)) = ji6 := (i64_w _).trans hji6
  by_cases c7 : 0 ≤ (ji6)
  ·rw [if_pos c7] at H
   have c7b0 : decide (0 ≤ (ji6)) = true := decide_eq_true c7
   clear c7
   by_cases c8 : (ji6) < (l0_3.length : Int)
   ·rw [if_pos c8] at H
    have c8b0 : decide ((ji6) < (l0_3.length : Int)) = true := decide_eq_true c8
    clear c8
    obtain rfl := Option.some.inj H
    go_enter Try.func64, Try.ntmps64
    go_wp2_with (first | ((with_reducible refine gate_dst (N := 3) rfl ?_); refine box_event ?hg (N := 3) ?hd (cs := #[.string a0_0, .int .i64 a0_1, .int .i64 a0_2, .slice A0_3 l0_3.length c0_3, .slice A0_4 l0_4.length c0_4]) (t := 44) ?hr ?_; (case hd => rfl); (case hg => rfl); (case hr => first | (go_simp; done) | (go_simp; rfl)); intro gb108 hg w9 hbox hb; have n0_ := Aside0.mk (below_step be hb); have n1_ := Aside0.mk (hbox); have n2_ := gs hg HB; have n3_ := n2_; clear HB; have HB := n0_; have BK108 := n1_; have GW108 := n2_; have GE108 := n3_; clear n0_ n1_ n2_ n3_; clear hb hbox hg; obtain ⟨hcz10_0, hcz10_1, hcz10_2, hcz10_3, hcz10_4, hfz10_0, hfz10_1, hfz10_2, hfz10_3, hfz10_4⟩ := bc5 BK108) | ((with_reducible refine gate_callee (f := 103) rfl ?_); refine goesL_ (some 9) rfl rfl Try.func103 kx rfl #[.agg #[.string a0_0, .int .i64 a0_1, .int .i64 a0_2, .slice A0_3 l0_3.length c0_3, .slice A0_4 l0_4.length c0_4], .int .i64 a1] rfl aa ?_; (with_reducible refine (arith_leap.calls a0_0 a0_1 a0_2 _ _ l0_3 _ _ l0_4 a1 true _ ?side1 ?side2 ?side3 ?side4 A4.out).mono ?_); (case side1 => exact kc (Kd.C_below HR0_3.out HB.out)); (case side2 => exact HC0_3.out); (case side3 => exact kc (Kd.C_below HR0_4.out HB.out)); (case side4 => exact HC0_4.out); rintro e w11 ⟨rfl, hb⟩; refine ⟨_, rfl, ?_⟩; have n0_ := bb BK108 hb; have n1_ := Aside0.mk (below_step be hb); clear BK108; clear HB; have BK108 := n0_; have HB := n1_; clear n0_ n1_; (try clear hb); (try clear hb2); (try clear hk); (try clear hi); obtain ⟨hcz12_0, hcz12_1, hcz12_2, hcz12_3, hcz12_4, hfz12_0, hfz12_1, hfz12_2, hfz12_3, hfz12_4⟩ := bc5 BK108; have p110 : 0 ≤ ((ji6) : Int) := of_decide_eq_true ka; have q110 : (ji6) < (l0_3.length : Int) := of_decide_eq_true ka; obtain ⟨ad110, e110, hx110_0, hx110_1, hx110_2⟩ := at_T125 HR0_3.out (ji6) p110 q110; cases e110; replace hx110_0 := (HB.out.cell (World.block_lt_of_cell? w _ hx110_0)).trans hx110_0; replace hx110_1 := (HB.out.cell (World.block_lt_of_cell? w _ hx110_1)).trans hx110_1; replace hx110_2 := (HB.out.cell (World.block_lt_of_cell? w _ hx110_2)).trans hx110_2; replace p110 := eq_true p110; replace q110 := eq_true q110))
    go_ret
    exact ⟨by first | rfl | (simp [errW_none, errW_some] <;> rfl) | (simp only [← hji6]; first | rfl | (simp [errW_none, errW_some] <;> rfl)) | (simp [*, errW_none, errW_some] <;> rfl), be⟩
   ·rw [if_neg c8] at H
    exact absurd H (by simp)
  ·rw [if_neg c7] at H
   exact absurd H (by simp)
 ·replace c5 := Bool.eq_false_iff.mpr c5
  subst c5
  have H1 : (if 0 ≤ (wrap64 (a2 - 1)) then (if (wrap64 (a2 - 1)) < (l0_3.length : Int) then (some ((rd_T125 l0_3 (wrap64 (a2 - 1))).f1)) else (none)) else (none)) = some r := by rw [if_neg (show ¬ (false = true) by decide)] at H; exact H
  clear H
  have H := H1
  clear H1
  obtain ⟨ji13, hji13⟩ : ∃ j_ : Int, (wrap64 (a2 - 1)) = j_ := ⟨_, rfl⟩
  replace H : (if 0 ≤ (ji13) then (if (ji13) < (l0_3.length : Int) then (some ((rd_T125 l0_3 (ji13)).f1)) else (none)) else (none)) = some r := by first | (rw [hji13] at H; exact H) | (simp only [hji13] at H ⊢; exact H)
  (try rw [hji13] at A4)
  have hji13w : (IntKind.i64.wrap (a2 - 1)) = ji13 := (i64_w _).trans hji13
  by_cases c14 : 0 ≤ (ji13)
  ·rw [if_pos c14] at H
   have c14b0 : decide (0 ≤ (ji13)) = true := decide_eq_true c14
   clear c14
   by_cases c15 : (ji13) < (l0_3.length : Int)
   ·rw [if_pos c15] at H
    have c15b0 : decide ((ji13) < (l0_3.length : Int)) = true := decide_eq_true c15
    clear c15
    obtain rfl := Option.some.inj H
    go_enter Try.func64, Try.ntmps64
    go_wp2_with (first | ((with_reducible refine gate_dst (N := 3) rfl ?_); refine box_event ?hg (N := 3) ?hd (cs := #[.string a0_0, .int .i64 a0_1, .int .i64 a0_2, .slice A0_3 l0_3.length c0_3, .slice A0_4 l0_4.length c0_4]) (t := 44) ?hr ?_; (case hd => rfl); (case hg => rfl); (case hr => first | (go_simp; done) | (go_simp; rfl)); intro gb108 hg w16 hbox hb; have n0_ := Aside0.mk (below_step be hb); have n1_ := Aside0.mk (hbox); have n2_ := gs hg HB; have n3_ := n2_; clear HB; have HB := n0_; have BK108 := n1_; have GW108 := n2_; have GE108 := n3_; clear n0_ n1_ n2_ n3_; clear hb hbox hg; obtain ⟨hcz17_0, hcz17_1, hcz17_2, hcz17_3, hcz17_4, hfz17_0, hfz17_1, hfz17_2, hfz17_3, hfz17_4⟩ := bc5 BK108) | ((with_reducible refine gate_callee (f := 103) rfl ?_); refine goesL_ (some 9) rfl rfl Try.func103 kx rfl #[.agg #[.string a0_0, .int .i64 a0_1, .int .i64 a0_2, .slice A0_3 l0_3.length c0_3, .slice A0_4 l0_4.length c0_4], .int .i64 a1] rfl aa ?_; (with_reducible refine (arith_leap.calls a0_0 a0_1 a0_2 _ _ l0_3 _ _ l0_4 a1 false _ ?side1 ?side2 ?side3 ?side4 A4.out).mono ?_); (case side1 => exact kc (Kd.C_below HR0_3.out HB.out)); (case side2 => exact HC0_3.out); (case side3 => exact kc (Kd.C_below HR0_4.out HB.out)); (case side4 => exact HC0_4.out); rintro e w18 ⟨rfl, hb⟩; refine ⟨_, rfl, ?_⟩; have n0_ := bb BK108 hb; have n1_ := Aside0.mk (below_step be hb); clear BK108; clear HB; have BK108 := n0_; have HB := n1_; clear n0_ n1_; (try clear hb); (try clear hb2); (try clear hk); (try clear hi); obtain ⟨hcz19_0, hcz19_1, hcz19_2, hcz19_3, hcz19_4, hfz19_0, hfz19_1, hfz19_2, hfz19_3, hfz19_4⟩ := bc5 BK108; have p111 : 0 ≤ ((ji13) : Int) := of_decide_eq_true ka; have q111 : (ji13) < (l0_3.length : Int) := of_decide_eq_true ka; obtain ⟨ad111, e111, hx111_0, hx111_1, hx111_2⟩ := at_T125 HR0_3.out (ji13) p111 q111; cases e111; replace hx111_0 := (HB.out.cell (World.block_lt_of_cell? w _ hx111_0)).trans hx111_0; replace hx111_1 := (HB.out.cell (World.block_lt_of_cell? w _ hx111_1)).trans hx111_1; replace hx111_2 := (HB.out.cell (World.block_lt_of_cell? w _ hx111_2)).trans hx111_2; replace p111 := eq_true p111; replace q111 := eq_true q111))
    go_ret
    exact ⟨by first | rfl | (simp [errW_none, errW_some] <;> rfl) | (simp only [← hji13]; first | rfl | (simp [errW_none, errW_some] <;> rfl)) | (simp [*, errW_none, errW_some] <;> rfl), be⟩
   ·rw [if_neg c15] at H
    exact absurd H (by simp)
  ·rw [if_neg c14] at H
   exact absurd H (by simp)

/-! ### rule_Name: function 83 -/
/-- All bytes are letters. -/
def rule_Name.all (l : List UInt8) : Bool := l.all fun c => decide (97 ≤ (c.toNat : Int)) && decide ((c.toNat : Int) ≤ 122)
def rule_Name.f (a0 : ByteArray) : Option (Bool) := some (if (a0.size : Int) < 1 then false else if (a0.size : Int) > 12 then false else if a0.toList = ([121] : List UInt8) then false else if a0.toList = ([97, 110, 100] : List UInt8) then false else if a0.toList = ([111, 114] : List UInt8) then false else if a0.toList = ([110, 111, 116] : List UInt8) then false else rule_Name.all a0.data.toList)
theorem rule_Name.below_bytes (w W : World) (e : TypeId) (s : ByteArray) (h : Below w.heap.size w W) : Below w.heap.size w (Go.Lib.bytesWorld W e s) := by
 have hs := h.size
 refine ⟨?_, ?_, ?_, ?_, ?_⟩
 ·exact h.os
 ·exact h.tape
 ·exact h.output
 ·rw [Go.Lib.bytesWorld_size]; omega
 ·intro j hj
  rw [Go.Lib.bytesWorld_at_old _ _ _ _ (by omega)]
  exact h.block j hj
theorem rule_Name.all_step (s : ByteArray) (n c : Nat) (r : Bool) (hn : n < s.size) (hc : (s.data.toList.getD n 0).toNat = c) (h : rule_Name.all (s.data.toList.drop n) = r) :
  r = (decide (97 ≤ (c : Int)) && decide ((c : Int) ≤ 122) && rule_Name.all (s.data.toList.drop (n + 1))) := by
 have hl : n < s.data.toList.length := by rw [Array.length_toList]; exact hn
 rw [List.drop_eq_getElem_cons hl] at h
 have e : s.data.toList.getD n 0 = s.data.toList[n] := by rw [List.getD_eq_getElem?_getD, List.getElem?_eq_getElem hl]; rfl
 rw [e] at hc
 rw [← h, ← hc]
 simp only [rule_Name.all, List.all_cons]
set_option maxHeartbeats 8000000 in
set_option maxRecDepth 100000 in
theorem rule_Name.late (a0 : ByteArray) (r : Bool) (w : World) (h : Aside0 (rule_Name.all a0.data.toList = r)) (c1 : decide ((a0.size : Int) < 1) = false) (c2 : decide (12 < (a0.size : Int)) = false)
  (c3 : (a0.toList == ([121] : List UInt8)) = false) (c4 : (a0.toList == ([97, 110, 100] : List UInt8)) = false) (c5 : (a0.toList == ([111, 114] : List UInt8)) = false) (c6 : (a0.toList == ([110, 111, 116] : List UInt8)) = false) :
  Calls Try.prog 83 #[.string a0] w fun e w' => e = .returned (.bool r) ∧ Below w.heap.size w w' := by
 have hconv := fun (W : World) => Go.Lib.run_convert_string_bytes (P := Try.prog) W 9 168 5 a0 Try.underlying9 Try.underlying168 Try.underlying5
 go_enter Try.func83, Try.ntmps83
 go_wp2
 repeat (go_quiet (fail); try go_wp2)
 go_loopg [32] (a0.size + 1) (fun kq v32 w' => ∃ (n : Nat), v32 = .int .i64 n ∧ Aside0 (n ≤ a0.size) ∧ Aside0 (rule_Name.all (a0.data.toList.drop n) = r) ∧ Aside0 (a0.size - n < kq) ∧ Aside0 (∀ j, j < a0.size → w'.cell? ⟨w.heap.size, j, none⟩ = some (.int .u8 (a0.data.toList.getD j 0).toNat)) ∧ Aside0 (Below w.heap.size w w'))
 case atStart => exact ⟨0, rfl, ⟨Nat.zero_le _⟩, h, ⟨by omega⟩, ⟨fun j hj => Go.Lib.bytesWorld_cell _ _ _ _ hj⟩, ⟨rule_Name.below_bytes _ _ _ _ (Below.refl _ _)⟩⟩
 case round =>
  obtain ⟨n, rfl, hn, ha, hk, hcell, HB⟩ := hrel
  cases gk with
  | zero => exact absurd hk.out (by omega)
  | succ k1 =>
   by_cases hlt : n < a0.size
   ·have hx := hcell.out n hlt
    have h0 : decide ((n : Int) < (a0.size : Int)) = true := decide_eq_true (by omega)
    obtain ⟨c, hc⟩ : ∃ c : Nat, (a0.data.toList.getD n 0).toNat = c := ⟨_, rfl⟩
    have hs := rule_Name.all_step a0 n c r hlt hc ha.out
    rw [hc] at hx
    clear ha hc
    have hsz : (a0.size : Int) ≤ 12 := by simpa using c2
    by_cases hA : (c : Int) < 97
    ·have d1 : decide ((c : Int) < 97) = true := decide_eq_true hA
     have hr : r = false := by rw [hs, decide_eq_false (by omega)]; rfl
     subst hr
     clear hs hA
     go_wp2
     go_ret
     exact ⟨rfl, HB.out⟩
    ·have d1 : decide ((c : Int) < 97) = false := decide_eq_false hA
     by_cases hZ : (c : Int) > 122
     ·have d2 : decide (122 < (c : Int)) = true := decide_eq_true hZ
      have hr : r = false := by rw [hs, decide_eq_false (show ¬ (c : Int) ≤ 122 by omega)]; simp
      subst hr
      clear hs hA hZ
      go_wp2
      go_ret
      exact ⟨rfl, HB.out⟩
     ·have d2 : decide (122 < (c : Int)) = false := decide_eq_false hZ
      have hr : Aside0 (rule_Name.all (a0.data.toList.drop (n + 1)) = r) := ⟨by rw [hs, decide_eq_true (show 97 ≤ (c : Int) by omega), decide_eq_true (show (c : Int) ≤ 122 by omega)]; rfl⟩
      clear hs hA hZ
      go_wp2
      go_roundg k1
      case measure => omega
      case rel => exact ⟨n + 1, by go_num, ⟨by omega⟩, hr, ⟨by have := hk.out; omega⟩, hcell, HB⟩
   ·have h0 : decide ((n : Int) < (a0.size : Int)) = false := decide_eq_false (by omega)
    have hr : r = true := by
     have := ha.out
     rw [List.drop_of_length_le (by rw [Array.length_toList]; exact Nat.le_of_not_lt hlt)] at this
     exact this.symm
    subst hr
    go_wp2
    go_ret
    exact ⟨rfl, HB.out⟩
set_option maxHeartbeats 8000000 in
set_option maxRecDepth 100000 in
theorem rule_Name.calls (a0 : ByteArray) (r : Bool) (w : World) (h : rule_Name.f a0 = some r) :
  Calls Try.prog 83 #[.string a0] w fun e w' => e = .returned (.bool r) ∧ Below w.heap.size w w' := by
 unfold rule_Name.f at h
 replace h := Option.some.inj h
 by_cases c1 : (a0.size : Int) < 1
 ·rw [if_pos c1] at h
  subst h
  have c1b : decide ((a0.size : Int) < 1) = true := decide_eq_true c1
  clear c1
  go_enter Try.func83, Try.ntmps83
  go_wp2
  repeat (go_quiet (fail); try go_wp2)
  go_ret
  exact ⟨rfl, by repeat (first | exact Below.refl _ _ | apply pw_below_drewN)⟩
 rw [if_neg c1] at h
 have c1b : decide ((a0.size : Int) < 1) = false := decide_eq_false c1
 clear c1
 by_cases c2 : (a0.size : Int) > 12
 ·rw [if_pos c2] at h
  subst h
  have c2b : decide (12 < (a0.size : Int)) = true := decide_eq_true c2
  clear c2
  go_enter Try.func83, Try.ntmps83
  go_wp2
  repeat (go_quiet (fail); try go_wp2)
  go_ret
  exact ⟨rfl, by repeat (first | exact Below.refl _ _ | apply pw_below_drewN)⟩
 rw [if_neg c2] at h
 have c2b : decide (12 < (a0.size : Int)) = false := decide_eq_false c2
 clear c2
 by_cases c3 : a0.toList = ([121] : List UInt8)
 ·rw [if_pos c3] at h
  subst h
  have c3b : (a0.toList == ([121] : List UInt8)) = true := beq_iff_eq.mpr c3
  clear c3
  go_enter Try.func83, Try.ntmps83
  go_wp2
  repeat (go_quiet (fail); try go_wp2)
  go_ret
  exact ⟨rfl, by repeat (first | exact Below.refl _ _ | apply pw_below_drewN)⟩
 rw [if_neg c3] at h
 have c3b : (a0.toList == ([121] : List UInt8)) = false := beq_eq_false_iff_ne.mpr c3
 clear c3
 by_cases c4 : a0.toList = ([97, 110, 100] : List UInt8)
 ·rw [if_pos c4] at h
  subst h
  have c4b : (a0.toList == ([97, 110, 100] : List UInt8)) = true := beq_iff_eq.mpr c4
  clear c4
  go_enter Try.func83, Try.ntmps83
  go_wp2
  repeat (go_quiet (fail); try go_wp2)
  go_ret
  exact ⟨rfl, by repeat (first | exact Below.refl _ _ | apply pw_below_drewN)⟩
 rw [if_neg c4] at h
 have c4b : (a0.toList == ([97, 110, 100] : List UInt8)) = false := beq_eq_false_iff_ne.mpr c4
 clear c4
 by_cases c5 : a0.toList = ([111, 114] : List UInt8)
 ·rw [if_pos c5] at h
  subst h
  have c5b : (a0.toList == ([111, 114] : List UInt8)) = true := beq_iff_eq.mpr c5
  clear c5
  go_enter Try.func83, Try.ntmps83
  go_wp2
  repeat (go_quiet (fail); try go_wp2)
  go_ret
  exact ⟨rfl, by repeat (first | exact Below.refl _ _ | apply pw_below_drewN)⟩
 rw [if_neg c5] at h
 have c5b : (a0.toList == ([111, 114] : List UInt8)) = false := beq_eq_false_iff_ne.mpr c5
 clear c5
 by_cases c6 : a0.toList = ([110, 111, 116] : List UInt8)
 ·rw [if_pos c6] at h
  subst h
  have c6b : (a0.toList == ([110, 111, 116] : List UInt8)) = true := beq_iff_eq.mpr c6
  clear c6
  go_enter Try.func83, Try.ntmps83
  go_wp2
  repeat (go_quiet (fail); try go_wp2)
  go_ret
  exact ⟨rfl, by repeat (first | exact Below.refl _ _ | apply pw_below_drewN)⟩
 rw [if_neg c6] at h
 have c6b : (a0.toList == ([110, 111, 116] : List UInt8)) = false := beq_eq_false_iff_ne.mpr c6
 clear c6
 exact rule_Name.late a0 r w ⟨h⟩ c1b c2b c3b c4b c5b c6b

/-! ### rule_Months: function 126 -/
mutual
def rule_Months.j0 : Nat → List (S125) → Bool → Option (Int)
 | 0, _, _ => none
 | k + 1, x0, x16 => if x16 = true then (some 2) else (rule_Months.l0 k x0 0 0 x0 (x0.length : Int) 0)
def rule_Months.l0 : Nat → List (S125) → Int → Int → List (S125) → Int → Int → Option (Int)
 | 0, _, _, _, _, _, _ => none
 | k + 1, x0, x3, x4, x17, x18, x19 => if x19 < x18 then (if 0 ≤ x19 then (if x19 < (x17.length : Int) then ((rule_Name.f ((rd_T125 x17 x19).f0)).bind fun t117 => (if t117 = true then (if x19 ≤ (x0.length : Int) then ((some (x0.take (x19 : Int).toNat : List (S125))).bind fun y118 => (rule_Months.l1 k x0 x3 x4 x17 x18 x19 y118 (y118.length : Int) 0 ((rd_T125 x17 x19).f0) ((rd_T125 x17 x19).f1) ((rd_T125 x17 x19).f2))) else (none)) else (some 5))) else (none)) else (none)) else (if x3 = 0 then (some 8) else (if x4 = 0 then (some 8) else (some 0)))
def rule_Months.l1 : Nat → List (S125) → Int → Int → List (S125) → Int → Int → List (S125) → Int → Int → ByteArray → Int → Int → Option (Int)
 | 0, _, _, _, _, _, _, _, _, _, _, _, _ => none
 | k + 1, x0, x3, x4, x17, x18, x19, x30, x31, x32, x117000, x117001, x117002 => if x32 < x31 then (if 0 ≤ x32 then (if x32 < (x30.length : Int) then (if ((rd_T125 x30 x32).f0).toList = x117000.toList then (some 7) else (rule_Months.l1 k x0 x3 x4 x17 x18 x19 x30 x31 (wrap64 (x32 + 1)) x117000 x117001 x117002)) else (none)) else (none)) else (if x117001 < 0 then (some 3) else (if x117001 > 400 then (some 3) else (if x117002 < 0 then (some 3) else (if x117002 > 400 then (some 3) else (rule_Months.l0 k x0 (wrap64 (x3 + x117001)) (wrap64 (x4 + x117002)) x17 x18 (wrap64 (x19 + 1)))))))
end
def rule_Months.f (k : Nat) (l0 : List (S125)) : Option (Int) := if (l0.length : Int) < 1 then (rule_Months.j0 k l0 true) else (rule_Months.j0 k l0 (decide ((l0.length : Int) > 20)))
theorem rule_Months.mono_l : ∀ k, (∀ y0 y1, LeO (rule_Months.j0 k y0 y1) (rule_Months.j0 (k + 1) y0 y1)) ∧ (∀ y0 y1 y2 y3 y4 y5, LeO (rule_Months.l0 k y0 y1 y2 y3 y4 y5) (rule_Months.l0 (k + 1) y0 y1 y2 y3 y4 y5)) ∧ (∀ y0 y1 y2 y3 y4 y5 y6 y7 y8 y9 y10 y11, LeO (rule_Months.l1 k y0 y1 y2 y3 y4 y5 y6 y7 y8 y9 y10 y11) (rule_Months.l1 (k + 1) y0 y1 y2 y3 y4 y5 y6 y7 y8 y9 y10 y11))
 | 0 => ⟨fun _ _ r h => by simp [rule_Months.j0] at h, fun _ _ _ _ _ _ r h => by simp [rule_Months.l0] at h, fun _ _ _ _ _ _ _ _ _ _ _ _ r h => by simp [rule_Months.l1] at h⟩
 | k + 1 => by
  obtain ⟨ih0, ih1, ih2⟩ := rule_Months.mono_l k
  refine ⟨?_, ?_, ?_⟩
  ·intro y0 y1
   unfold rule_Months.j0
   repeat' first
   | (with_reducible exact ih0 _ _)
   | (with_reducible exact ih1 _ _ _ _ _ _)
   | (with_reducible exact ih2 _ _ _ _ _ _ _ _ _ _ _ _)
   | (with_reducible exact LeO.refl _)
   | (with_reducible exact LeO.none _)
   | (with_reducible refine LeO.ite ?_ ?_)
   | (with_reducible refine LeO.bind ?_ (fun _ => ?_))
   | exact ih0 _ _
   | exact ih1 _ _ _ _ _ _
   | exact ih2 _ _ _ _ _ _ _ _ _ _ _ _
   | exact LeO.none _
   | refine LeO.ite ?_ ?_
   | refine LeO.bind ?_ (fun _ => ?_)
  ·intro y0 y1 y2 y3 y4 y5
   unfold rule_Months.l0
   repeat' first
   | (with_reducible exact ih0 _ _)
   | (with_reducible exact ih1 _ _ _ _ _ _)
   | (with_reducible exact ih2 _ _ _ _ _ _ _ _ _ _ _ _)
   | (with_reducible exact LeO.refl _)
   | (with_reducible exact LeO.none _)
   | (with_reducible refine LeO.ite ?_ ?_)
   | (with_reducible refine LeO.bind ?_ (fun _ => ?_))
   | exact ih0 _ _
   | exact ih1 _ _ _ _ _ _
   | exact ih2 _ _ _ _ _ _ _ _ _ _ _ _
   | exact LeO.none _
   | refine LeO.ite ?_ ?_
   | refine LeO.bind ?_ (fun _ => ?_)
  ·intro y0 y1 y2 y3 y4 y5 y6 y7 y8 y9 y10 y11
   unfold rule_Months.l1
   repeat' first
   | (with_reducible exact ih0 _ _)
   | (with_reducible exact ih1 _ _ _ _ _ _)
   | (with_reducible exact ih2 _ _ _ _ _ _ _ _ _ _ _ _)
   | (with_reducible exact LeO.refl _)
   | (with_reducible exact LeO.none _)
   | (with_reducible refine LeO.ite ?_ ?_)
   | (with_reducible refine LeO.bind ?_ (fun _ => ?_))
   | exact ih0 _ _
   | exact ih1 _ _ _ _ _ _
   | exact ih2 _ _ _ _ _ _ _ _ _ _ _ _
   | exact LeO.none _
   | refine LeO.ite ?_ ?_
   | refine LeO.bind ?_ (fun _ => ?_)
theorem rule_Months.mono : ∀ a0 k, LeO (rule_Months.f k a0) (rule_Months.f (k + 1) a0) := by
 intro a0 k
 obtain ⟨ih0, ih1, ih2⟩ := rule_Months.mono_l k
 unfold rule_Months.f
 repeat' first
   | (with_reducible exact ih0 _ _)
   | (with_reducible exact ih1 _ _ _ _ _ _)
   | (with_reducible exact ih2 _ _ _ _ _ _ _ _ _ _ _ _)
   | (with_reducible exact LeO.refl _)
   | (with_reducible exact LeO.none _)
   | (with_reducible refine LeO.ite ?_ ?_)
   | (with_reducible refine LeO.bind ?_ (fun _ => ?_))
   | exact ih0 _ _
   | exact ih1 _ _ _ _ _ _
   | exact ih2 _ _ _ _ _ _ _ _ _ _ _ _
   | exact LeO.none _
   | refine LeO.ite ?_ ?_
   | refine LeO.bind ?_ (fun _ => ?_)
set_option maxHeartbeats 8000000 in
set_option maxRecDepth 100000 in
theorem rule_Months.calls (k : Nat) (A0 : Option Addr) (c0 : Nat) (l0 : List (S125)) (r : Int) (w : World) (hr0 : Kd.C k125 w A0 l0.length l0) (hc0 : l0.length ≤ c0) (h : rule_Months.f k l0 = some r) :
  Calls Try.prog 126 #[.slice A0 l0.length c0] w fun e w' => e = .returned (.int .i64 r) ∧ Below w.heap.size w w' := by
 have hu125 := Try.underlying125
 have HR0 := Aside0.mk hr0
 have HC0 := Aside0.mk hc0
 clear hr0 hc0
 have HB := Aside0.mk (Below.refl w.heap.size w)
 have H : (if (l0.length : Int) < 1 then (rule_Months.j0 k l0 true) else (rule_Months.j0 k l0 (decide ((l0.length : Int) > 20)))) = some r := h
 clear h
 have HC2 := Aside0.mk H
 clear H
 go_enter Try.func126, Try.ntmps126
 go_upto_region 1 with (fail)
 repeat (go_quiet (fail); go_upto_region 1 with (fail))
 go_cut [16] (fun v16 wc => ∃ (kq : Nat) (x16_1 : Bool), v16 = .bool x16_1 ∧ Aside0 (rule_Months.j0 kq l0 x16_1 = some r) ∧ Aside0 (kq ≤ k) ∧ Aside0 (Below w.heap.size w wc))
 case first =>
  have H := HC2.out
  clear HC2
  by_cases c3 : (l0.length : Int) < 1
  ·rw [if_pos c3] at H
   have c3b0 : decide ((l0.length : Int) < 1) = true := decide_eq_true c3
   have c3b1 : decide (l0.length < 1) = true := decide_eq_true (by omega)
   clear c3
   (first | rw [c3b0] | (simp only [i64_w, i32_w]; rw [c3b0]) | skip)
   have H' := Aside0.mk H
   clear H
   go_wp2
   repeat (go_quiet (fail); try go_wp2)
   go_meet
   case rel => exact ⟨_, (true), rs, H', ⟨by first | omega | exact Nat.le_refl _⟩, ⟨be⟩⟩
  ·rw [if_neg c3] at H
   have c3b0 : decide ((l0.length : Int) < 1) = false := decide_eq_false c3
   have c3b1 : decide (l0.length < 1) = false := decide_eq_false (by omega)
   clear c3
   (first | rw [c3b0] | (simp only [i64_w, i32_w]; rw [c3b0]) | skip)
   have H' := Aside0.mk H
   clear H
   go_wp2
   repeat (go_quiet (fail); try go_wp2)
   go_meet
   case rel => exact ⟨_, (decide ((l0.length : Int) > 20)), rs, H', ⟨by first | omega | exact Nat.le_refl _⟩, ⟨be⟩⟩
 case rest =>
  clear HC2
  (try clear c1); (try clear p2); (try clear c3); (try clear c3b0); (try clear c3b1)
  obtain ⟨kq, x16_1, rfl, HA, HJ1, HB⟩ := hcut
  cases kq with
  | zero => exact absurd HA.out (by simp [rule_Months.j0])
  | succ kj1 =>
   have H := HA.out
   clear HA
   simp only [rule_Months.j0] at H
   by_cases c4 : x16_1 = true
   ·subst c4
    have H1 : (some 2) = some r := by rw [if_pos rfl] at H; exact H
    clear H
    have H := H1
    clear H1
    obtain rfl := Option.some.inj H
    go_wp2
    repeat (go_quiet (fail); try go_wp2)
    go_ret
    exact ⟨by first | rfl | (simp [errW_none, errW_some] <;> rfl) | (simp [*, errW_none, errW_some] <;> rfl), be⟩
   ·replace c4 := Bool.eq_false_iff.mpr c4
    subst c4
    have H1 : (rule_Months.l0 kj1 l0 0 0 l0 (l0.length : Int) 0) = some r := by rw [if_neg (show ¬ (false = true) by decide)] at H; exact H
    clear H
    have H := H1
    clear H1
    have H' := Aside0.mk H
    clear H
    go_wp2
    repeat (go_quiet (fail); try go_wp2)
    go_loopg [3, 4, 19] kj1 (fun kq v3 v4 v19 w' => ∃ (x3_2 : Int) (x4_2 : Int) (x19_2 : Int), v3 = .int .i64 x3_2 ∧ v4 = .int .i64 x4_2 ∧ v19 = .int .i64 x19_2 ∧ Aside0 (rule_Months.l0 kq l0 x3_2 x4_2 l0 (l0.length : Int) x19_2 = some r) ∧ Aside0 (kq ≤ kj1) ∧ Aside0 (Below w.heap.size w w'))
    case atStart => exact ⟨(0), (0), (0), rs, rs, rs, H', ⟨Nat.le_refl _⟩, ⟨be⟩⟩
    case round =>
     clear H'
     (try clear c1); (try clear p2); (try clear c3); (try clear c3b0); (try clear c3b1); (try clear c4); (try clear p2)
     obtain ⟨x3_2, x4_2, x19_2, rfl, rfl, rfl, HA, HK2, HB⟩ := hrel
     cases gk with
     | zero => exact absurd HA.out (by simp [rule_Months.l0])
     | succ k2 =>
      have H := HA.out
      clear HA
      simp only [rule_Months.l0] at H
      by_cases c5 : x19_2 < (l0.length : Int)
      ·rw [if_pos c5] at H
       have c5b0 : decide (x19_2 < (l0.length : Int)) = true := decide_eq_true c5
       clear c5
       by_cases c6 : 0 ≤ x19_2
       ·rw [if_pos c6] at H
        have c6b0 : decide (0 ≤ x19_2) = true := decide_eq_true c6
        clear c6
        by_cases c7 : x19_2 < (l0.length : Int)
        ·rw [if_pos c7] at H
         have c7b0 : decide (x19_2 < (l0.length : Int)) = true := decide_eq_true c7
         clear c7
         replace H := Option.bind_eq_some_iff.mp H
         obtain ⟨t117, A80, H⟩ := H
         replace H : (if t117 = true then (if x19_2 ≤ (l0.length : Int) then ((some (l0.take (x19_2 : Int).toNat : List (S125))).bind fun y118 => (rule_Months.l1 k2 l0 x3_2 x4_2 l0 (l0.length : Int) x19_2 y118 (y118.length : Int) 0 ((rd_T125 l0 x19_2).f0) ((rd_T125 l0 x19_2).f1) ((rd_T125 l0 x19_2).f2))) else (none)) else (some 5)) = some r := H
         have A8 := Aside0.mk A80
         clear A80
         by_cases c9 : t117 = true
         ·subst c9
          have H1 : (if x19_2 ≤ (l0.length : Int) then ((some (l0.take (x19_2 : Int).toNat : List (S125))).bind fun y118 => (rule_Months.l1 k2 l0 x3_2 x4_2 l0 (l0.length : Int) x19_2 y118 (y118.length : Int) 0 ((rd_T125 l0 x19_2).f0) ((rd_T125 l0 x19_2).f1) ((rd_T125 l0 x19_2).f2))) else (none)) = some r := by rw [if_pos rfl] at H; exact H
          clear H
          have H := H1
          clear H1
          have c10b0 := eq_true (of_decide_eq_true ka : 0 ≤ x19_2)
          by_cases c11 : x19_2 ≤ (l0.length : Int)
          ·rw [if_pos c11] at H
           have c11b0 := eq_true c11
           have c11b1 : decide (x19_2 ≤ (l0.length : Int)) = true := decide_eq_true c11
           clear c11
           obtain ⟨y118, hy118⟩ : ∃ y_ : List (S125), y_ = (l0.take (x19_2 : Int).toNat) := ⟨_, rfl⟩
           replace H : (rule_Months.l1 k2 l0 x3_2 x4_2 l0 (l0.length : Int) x19_2 y118 (y118.length : Int) 0 ((rd_T125 l0 x19_2).f0) ((rd_T125 l0 x19_2).f1) ((rd_T125 l0 x19_2).f2)) = some r := rp hy118 H
           have Ny118 := Aside0.mk hy118
           clear hy118
           have H' := Aside0.mk H
           clear H
           have p115 : 0 ≤ (x19_2 : Int) := of_decide_eq_true ka
           have q115 : x19_2 < (l0.length : Int) := of_decide_eq_true ka
           obtain ⟨ad115, e115, hx115_0, hx115_1, hx115_2⟩ := at_T125 HR0.out x19_2 p115 q115
           cases e115
           replace hx115_0 := (HB.out.cell (World.block_lt_of_cell? w _ hx115_0)).trans hx115_0
           replace hx115_1 := (HB.out.cell (World.block_lt_of_cell? w _ hx115_1)).trans hx115_1
           replace hx115_2 := (HB.out.cell (World.block_lt_of_cell? w _ hx115_2)).trans hx115_2
           replace p115 := eq_true p115
           replace q115 := eq_true q115
           go_wp2_with (first | ((with_reducible refine gate_dst (N := 6) rfl ?_); (try (refine gate_guard (by rfl) ?_; dsimp only)); refine box_event ?hg (N := 6) ?hd (cs := #[.string (⟨#[]⟩ : ByteArray), .int .i64 0, .int .i64 0]) (t := 125) ?hr ?_; (case hd => rfl); (case hg => rfl); (case hr => first | (go_simp; done) | (go_simp; rfl)); intro gb116 hg w12 hbox hb; have n0_ := Aside0.mk (below_step be hb); have n1_ := Aside0.mk (hbox); have n2_ := gs hg HB; have n3_ := n2_; clear HB; have HB := n0_; have BK116 := n1_; have GW116 := n2_; have GE116 := n3_; clear n0_ n1_ n2_ n3_; clear hb hbox hg; obtain ⟨hcz13_0, hcz13_1, hcz13_2, hfz13_0, hfz13_1, hfz13_2⟩ := bc3 BK116) | (go_at_call 83; (with_reducible refine (rule_Name.calls ((rd_T125 l0 x19_2).f0) true _ A8.out).mono ?_); rintro e w14 ⟨rfl, hb⟩; have n0_ := Aside0.mk (blk_below (g := gb116) (o := .cells #[.string ((rd_T125 l0 x19_2).f0), .int .i64 ((rd_T125 l0 x19_2).f1), .int .i64 ((rd_T125 l0 x19_2).f2)] 125 (0, 0)) (bk BK116) hb); have n1_ := Aside0.mk (below_step be hb); clear BK116; clear HB; have BK116 := n0_; have HB := n1_; clear n0_ n1_; (try clear hb); (try clear hb2); (try clear hk); (try clear hi); have q15 : (x19_2 : Int) ≤ ((l0.length : Int) : Int) := of_decide_eq_true ka; obtain ⟨i015, hi015, _, hsz15, _⟩ := info_parts info125; have hroom15 : l0.length ≤ c0 := HC0.out; have hC15 : Kd.C k125 _ (some ad115) l0.length l0 := HR0.out; have hcut15 := cut_to (P := Try.prog) 42 125 .i64 Try.underlying42 hi015 (some ad115) l0.length c0 x19_2 (of_decide_eq_true ka) q15 hroom15; have hr15 := Kd.C_take (m := (x19_2 : Int).toNat) hC15 (by omega); have hy15 : y118.length = (x19_2 : Int).toNat := (by rw [Ny118.out, List.length_take]; omega); rw [← Ny118.out] at hr15; rw [← hy15] at hcut15; have HR121 := Aside0.mk hr15; have HC121 := Aside0.mk (show y118.length ≤ c0 from by omega); clear hr15 hC15 hroom15 hi015 hsz15; have KY15 := Aside0.mk hy15; clear hy15; replace q15 := eq_true q15))
           repeat (go_quiet (first | ((with_reducible refine gate_dst (N := 6) rfl ?_); (try (refine gate_guard (by rfl) ?_; dsimp only)); refine box_event ?hg (N := 6) ?hd (cs := #[.string (⟨#[]⟩ : ByteArray), .int .i64 0, .int .i64 0]) (t := 125) ?hr ?_; (case hd => rfl); (case hg => rfl); (case hr => first | (go_simp; done) | (go_simp; rfl)); intro gb116 hg w12 hbox hb; have n0_ := Aside0.mk (below_step be hb); have n1_ := Aside0.mk (hbox); have n2_ := gs hg HB; have n3_ := n2_; clear HB; have HB := n0_; have BK116 := n1_; have GW116 := n2_; have GE116 := n3_; clear n0_ n1_ n2_ n3_; clear hb hbox hg; obtain ⟨hcz13_0, hcz13_1, hcz13_2, hfz13_0, hfz13_1, hfz13_2⟩ := bc3 BK116) | (go_at_call 83; (with_reducible refine (rule_Name.calls ((rd_T125 l0 x19_2).f0) true _ A8.out).mono ?_); rintro e w14 ⟨rfl, hb⟩; have n0_ := Aside0.mk (blk_below (g := gb116) (o := .cells #[.string ((rd_T125 l0 x19_2).f0), .int .i64 ((rd_T125 l0 x19_2).f1), .int .i64 ((rd_T125 l0 x19_2).f2)] 125 (0, 0)) (bk BK116) hb); have n1_ := Aside0.mk (below_step be hb); clear BK116; clear HB; have BK116 := n0_; have HB := n1_; clear n0_ n1_; (try clear hb); (try clear hb2); (try clear hk); (try clear hi); have q15 : (x19_2 : Int) ≤ ((l0.length : Int) : Int) := of_decide_eq_true ka; obtain ⟨i015, hi015, _, hsz15, _⟩ := info_parts info125; have hroom15 : l0.length ≤ c0 := HC0.out; have hC15 : Kd.C k125 _ (some ad115) l0.length l0 := HR0.out; have hcut15 := cut_to (P := Try.prog) 42 125 .i64 Try.underlying42 hi015 (some ad115) l0.length c0 x19_2 (of_decide_eq_true ka) q15 hroom15; have hr15 := Kd.C_take (m := (x19_2 : Int).toNat) hC15 (by omega); have hy15 : y118.length = (x19_2 : Int).toNat := (by rw [Ny118.out, List.length_take]; omega); rw [← Ny118.out] at hr15; rw [← hy15] at hcut15; have HR121 := Aside0.mk hr15; have HC121 := Aside0.mk (show y118.length ≤ c0 from by omega); clear hr15 hC15 hroom15 hi015 hsz15; have KY15 := Aside0.mk hy15; clear hy15; replace q15 := eq_true q15)); try go_wp2_with (first | ((with_reducible refine gate_dst (N := 6) rfl ?_); (try (refine gate_guard (by rfl) ?_; dsimp only)); refine box_event ?hg (N := 6) ?hd (cs := #[.string (⟨#[]⟩ : ByteArray), .int .i64 0, .int .i64 0]) (t := 125) ?hr ?_; (case hd => rfl); (case hg => rfl); (case hr => first | (go_simp; done) | (go_simp; rfl)); intro gb116 hg w12 hbox hb; have n0_ := Aside0.mk (below_step be hb); have n1_ := Aside0.mk (hbox); have n2_ := gs hg HB; have n3_ := n2_; clear HB; have HB := n0_; have BK116 := n1_; have GW116 := n2_; have GE116 := n3_; clear n0_ n1_ n2_ n3_; clear hb hbox hg; obtain ⟨hcz13_0, hcz13_1, hcz13_2, hfz13_0, hfz13_1, hfz13_2⟩ := bc3 BK116) | (go_at_call 83; (with_reducible refine (rule_Name.calls ((rd_T125 l0 x19_2).f0) true _ A8.out).mono ?_); rintro e w14 ⟨rfl, hb⟩; have n0_ := Aside0.mk (blk_below (g := gb116) (o := .cells #[.string ((rd_T125 l0 x19_2).f0), .int .i64 ((rd_T125 l0 x19_2).f1), .int .i64 ((rd_T125 l0 x19_2).f2)] 125 (0, 0)) (bk BK116) hb); have n1_ := Aside0.mk (below_step be hb); clear BK116; clear HB; have BK116 := n0_; have HB := n1_; clear n0_ n1_; (try clear hb); (try clear hb2); (try clear hk); (try clear hi); have q15 : (x19_2 : Int) ≤ ((l0.length : Int) : Int) := of_decide_eq_true ka; obtain ⟨i015, hi015, _, hsz15, _⟩ := info_parts info125; have hroom15 : l0.length ≤ c0 := HC0.out; have hC15 : Kd.C k125 _ (some ad115) l0.length l0 := HR0.out; have hcut15 := cut_to (P := Try.prog) 42 125 .i64 Try.underlying42 hi015 (some ad115) l0.length c0 x19_2 (of_decide_eq_true ka) q15 hroom15; have hr15 := Kd.C_take (m := (x19_2 : Int).toNat) hC15 (by omega); have hy15 : y118.length = (x19_2 : Int).toNat := (by rw [Ny118.out, List.length_take]; omega); rw [← Ny118.out] at hr15; rw [← hy15] at hcut15; have HR121 := Aside0.mk hr15; have HC121 := Aside0.mk (show y118.length ≤ c0 from by omega); clear hr15 hC15 hroom15 hi015 hsz15; have KY15 := Aside0.mk hy15; clear hy15; replace q15 := eq_true q15)))
           go_loopg [32] k2 (fun kq v32 w' => ∃ (x32_3 : Int), v32 = .int .i64 x32_3 ∧ Aside0 (rule_Months.l1 kq l0 x3_2 x4_2 l0 (l0.length : Int) x19_2 y118 (y118.length : Int) x32_3 ((rd_T125 l0 x19_2).f0) ((rd_T125 l0 x19_2).f1) ((rd_T125 l0 x19_2).f2) = some r) ∧ Aside0 (kq ≤ k2) ∧ Aside0 (w'.heap[gb116]? = some (.cells #[.string ((rd_T125 l0 x19_2).f0), .int .i64 ((rd_T125 l0 x19_2).f1), .int .i64 ((rd_T125 l0 x19_2).f2)] 125 (0, 0))) ∧ Aside0 (Below w.heap.size w w'))
           case atStart => exact ⟨(0), rs, H', ⟨Nat.le_refl _⟩, ⟨bk BK116⟩, ⟨be⟩⟩
           case round =>
            clear H'
            (try clear c1); (try clear p1); (try clear q1); (try clear hx1); (try clear p2); (try clear c3); (try clear c3b0); (try clear c3b1); (try clear c4); (try clear c5); (try clear c5b0); (try clear c6); (try clear c6b0); (try clear c7); (try clear c7b0); (try clear c9); (try clear c10); (try clear c10b0); (try clear c11); (try clear c11b0); (try clear c11b1); (try clear p11); (try clear q11); (try clear hx11); (try clear c12); (try clear q15); (try clear hcz13_0); (try clear hcz13_1); (try clear hcz13_2); (try clear hfz13_0); (try clear hfz13_1); (try clear hfz13_2); (try clear hx115_0); (try clear hx115_1); (try clear hx115_2); (try clear p115); (try clear p2); (try clear q115); (try clear q15)
            obtain ⟨x32_3, rfl, HA, HK3, BK116, HB⟩ := hrel
            cases gk with
            | zero => exact absurd HA.out (by simp [rule_Months.l1])
            | succ k3 =>
             have H := HA.out
             clear HA
             simp only [rule_Months.l1] at H
             by_cases c16 : x32_3 < (y118.length : Int)
             ·rw [if_pos c16] at H
              have c16b0 : decide (x32_3 < (y118.length : Int)) = true := decide_eq_true c16
              clear c16
              by_cases c17 : 0 ≤ x32_3
              ·rw [if_pos c17] at H
               have c17b0 : decide (0 ≤ x32_3) = true := decide_eq_true c17
               clear c17
               by_cases c18 : x32_3 < (y118.length : Int)
               ·rw [if_pos c18] at H
                have c18b0 : decide (x32_3 < (y118.length : Int)) = true := decide_eq_true c18
                clear c18
                by_cases c19 : ((rd_T125 y118 x32_3).f0).toList = ((rd_T125 l0 x19_2).f0).toList
                ·rw [if_pos c19] at H
                 have c19b0 : (((rd_T125 y118 x32_3).f0).toList == ((rd_T125 l0 x19_2).f0).toList) = true := beq_iff_eq.mpr c19
                 have c19b1 : (((rd_T125 y118 x32_3).f0).toList != ((rd_T125 l0 x19_2).f0).toList) = false := bne_eq_false_iff_eq.mpr c19
                 clear c19
                 obtain rfl := Option.some.inj H
                 have p122 : 0 ≤ (x32_3 : Int) := of_decide_eq_true ka
                 have q122 : x32_3 < (y118.length : Int) := of_decide_eq_true ka
                 obtain ⟨ad122, e122, hx122_0, hx122_1, hx122_2⟩ := at_T125 HR121.out x32_3 p122 q122
                 obtain rfl : ad115 = ad122 := (by injection e122)
                 replace hx122_0 := (HB.out.cell (World.block_lt_of_cell? w _ hx122_0)).trans hx122_0
                 replace hx122_1 := (HB.out.cell (World.block_lt_of_cell? w _ hx122_1)).trans hx122_1
                 replace hx122_2 := (HB.out.cell (World.block_lt_of_cell? w _ hx122_2)).trans hx122_2
                 replace p122 := eq_true p122
                 replace q122 := eq_true q122
                 go_wp2_with (first | ((with_reducible refine gate_dst (N := 8) rfl ?_); (try (refine gate_guard (by rfl) ?_; dsimp only)); refine box_event ?hg (N := 8) ?hd (cs := #[.string (⟨#[]⟩ : ByteArray), .int .i64 0, .int .i64 0]) (t := 125) ?hr ?_; (case hd => rfl); (case hg => rfl); (case hr => first | (go_simp; done) | (go_simp; rfl)); intro gb123 hg w20 hbox hb; have n0_ := bb BK116 hb; have n1_ := Aside0.mk (below_step be hb); have n2_ := Aside0.mk (hbox); have n3_ := gs hg HB; have n4_ := n3_; have n5_ := nl BK116 hg; have n6_ := ns n5_; clear BK116; clear HB; have BK116 := n0_; have HB := n1_; have BK123 := n2_; have GW123 := n3_; have GE123 := n4_; have NB116_123 := n5_; have NB123_116 := n6_; clear n0_ n1_ n2_ n3_ n4_ n5_ n6_; clear hb hbox hg; have hnb21 := NB123_116.out; have hnc21 := NB116_123.out; obtain ⟨hcz22_0, hcz22_1, hcz22_2, hfz22_0, hfz22_1, hfz22_2⟩ := bc3 BK123; obtain ⟨hcz23_0, hcz23_1, hcz23_2, hfz23_0, hfz23_1, hfz23_2⟩ := bc3 BK116))
                 repeat (go_quiet (first | ((with_reducible refine gate_dst (N := 8) rfl ?_); (try (refine gate_guard (by rfl) ?_; dsimp only)); refine box_event ?hg (N := 8) ?hd (cs := #[.string (⟨#[]⟩ : ByteArray), .int .i64 0, .int .i64 0]) (t := 125) ?hr ?_; (case hd => rfl); (case hg => rfl); (case hr => first | (go_simp; done) | (go_simp; rfl)); intro gb123 hg w20 hbox hb; have n0_ := bb BK116 hb; have n1_ := Aside0.mk (below_step be hb); have n2_ := Aside0.mk (hbox); have n3_ := gs hg HB; have n4_ := n3_; have n5_ := nl BK116 hg; have n6_ := ns n5_; clear BK116; clear HB; have BK116 := n0_; have HB := n1_; have BK123 := n2_; have GW123 := n3_; have GE123 := n4_; have NB116_123 := n5_; have NB123_116 := n6_; clear n0_ n1_ n2_ n3_ n4_ n5_ n6_; clear hb hbox hg; have hnb21 := NB123_116.out; have hnc21 := NB116_123.out; obtain ⟨hcz22_0, hcz22_1, hcz22_2, hfz22_0, hfz22_1, hfz22_2⟩ := bc3 BK123; obtain ⟨hcz23_0, hcz23_1, hcz23_2, hfz23_0, hfz23_1, hfz23_2⟩ := bc3 BK116)); try go_wp2_with (first | ((with_reducible refine gate_dst (N := 8) rfl ?_); (try (refine gate_guard (by rfl) ?_; dsimp only)); refine box_event ?hg (N := 8) ?hd (cs := #[.string (⟨#[]⟩ : ByteArray), .int .i64 0, .int .i64 0]) (t := 125) ?hr ?_; (case hd => rfl); (case hg => rfl); (case hr => first | (go_simp; done) | (go_simp; rfl)); intro gb123 hg w20 hbox hb; have n0_ := bb BK116 hb; have n1_ := Aside0.mk (below_step be hb); have n2_ := Aside0.mk (hbox); have n3_ := gs hg HB; have n4_ := n3_; have n5_ := nl BK116 hg; have n6_ := ns n5_; clear BK116; clear HB; have BK116 := n0_; have HB := n1_; have BK123 := n2_; have GW123 := n3_; have GE123 := n4_; have NB116_123 := n5_; have NB123_116 := n6_; clear n0_ n1_ n2_ n3_ n4_ n5_ n6_; clear hb hbox hg; have hnb21 := NB123_116.out; have hnc21 := NB116_123.out; obtain ⟨hcz22_0, hcz22_1, hcz22_2, hfz22_0, hfz22_1, hfz22_2⟩ := bc3 BK123; obtain ⟨hcz23_0, hcz23_1, hcz23_2, hfz23_0, hfz23_1, hfz23_2⟩ := bc3 BK116)))
                 go_ret
                 exact ⟨by first | rfl | (simp [errW_none, errW_some] <;> rfl) | (simp [*, errW_none, errW_some] <;> rfl), be⟩
                ·rw [if_neg c19] at H
                 have c19b0 : (((rd_T125 y118 x32_3).f0).toList == ((rd_T125 l0 x19_2).f0).toList) = false := beq_eq_false_iff_ne.mpr c19
                 have c19b1 : (((rd_T125 y118 x32_3).f0).toList != ((rd_T125 l0 x19_2).f0).toList) = true := bne_iff_ne.mpr c19
                 have H' := Aside0.mk H
                 clear H
                 have p122 : 0 ≤ (x32_3 : Int) := of_decide_eq_true ka
                 have q122 : x32_3 < (y118.length : Int) := of_decide_eq_true ka
                 obtain ⟨ad122, e122, hx122_0, hx122_1, hx122_2⟩ := at_T125 HR121.out x32_3 p122 q122
                 obtain rfl : ad115 = ad122 := (by injection e122)
                 replace hx122_0 := (HB.out.cell (World.block_lt_of_cell? w _ hx122_0)).trans hx122_0
                 replace hx122_1 := (HB.out.cell (World.block_lt_of_cell? w _ hx122_1)).trans hx122_1
                 replace hx122_2 := (HB.out.cell (World.block_lt_of_cell? w _ hx122_2)).trans hx122_2
                 replace p122 := eq_true p122
                 replace q122 := eq_true q122
                 go_wp2_with (first | ((with_reducible refine gate_dst (N := 8) rfl ?_); (try (refine gate_guard (by rfl) ?_; dsimp only)); refine box_event ?hg (N := 8) ?hd (cs := #[.string (⟨#[]⟩ : ByteArray), .int .i64 0, .int .i64 0]) (t := 125) ?hr ?_; (case hd => rfl); (case hg => rfl); (case hr => first | (go_simp; done) | (go_simp; rfl)); intro gb123 hg w24 hbox hb; have n0_ := bb BK116 hb; have n1_ := Aside0.mk (below_step be hb); have n2_ := Aside0.mk (hbox); have n3_ := gs hg HB; have n4_ := n3_; have n5_ := nl BK116 hg; have n6_ := ns n5_; clear BK116; clear HB; have BK116 := n0_; have HB := n1_; have BK123 := n2_; have GW123 := n3_; have GE123 := n4_; have NB116_123 := n5_; have NB123_116 := n6_; clear n0_ n1_ n2_ n3_ n4_ n5_ n6_; clear hb hbox hg; have hnb25 := NB123_116.out; have hnc25 := NB116_123.out; obtain ⟨hcz26_0, hcz26_1, hcz26_2, hfz26_0, hfz26_1, hfz26_2⟩ := bc3 BK123; obtain ⟨hcz27_0, hcz27_1, hcz27_2, hfz27_0, hfz27_1, hfz27_2⟩ := bc3 BK116))
                 repeat (go_quiet (first | ((with_reducible refine gate_dst (N := 8) rfl ?_); (try (refine gate_guard (by rfl) ?_; dsimp only)); refine box_event ?hg (N := 8) ?hd (cs := #[.string (⟨#[]⟩ : ByteArray), .int .i64 0, .int .i64 0]) (t := 125) ?hr ?_; (case hd => rfl); (case hg => rfl); (case hr => first | (go_simp; done) | (go_simp; rfl)); intro gb123 hg w24 hbox hb; have n0_ := bb BK116 hb; have n1_ := Aside0.mk (below_step be hb); have n2_ := Aside0.mk (hbox); have n3_ := gs hg HB; have n4_ := n3_; have n5_ := nl BK116 hg; have n6_ := ns n5_; clear BK116; clear HB; have BK116 := n0_; have HB := n1_; have BK123 := n2_; have GW123 := n3_; have GE123 := n4_; have NB116_123 := n5_; have NB123_116 := n6_; clear n0_ n1_ n2_ n3_ n4_ n5_ n6_; clear hb hbox hg; have hnb25 := NB123_116.out; have hnc25 := NB116_123.out; obtain ⟨hcz26_0, hcz26_1, hcz26_2, hfz26_0, hfz26_1, hfz26_2⟩ := bc3 BK123; obtain ⟨hcz27_0, hcz27_1, hcz27_2, hfz27_0, hfz27_1, hfz27_2⟩ := bc3 BK116)); try go_wp2_with (first | ((with_reducible refine gate_dst (N := 8) rfl ?_); (try (refine gate_guard (by rfl) ?_; dsimp only)); refine box_event ?hg (N := 8) ?hd (cs := #[.string (⟨#[]⟩ : ByteArray), .int .i64 0, .int .i64 0]) (t := 125) ?hr ?_; (case hd => rfl); (case hg => rfl); (case hr => first | (go_simp; done) | (go_simp; rfl)); intro gb123 hg w24 hbox hb; have n0_ := bb BK116 hb; have n1_ := Aside0.mk (below_step be hb); have n2_ := Aside0.mk (hbox); have n3_ := gs hg HB; have n4_ := n3_; have n5_ := nl BK116 hg; have n6_ := ns n5_; clear BK116; clear HB; have BK116 := n0_; have HB := n1_; have BK123 := n2_; have GW123 := n3_; have GE123 := n4_; have NB116_123 := n5_; have NB123_116 := n6_; clear n0_ n1_ n2_ n3_ n4_ n5_ n6_; clear hb hbox hg; have hnb25 := NB123_116.out; have hnc25 := NB116_123.out; obtain ⟨hcz26_0, hcz26_1, hcz26_2, hfz26_0, hfz26_1, hfz26_2⟩ := bc3 BK123; obtain ⟨hcz27_0, hcz27_1, hcz27_2, hfz27_0, hfz27_1, hfz27_2⟩ := bc3 BK116)))
                 go_roundg k3
                 case measure => have := HJ1.out; have := HK2.out; have := HK3.out; omega
                 case rel => exact ⟨(wrap64 (x32_3 + 1)), rs, H', ⟨by have := HJ1.out; have := HK2.out; have := HK3.out; omega⟩, ⟨bk BK116⟩, ⟨be⟩⟩
               ·rw [if_neg c18] at H
                exact absurd H (by simp)
              ·rw [if_neg c17] at H
               exact absurd H (by simp)
             ·rw [if_neg c16] at H
              have c16b0 : decide (x32_3 < (y118.length : Int)) = false := decide_eq_false c16
              clear c16
              by_cases c28 : ((rd_T125 l0 x19_2).f1) < 0
              ·rw [if_pos c28] at H
               have c28b0 : decide (((rd_T125 l0 x19_2).f1) < 0) = true := decide_eq_true c28
               clear c28
               obtain rfl := Option.some.inj H
               obtain ⟨hcz29_0, hcz29_1, hcz29_2, hfz29_0, hfz29_1, hfz29_2⟩ := bc3 BK116
               go_wp2
               repeat (go_quiet (fail); try go_wp2)
               go_ret
               exact ⟨by first | rfl | (simp [errW_none, errW_some] <;> rfl) | (simp [*, errW_none, errW_some] <;> rfl), be⟩
              ·rw [if_neg c28] at H
               have c28b0 : decide (((rd_T125 l0 x19_2).f1) < 0) = false := decide_eq_false c28
               clear c28
               by_cases c30 : ((rd_T125 l0 x19_2).f1) > 400
               ·rw [if_pos c30] at H
                have c30b0 : decide (400 < ((rd_T125 l0 x19_2).f1)) = true := decide_eq_true c30
                clear c30
                obtain rfl := Option.some.inj H
                obtain ⟨hcz31_0, hcz31_1, hcz31_2, hfz31_0, hfz31_1, hfz31_2⟩ := bc3 BK116
                go_wp2
                repeat (go_quiet (fail); try go_wp2)
                go_ret
                exact ⟨by first | rfl | (simp [errW_none, errW_some] <;> rfl) | (simp [*, errW_none, errW_some] <;> rfl), be⟩
               ·rw [if_neg c30] at H
                have c30b0 : decide (400 < ((rd_T125 l0 x19_2).f1)) = false := decide_eq_false c30
                clear c30
                by_cases c32 : ((rd_T125 l0 x19_2).f2) < 0
                ·rw [if_pos c32] at H
                 have c32b0 : decide (((rd_T125 l0 x19_2).f2) < 0) = true := decide_eq_true c32
                 clear c32
                 obtain rfl := Option.some.inj H
                 obtain ⟨hcz33_0, hcz33_1, hcz33_2, hfz33_0, hfz33_1, hfz33_2⟩ := bc3 BK116
                 go_wp2
                 repeat (go_quiet (fail); try go_wp2)
                 go_ret
                 exact ⟨by first | rfl | (simp [errW_none, errW_some] <;> rfl) | (simp [*, errW_none, errW_some] <;> rfl), be⟩
                ·rw [if_neg c32] at H
                 have c32b0 : decide (((rd_T125 l0 x19_2).f2) < 0) = false := decide_eq_false c32
                 clear c32
                 by_cases c34 : ((rd_T125 l0 x19_2).f2) > 400
                 ·rw [if_pos c34] at H
                  have c34b0 : decide (400 < ((rd_T125 l0 x19_2).f2)) = true := decide_eq_true c34
                  clear c34
                  obtain rfl := Option.some.inj H
                  obtain ⟨hcz35_0, hcz35_1, hcz35_2, hfz35_0, hfz35_1, hfz35_2⟩ := bc3 BK116
                  go_wp2
                  repeat (go_quiet (fail); try go_wp2)
                  go_ret
                  exact ⟨by first | rfl | (simp [errW_none, errW_some] <;> rfl) | (simp [*, errW_none, errW_some] <;> rfl), be⟩
                 ·rw [if_neg c34] at H
                  have c34b0 : decide (400 < ((rd_T125 l0 x19_2).f2)) = false := decide_eq_false c34
                  clear c34
                  have H' := Aside0.mk H
                  clear H
                  obtain ⟨hcz36_0, hcz36_1, hcz36_2, hfz36_0, hfz36_1, hfz36_2⟩ := bc3 BK116
                  go_wp2
                  repeat (go_quiet (fail); try go_wp2)
                  go_roundg k3
                  case measure => have := HJ1.out; have := HK2.out; have := HK3.out; omega
                  case rel => exact ⟨(wrap64 (x3_2 + ((rd_T125 l0 x19_2).f1))), (wrap64 (x4_2 + ((rd_T125 l0 x19_2).f2))), (wrap64 (x19_2 + 1)), rs, rs, rs, H', ⟨by have := HJ1.out; have := HK2.out; have := HK3.out; omega⟩, ⟨be⟩⟩
          ·rw [if_neg c11] at H
           exact absurd H (by simp)
         ·replace c9 := Bool.eq_false_iff.mpr c9
          subst c9
          have H1 : (some 5) = some r := by rw [if_neg (show ¬ (false = true) by decide)] at H; exact H
          clear H
          have H := H1
          clear H1
          obtain rfl := Option.some.inj H
          have p115 : 0 ≤ (x19_2 : Int) := of_decide_eq_true ka
          have q115 : x19_2 < (l0.length : Int) := of_decide_eq_true ka
          obtain ⟨ad115, e115, hx115_0, hx115_1, hx115_2⟩ := at_T125 HR0.out x19_2 p115 q115
          cases e115
          replace hx115_0 := (HB.out.cell (World.block_lt_of_cell? w _ hx115_0)).trans hx115_0
          replace hx115_1 := (HB.out.cell (World.block_lt_of_cell? w _ hx115_1)).trans hx115_1
          replace hx115_2 := (HB.out.cell (World.block_lt_of_cell? w _ hx115_2)).trans hx115_2
          replace p115 := eq_true p115
          replace q115 := eq_true q115
          go_wp2_with (first | ((with_reducible refine gate_dst (N := 6) rfl ?_); (try (refine gate_guard (by rfl) ?_; dsimp only)); refine box_event ?hg (N := 6) ?hd (cs := #[.string (⟨#[]⟩ : ByteArray), .int .i64 0, .int .i64 0]) (t := 125) ?hr ?_; (case hd => rfl); (case hg => rfl); (case hr => first | (go_simp; done) | (go_simp; rfl)); intro gb116 hg w37 hbox hb; have n0_ := Aside0.mk (below_step be hb); have n1_ := Aside0.mk (hbox); have n2_ := gs hg HB; have n3_ := n2_; clear HB; have HB := n0_; have BK116 := n1_; have GW116 := n2_; have GE116 := n3_; clear n0_ n1_ n2_ n3_; clear hb hbox hg; obtain ⟨hcz38_0, hcz38_1, hcz38_2, hfz38_0, hfz38_1, hfz38_2⟩ := bc3 BK116) | (go_at_call 83; (with_reducible refine (rule_Name.calls ((rd_T125 l0 x19_2).f0) false _ A8.out).mono ?_); rintro e w39 ⟨rfl, hb⟩; have n0_ := Aside0.mk (blk_below (g := gb116) (o := .cells #[.string ((rd_T125 l0 x19_2).f0), .int .i64 ((rd_T125 l0 x19_2).f1), .int .i64 ((rd_T125 l0 x19_2).f2)] 125 (0, 0)) (bk BK116) hb); have n1_ := Aside0.mk (below_step be hb); clear BK116; clear HB; have BK116 := n0_; have HB := n1_; clear n0_ n1_; (try clear hb); (try clear hb2); (try clear hk); (try clear hi)))
          repeat (go_quiet (first | ((with_reducible refine gate_dst (N := 6) rfl ?_); (try (refine gate_guard (by rfl) ?_; dsimp only)); refine box_event ?hg (N := 6) ?hd (cs := #[.string (⟨#[]⟩ : ByteArray), .int .i64 0, .int .i64 0]) (t := 125) ?hr ?_; (case hd => rfl); (case hg => rfl); (case hr => first | (go_simp; done) | (go_simp; rfl)); intro gb116 hg w37 hbox hb; have n0_ := Aside0.mk (below_step be hb); have n1_ := Aside0.mk (hbox); have n2_ := gs hg HB; have n3_ := n2_; clear HB; have HB := n0_; have BK116 := n1_; have GW116 := n2_; have GE116 := n3_; clear n0_ n1_ n2_ n3_; clear hb hbox hg; obtain ⟨hcz38_0, hcz38_1, hcz38_2, hfz38_0, hfz38_1, hfz38_2⟩ := bc3 BK116) | (go_at_call 83; (with_reducible refine (rule_Name.calls ((rd_T125 l0 x19_2).f0) false _ A8.out).mono ?_); rintro e w39 ⟨rfl, hb⟩; have n0_ := Aside0.mk (blk_below (g := gb116) (o := .cells #[.string ((rd_T125 l0 x19_2).f0), .int .i64 ((rd_T125 l0 x19_2).f1), .int .i64 ((rd_T125 l0 x19_2).f2)] 125 (0, 0)) (bk BK116) hb); have n1_ := Aside0.mk (below_step be hb); clear BK116; clear HB; have BK116 := n0_; have HB := n1_; clear n0_ n1_; (try clear hb); (try clear hb2); (try clear hk); (try clear hi))); try go_wp2_with (first | ((with_reducible refine gate_dst (N := 6) rfl ?_); (try (refine gate_guard (by rfl) ?_; dsimp only)); refine box_event ?hg (N := 6) ?hd (cs := #[.string (⟨#[]⟩ : ByteArray), .int .i64 0, .int .i64 0]) (t := 125) ?hr ?_; (case hd => rfl); (case hg => rfl); (case hr => first | (go_simp; done) | (go_simp; rfl)); intro gb116 hg w37 hbox hb; have n0_ := Aside0.mk (below_step be hb); have n1_ := Aside0.mk (hbox); have n2_ := gs hg HB; have n3_ := n2_; clear HB; have HB := n0_; have BK116 := n1_; have GW116 := n2_; have GE116 := n3_; clear n0_ n1_ n2_ n3_; clear hb hbox hg; obtain ⟨hcz38_0, hcz38_1, hcz38_2, hfz38_0, hfz38_1, hfz38_2⟩ := bc3 BK116) | (go_at_call 83; (with_reducible refine (rule_Name.calls ((rd_T125 l0 x19_2).f0) false _ A8.out).mono ?_); rintro e w39 ⟨rfl, hb⟩; have n0_ := Aside0.mk (blk_below (g := gb116) (o := .cells #[.string ((rd_T125 l0 x19_2).f0), .int .i64 ((rd_T125 l0 x19_2).f1), .int .i64 ((rd_T125 l0 x19_2).f2)] 125 (0, 0)) (bk BK116) hb); have n1_ := Aside0.mk (below_step be hb); clear BK116; clear HB; have BK116 := n0_; have HB := n1_; clear n0_ n1_; (try clear hb); (try clear hb2); (try clear hk); (try clear hi))))
          go_ret
          exact ⟨by first | rfl | (simp [errW_none, errW_some] <;> rfl) | (simp [*, errW_none, errW_some] <;> rfl), be⟩
        ·rw [if_neg c7] at H
         exact absurd H (by simp)
       ·rw [if_neg c6] at H
        exact absurd H (by simp)
      ·rw [if_neg c5] at H
       have c5b0 : decide (x19_2 < (l0.length : Int)) = false := decide_eq_false c5
       clear c5
       by_cases c40 : x3_2 = 0
       ·rw [if_pos c40] at H
        have c40b0 : (x3_2 == 0) = true := beq_iff_eq.mpr c40
        have c40b1 : (x3_2 != 0) = false := bne_eq_false_iff_eq.mpr c40
        clear c40
        obtain rfl := Option.some.inj H
        go_wp2
        repeat (go_quiet (fail); try go_wp2)
        go_ret
        exact ⟨by first | rfl | (simp [errW_none, errW_some] <;> rfl) | (simp [*, errW_none, errW_some] <;> rfl), be⟩
       ·rw [if_neg c40] at H
        have c40b0 : (x3_2 == 0) = false := beq_eq_false_iff_ne.mpr c40
        have c40b1 : (x3_2 != 0) = true := bne_iff_ne.mpr c40
        by_cases c41 : x4_2 = 0
        ·rw [if_pos c41] at H
         have c41b0 : (x4_2 == 0) = true := beq_iff_eq.mpr c41
         have c41b1 : (x4_2 != 0) = false := bne_eq_false_iff_eq.mpr c41
         clear c41
         obtain rfl := Option.some.inj H
         go_wp2
         repeat (go_quiet (fail); try go_wp2)
         go_ret
         exact ⟨by first | rfl | (simp [errW_none, errW_some] <;> rfl) | (simp [*, errW_none, errW_some] <;> rfl), be⟩
        ·rw [if_neg c41] at H
         have c41b0 : (x4_2 == 0) = false := beq_eq_false_iff_ne.mpr c41
         have c41b1 : (x4_2 != 0) = true := bne_iff_ne.mpr c41
         obtain rfl := Option.some.inj H
         go_wp2
         repeat (go_quiet (fail); try go_wp2)
         go_ret
         exact ⟨by first | rfl | (simp [errW_none, errW_some] <;> rfl) | (simp [*, errW_none, errW_some] <;> rfl), be⟩

end Go.Proofs.Ytlfammlboncmeaa.PArithLaters
