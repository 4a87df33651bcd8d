/- The walks of the functions of this part. The proof of rule_machine_value (in part) is written by hand; the other ones are as the kit's print tells them. -/
-- The walks of the law's functions, told by a program.
import Derived.Test.YtgcmclnjnimolaaDoorY
import Derived.Test.YtgcmclnjnimolaaDoorPCompileCompilesx0
import Derived.Test.YtgcmclnjnimolaaDoorPCompileCompilesx4
namespace Go.Proofs.YtgcmclnjnimolaaDoor.PCompileCompiles
open Go.RowKit Go.Proofs.YtgcmclnjnimolaaDoorW.PrintWords Go.Proofs.YtgcmclnjnimolaaDoorW.PrintLast Go.Proofs.YtgcmclnjnimolaaDoorW.PrintMore Go.Proofs.YtgcmclnjnimolaaDoor.Y
attribute [local go_sem] max2_int min2_int max_two min_two max_three min_three max_four min_four   -- for this text's walks alone
set_option linter.unusedVariables false
set_option linter.unusedSimpArgs false

/-- A state of type 60 at block g of W; what its slices lead to came in by w0. -/
def IsS60 (w0 W : World) (g : Nat) (f0 : Int) (f1 : Int) : Prop := W.heap[g]? = some (.cells #[.int .i64 f0, .int .i64 f1] 60 (0, 0)) ∧ w0.heap.size ≤ g
theorem IsS60.grown {w0 W : World} {g : Nat} {f0 : Int} {f1 : Int} {W1 : World} {row : Option Nat} (h : IsS60 w0 W g f0 f1) (hw : W.grownBy W1 row) (hne : some g ≠ row) : IsS60 w0 W1 g f0 f1 := by
  obtain ⟨hb, hg⟩ := h
  exact ⟨blk_grown hb hw hne, hg⟩
theorem IsS60.own_neN {w0 W : World} {g : Nat} {f0 : Int} {f1 : Int} {α : Type} {d : Kd α} {e : Nat} {base : Nat} {ok : Nat → Prop} {v : Value} {xs : List α} (h : IsS60 w0 W g f0 f1) (ho : Kd.N d e W base ok v xs) (ht : e ≠ 60) : some g ≠ v.ownBlock := by
  obtain ⟨hb, hg⟩ := h
  exact Kd.N_ne ho hb ht
theorem IsS60.fresh {w0 W : World} {g : Nat} {f0 : Int} {f1 : Int} (h : IsS60 w0 W g f0 f1) : ∀ k, W.heap.size ≤ k → k ≠ g := by
  obtain ⟨hb, hg⟩ := h
  exact Kd.freshB hb
theorem IsS60.kept {w0 W : World} {g : Nat} {f0 : Int} {f1 : Int} {W1 : World} {S : Nat → Prop} (h : IsS60 w0 W g f0 f1) (hk : Kept W W1 S) (hne : ¬ S g) : IsS60 w0 W1 g f0 f1 := by
  obtain ⟨hb, hg⟩ := h
  exact ⟨blk_kept hb hk hne, hg⟩
theorem IsS60.below {w0 W : World} {g : Nat} {f0 : Int} {f1 : Int} {W1 : World} (h : IsS60 w0 W g f0 f1) (hw : Below W.heap.size W W1) : IsS60 w0 W1 g f0 f1 := h.grown (grown_of_below hw none) (by simp)
theorem IsS60.alloc {w0 W : World} {g : Nat} {f0 : Int} {f1 : Int} (h : IsS60 w0 W g f0 f1) (o : Obj) : IsS60 w0 (W.alloc o) g f0 f1 := h.below (below_alloc (Below.refl _ _) o)
theorem IsS60.drewN {w0 W : World} {g : Nat} {f0 : Int} {f1 : Int} (h : IsS60 w0 W g f0 f1) (m : Nat) : IsS60 w0 (W.drewN m) g f0 f1 := h
theorem IsS60.drew {w0 W : World} {g : Nat} {f0 : Int} {f1 : Int} (h : IsS60 w0 W g f0 f1) : IsS60 w0 W.drew g f0 f1 := h
theorem IsS60.at_ {w0 W : World} {g : Nat} {f0 : Int} {f1 : Int} {w' : World} {m : Nat} (hq : W.drewN m = w') (h : IsS60 w0 W g f0 f1) : IsS60 w0 w' g f0 f1 := by subst hq; exact IsS60.drewN h m
theorem IsS60.apart {w0 W : World} {g : Nat} {f0 : Int} {f1 : Int} {α : Type} {d : Kd α} {e : Nat} {base : Nat} {ok : Nat → Prop} {v : Value} {xs : List α} (h : IsS60 w0 W g f0 f1) (ho : d.R e W base ok v xs) (ht : ∀ q, q ∈ e :: d.E → q ≠ 60) : d.R e W base (fun k => ok k ∧ k ≠ g) v xs := by
  obtain ⟨hb, hg⟩ := h
  exact Kd.R_types ho hb ht
theorem IsS60.own_ne {w0 W : World} {g : Nat} {f0 : Int} {f1 : Int} {α : Type} {d : Kd α} {e : Nat} {base : Nat} {ok : Nat → Prop} {v : Value} {xs : List α} (h : IsS60 w0 W g f0 f1) (ho : d.R e W base ok v xs) (ht : e ≠ 60) : some g ≠ v.ownBlock := by
  obtain ⟨hb, hg⟩ := h
  exact Kd.R_ne ho hb ht
theorem IsS60.apartQ {w0 W : World} {g : Nat} {f0 : Int} {f1 : Int} {α : Type} {d : Kd α} {e : Nat} {base : Nat} {ok : Nat → Prop} {v : Value} {xs : List α} (h : IsS60 w0 W g f0 f1) (ho : d.Q e W base ok v xs) (ht : ∀ q, q ∈ e :: d.E → q ≠ 60) : d.Q e W base (fun k => ok k ∧ k ≠ g) v xs := by
  obtain ⟨hb, hg⟩ := h
  exact Kd.Q_types ho hb ht
theorem IsS60.own_neQ {w0 W : World} {g : Nat} {f0 : Int} {f1 : Int} {α : Type} {d : Kd α} {e : Nat} {base : Nat} {ok : Nat → Prop} {v : Value} {xs : List α} (h : IsS60 w0 W g f0 f1) (ho : d.Q e W base ok v xs) (ht : e ≠ 60) : some g ≠ v.ownBlock := by
  obtain ⟨hb, hg⟩ := h
  exact Kd.Q_ne ho hb ht
theorem IsS60.apartS {w0 W : World} {g : Nat} {f0 : Int} {f1 : Int} {α : Type} {d : Kd α} {e : Nat} {base : Nat} {ok : Nat → Prop} {v : Value} {xs : List α} (h : IsS60 w0 W g f0 f1) (ho : d.S e W base ok v xs) (ht : ∀ q, q ∈ e :: d.E → q ≠ 60) : d.S e W base (fun k => ok k ∧ k ≠ g) v xs := by
  obtain ⟨hb, hg⟩ := h
  exact Kd.S_types ho hb ht
theorem IsS60.own_neS {w0 W : World} {g : Nat} {f0 : Int} {f1 : Int} {α : Type} {d : Kd α} {e : Nat} {base : Nat} {ok : Nat → Prop} {v : Value} {xs : List α} (h : IsS60 w0 W g f0 f1) (ho : d.S e W base ok v xs) (ht : e ≠ 60) : some g ≠ v.ownBlock := by
  obtain ⟨hb, hg⟩ := h
  exact Kd.S_ne ho hb ht
theorem IsS60.lt {w0 W : World} {g : Nat} {f0 : Int} {f1 : Int} (h : IsS60 w0 W g f0 f1) : g < W.heap.size := by
  obtain ⟨hb, hg⟩ := h
  exact blk_lt hb
theorem IsS60.ge {w0 W : World} {g : Nat} {f0 : Int} {f1 : Int} (h : IsS60 w0 W g f0 f1) : w0.heap.size ≤ g := by
  obtain ⟨hb, hg⟩ := h
  exact hg
theorem IsS60.ne_blk {w0 W : World} {g : Nat} {f0 : Int} {f1 : Int} {a : Nat} {cs : Array Value} {t : TypeId} {fr : Nat × Nat} (h : IsS60 w0 W g f0 f1) (hb2 : W.heap[a]? = some (.cells cs t fr)) (ht : t ≠ 60) : g ≠ a := by
  obtain ⟨hb, hg⟩ := h
  rintro rfl
  rw [hb] at hb2
  injection hb2 with hb2
  injection hb2 with _ ht2
  exact ht ht2.symm
theorem IsS60.far {w0 W : World} {g : Nat} {f0 : Int} {f1 : Int} {p : Addr} (h : IsS60 w0 W g f0 f1) (hne : g ≠ p.block) (u : Value) : IsS60 w0 (W.setCell p u) g f0 f1 := by
  obtain ⟨hb, hg⟩ := h
  exact ⟨blk_far hb hne u, hg⟩
theorem cellS60_0 {W : World} {g : Nat} {f0 : Int} {f1 : Int} (h : W.heap[g]? = some (.cells #[.int .i64 f0, .int .i64 f1] 60 (0, 0))) : W.cell? ⟨g, 0, none⟩ = some (.int .i64 f0) := (blk_cell h 0).trans rfl
theorem IsS60.set_0 {w0 W : World} {g : Nat} {f0 : Int} {f1 : Int} (h : IsS60 w0 W g f0 f1) (x : Int) : IsS60 w0 (W.setCell ⟨g, 0, none⟩ (.int .i64 x)) g x f1 := by
  obtain ⟨hb, hg⟩ := h
  exact ⟨by simpa using blk_set hb 0 (.int .i64 x), hg⟩
theorem cellS60_1 {W : World} {g : Nat} {f0 : Int} {f1 : Int} (h : W.heap[g]? = some (.cells #[.int .i64 f0, .int .i64 f1] 60 (0, 0))) : W.cell? ⟨g, 1, none⟩ = some (.int .i64 f1) := (blk_cell h 1).trans rfl
theorem IsS60.set_1 {w0 W : World} {g : Nat} {f0 : Int} {f1 : Int} (h : IsS60 w0 W g f0 f1) (x : Int) : IsS60 w0 (W.setCell ⟨g, 1, none⟩ (.int .i64 x)) g f0 x := by
  obtain ⟨hb, hg⟩ := h
  exact ⟨by simpa using blk_set hb 1 (.int .i64 x), hg⟩
theorem IsS60.new (w0 W : World) (f0 : Int) (f1 : Int) (hB : Below w0.heap.size w0 W) : IsS60 w0 (W.alloc (.cells #[.int .i64 f0, .int .i64 f1] 60)) W.heap.size f0 f1 := ⟨by simpa using heap_alloc_new W _, hB.size⟩

/-! ### rule_machine_value: function 29 -/
/-- The rows of an element, beside a block that is written. -/
theorem rule_machine_value.foot {w W : World} {g n : Nat} {A A2 : Option Addr} {xs : List S24} {i : Int} {ad : Addr} {c2 : Nat} (h : ∀ W_, KeepBut w W_ g none → Kd.C k24 W_ A n xs) (hk : KeepBut w W g none) (h0 : 0 ≤ i) (h1 : i < n) (hA : A = some ad)
  (hc : W.cell? ⟨(ad.add (i.toNat * 3)).block, (ad.add (i.toNat * 3)).off + 2, none⟩ = some (.slice A2 ((rd_T24 xs i).f2).length c2)) : ∀ W_, KeepBut w W_ g none → Kd.C k24 W_ A2 ((rd_T24 xs i).f2).length (rd_T24 xs i).f2 := by
 intro W_ hW
 obtain ⟨ad1, A1, c1, e1, _, _, h3, _, h5⟩ := at_T24 (h W_ hW) i h0 h1
 rw [hA] at e1; obtain rfl := Option.some.inj e1
 obtain ⟨ad2, A3, c3, e2, _, _, h6, _, _⟩ := at_T24 (h w (KeepBut.refl w g none)) i h0 h1
 rw [hA] at e2; obtain rfl := Option.some.inj e2
 have hlt : (ad.add (i.toNat * 3)).block < w.heap.size := World.block_lt_of_cell? w ⟨(ad.add (i.toNat * 3)).block, (ad.add (i.toNat * 3)).off + 2, none⟩ h6
 by_cases hb : (ad.add (i.toNat * 3)).block = g
 ·exfalso
  have hW2 : KeepBut w { w with heap := w.heap.setIfInBounds g (.cells #[] 0 (0, 0)) } g none :=
   ⟨by simp, fun j hj hne _ => by simp only [Array.getElem?_setIfInBounds]; rw [if_neg (fun e => hne e.symm)]⟩
  obtain ⟨ad4, A4, c4, e4, _, _, h7, _, _⟩ := at_T24 (h _ hW2) i h0 h1
  rw [hA] at e4; obtain rfl := Option.some.inj e4
  unfold World.cell? at h7
  simp only [Array.getElem?_setIfInBounds] at h7
  rw [if_pos hb.symm, if_pos (by rw [hb] at hlt; exact hlt)] at h7
  simp at h7
 ·have ha : W_.heap[(ad.add (i.toNat * 3)).block]? = W.heap[(ad.add (i.toNat * 3)).block]? := (hW.2 _ hlt hb (by simp)).trans (hk.2 _ hlt hb (by simp)).symm
  have hcc : W_.cell? ⟨(ad.add (i.toNat * 3)).block, (ad.add (i.toNat * 3)).off + 2, none⟩ = W.cell? ⟨(ad.add (i.toNat * 3)).block, (ad.add (i.toNat * 3)).off + 2, none⟩ := by
   unfold World.cell?
   simp only
   rw [ha]
  rw [hcc, hc] at h3
  simp only [Option.some.injEq, Value.slice.injEq] at h3
  rw [h3.1]; exact h5
mutual
def rule_machine_value.l0 : Nat → List (S24) → Int → Int → Int → Int → Int → Int → List (S24) → Int → Int → Option (Int × Int × Int)
 | 0, _, _, _, _, _, _, _, _, _, _ => none
 | k + 1, x13, x14, x15, x1000, x1001, x142000, x142001, x142002, x143000, x143001 => if x15 < x14 then (if 0 ≤ x15 then (if x15 < (x13.length : Int) then ((rule_machine_value.f k x1000 x1001 ((rd_T24 x13 x15).f0) ((rd_T24 x13 x15).f1) ((rd_T24 x13 x15).f2)).bind fun bt145 => (if x15 = 0 then (if bt145.2.2 = 0 then (rule_machine_value.l0 k x13 x14 (0 + 1) bt145.2.1 bt145.2.2 x142000 x142001 x142002 bt145.1 x143001) else (some (0, bt145.2.1, bt145.2.2))) else (if x15 = 1 then (if bt145.2.2 = 0 then (rule_machine_value.l0 k x13 x14 (1 + 1) bt145.2.1 bt145.2.2 x142000 x142001 x142002 x143000 bt145.1) else (some (0, bt145.2.1, bt145.2.2))) else (none)))) else (none)) else (none)) else (if x142000 = 1 then (if x142001 < (-2147483647) then (some (0, x1000, 14)) else (if x142001 > 2147483647 then (some (0, x1000, 14)) else (some (x142001, x1000, x1001)))) else (if x142000 = 2 then (if x1000 < (-2147483647) then (some (0, x1000, 14)) else (if x1000 > 2147483647 then (some (0, x1000, 14)) else (some (x1000, x1000, x1001)))) else (if x142000 = 3 then (if (wrap64 (-x143000)) < (-2147483647) then (some (0, x1000, 14)) else (if (wrap64 (-x143000)) > 2147483647 then (some (0, x1000, 14)) else (some (wrap64 (-x143000), x1000, x1001)))) else (if x142000 = 4 then (if (wrap64 (x143000 + x143001)) < (-2147483647) then (some (0, x1000, 14)) else (if (wrap64 (x143000 + x143001)) > 2147483647 then (some (0, x1000, 14)) else (some (wrap64 (x143000 + x143001), x1000, x1001)))) else (if x142000 = 5 then (if (wrap64 (x143000 - x143001)) < (-2147483647) then (some (0, x1000, 14)) else (if (wrap64 (x143000 - x143001)) > 2147483647 then (some (0, x1000, 14)) else (some (wrap64 (x143000 - x143001), x1000, x1001)))) else (if x142000 = 6 then (if (wrap64 (x143000 * x143001)) < (-2147483647) then (some (0, x1000, 14)) else (if (wrap64 (x143000 * x143001)) > 2147483647 then (some (0, x1000, 14)) else (some (wrap64 (x143000 * x143001), x1000, x1001)))) else (if x142000 = 7 then (rule_machine_value.j1 k 0 x142000 (x142000 == 7) x1000 x1001 x142000 x142001 x142002 x143000 x143001) else (rule_machine_value.j1 k 0 x142000 (x142000 == 8) x1000 x1001 x142000 x142001 x142002 x143000 x143001))))))))
def rule_machine_value.j1 : Nat → Int → Int → Bool → Int → Int → Int → Int → List (S24) → Int → Int → Option (Int × Int × Int)
 | 0, _, _, _, _, _, _, _, _, _, _ => none
 | k + 1, x8, x32, x69, x1000, x1001, x142000, x142001, x142002, x143000, x143001 => if x69 = true then ((whole_Div.f k x143000 x143001).bind fun bt148 => (if bt148.2.2 = 0 then (if x142000 = 8 then (if bt148.2.1 < (-2147483647) then (some (0, x1000, 14)) else (if bt148.2.1 > 2147483647 then (some (0, x1000, 14)) else (some (bt148.2.1, x1000, x1001)))) else (if bt148.1 < (-2147483647) then (some (0, x1000, 14)) else (if bt148.1 > 2147483647 then (some (0, x1000, 14)) else (some (bt148.1, x1000, x1001))))) else (some (0, x1000, bt148.2.2)))) else (if x32 = 9 then ((rule_boolean.f (decide (x143000 < x143001))).bind fun t151 => (if t151 < (-2147483647) then (some (0, x1000, 14)) else (if t151 > 2147483647 then (some (0, x1000, 14)) else (some (t151, x1000, x1001))))) else (if x32 = 10 then ((rule_boolean.f (x143000 == x143001)).bind fun t152 => (if t152 < (-2147483647) then (some (0, x1000, 14)) else (if t152 > 2147483647 then (some (0, x1000, 14)) else (some (t152, x1000, x1001))))) else (if x32 = 11 then ((rule_boolean.f (x143000 == 0)).bind fun t153 => (if t153 < (-2147483647) then (some (0, x1000, 14)) else (if t153 > 2147483647 then (some (0, x1000, 14)) else (some (t153, x1000, x1001))))) else (if x32 = 12 then (if x143000 = 0 then ((rule_boolean.f false).bind fun t154 => (if t154 < (-2147483647) then (some (0, x1000, 14)) else (if t154 > 2147483647 then (some (0, x1000, 14)) else (some (t154, x1000, x1001))))) else ((rule_boolean.f (x143001 != 0)).bind fun t155 => (if t155 < (-2147483647) then (some (0, x1000, 14)) else (if t155 > 2147483647 then (some (0, x1000, 14)) else (some (t155, x1000, x1001)))))) else (if x32 = 13 then (if x143000 = 0 then ((rule_boolean.f (x143001 != 0)).bind fun t156 => (if t156 < (-2147483647) then (some (0, x1000, 14)) else (if t156 > 2147483647 then (some (0, x1000, 14)) else (some (t156, x1000, x1001))))) else ((rule_boolean.f true).bind fun t157 => (if t157 < (-2147483647) then (some (0, x1000, 14)) else (if t157 > 2147483647 then (some (0, x1000, 14)) else (some (t157, x1000, x1001)))))) else (if x8 < (-2147483647) then (some (0, x1000, 14)) else (if x8 > 2147483647 then (some (0, x1000, 14)) else (some (x8, x1000, x1001)))))))))
def rule_machine_value.f : Nat → Int → Int → Int → Int → List (S24) → Option (Int × Int × Int)
 | 0, _, _, _, _, _ => none
 | k + 1, s0_0, s0_1, a1_0, a1_1, l1_2 => rule_machine_value.l0 k l1_2 (l1_2.length : Int) 0 s0_0 s0_1 a1_0 a1_1 l1_2 0 0
end
theorem rule_machine_value.mono_l : ∀ k, (∀ y0 y1 y2 y3 y4, LeO (rule_machine_value.f k y0 y1 y2 y3 y4) (rule_machine_value.f (k + 1) y0 y1 y2 y3 y4)) ∧ (∀ y0 y1 y2 y3 y4 y5 y6 y7 y8 y9, LeO (rule_machine_value.l0 k y0 y1 y2 y3 y4 y5 y6 y7 y8 y9) (rule_machine_value.l0 (k + 1) y0 y1 y2 y3 y4 y5 y6 y7 y8 y9)) ∧ (∀ y0 y1 y2 y3 y4 y5 y6 y7 y8 y9, LeO (rule_machine_value.j1 k y0 y1 y2 y3 y4 y5 y6 y7 y8 y9) (rule_machine_value.j1 (k + 1) y0 y1 y2 y3 y4 y5 y6 y7 y8 y9))
 | 0 => ⟨fun _ _ _ _ _ r h => by simp [rule_machine_value.f] at h, fun _ _ _ _ _ _ _ _ _ _ r h => by simp [rule_machine_value.l0] at h, fun _ _ _ _ _ _ _ _ _ _ r h => by simp [rule_machine_value.j1] at h⟩
 | k + 1 => by
  obtain ⟨ih0, ih1, ih2⟩ := rule_machine_value.mono_l k
  refine ⟨?_, ?_, ?_⟩
  ·intro y0 y1 y2 y3 y4
   unfold rule_machine_value.f
   repeat' first
   | (with_reducible exact ih0 _ _ _ _ _)
   | (with_reducible exact ih1 _ _ _ _ _ _ _ _ _ _)
   | (with_reducible exact ih2 _ _ _ _ _ _ _ _ _ _)
   | (with_reducible exact whole_Div.mono _ _ _)
   | (with_reducible exact LeO.refl _)
   | (with_reducible exact LeO.none _)
   | (with_reducible refine LeO.ite ?_ ?_)
   | (with_reducible refine LeO.bind ?_ (fun _ => ?_))
   | exact ih0 _ _ _ _ _
   | exact ih1 _ _ _ _ _ _ _ _ _ _
   | exact ih2 _ _ _ _ _ _ _ _ _ _
   | exact whole_Div.mono _ _ _
   | exact LeO.none _
   | refine LeO.ite ?_ ?_
   | refine LeO.bind ?_ (fun _ => ?_)
  ·intro y0 y1 y2 y3 y4 y5 y6 y7 y8 y9
   unfold rule_machine_value.l0
   repeat' first
   | (with_reducible exact ih0 _ _ _ _ _)
   | (with_reducible exact ih1 _ _ _ _ _ _ _ _ _ _)
   | (with_reducible exact ih2 _ _ _ _ _ _ _ _ _ _)
   | (with_reducible exact whole_Div.mono _ _ _)
   | (with_reducible exact LeO.refl _)
   | (with_reducible exact LeO.none _)
   | (with_reducible refine LeO.ite ?_ ?_)
   | (with_reducible refine LeO.bind ?_ (fun _ => ?_))
   | exact ih0 _ _ _ _ _
   | exact ih1 _ _ _ _ _ _ _ _ _ _
   | exact ih2 _ _ _ _ _ _ _ _ _ _
   | exact whole_Div.mono _ _ _
   | exact LeO.none _
   | refine LeO.ite ?_ ?_
   | refine LeO.bind ?_ (fun _ => ?_)
  ·intro y0 y1 y2 y3 y4 y5 y6 y7 y8 y9
   unfold rule_machine_value.j1
   repeat' first
   | (with_reducible exact ih0 _ _ _ _ _)
   | (with_reducible exact ih1 _ _ _ _ _ _ _ _ _ _)
   | (with_reducible exact ih2 _ _ _ _ _ _ _ _ _ _)
   | (with_reducible exact whole_Div.mono _ _ _)
   | (with_reducible exact LeO.refl _)
   | (with_reducible exact LeO.none _)
   | (with_reducible refine LeO.ite ?_ ?_)
   | (with_reducible refine LeO.bind ?_ (fun _ => ?_))
   | exact ih0 _ _ _ _ _
   | exact ih1 _ _ _ _ _ _ _ _ _ _
   | exact ih2 _ _ _ _ _ _ _ _ _ _
   | exact whole_Div.mono _ _ _
   | exact LeO.none _
   | refine LeO.ite ?_ ?_
   | refine LeO.bind ?_ (fun _ => ?_)
theorem rule_machine_value.mono : ∀ a0 a1 a2 a3 a4 k, LeO (rule_machine_value.f k a0 a1 a2 a3 a4) (rule_machine_value.f (k + 1) a0 a1 a2 a3 a4) := by
 intro a0 a1 a2 a3 a4 k
 obtain ⟨ih0, ih1, ih2⟩ := rule_machine_value.mono_l k
 exact ih0 a0 a1 a2 a3 a4
set_option maxHeartbeats 8000000 in
set_option maxRecDepth 100000 in
theorem rule_machine_value.calls (k : Nat) : ∀ (g : Nat) (s0_0 : Int) (s0_1 : Int) (a1_0 : Int) (a1_1 : Int) (A1_2 : Option Addr) (c1_2 : Nat) (l1_2 : List (S24)) (r1 : Int) (r2 : Int) (r3 : Int) (w0 w : World) (hI : IsS60 w0 w g s0_0 s0_1) (hB : Below w0.heap.size w0 w) (hr1_2 : ∀ W_, KeepBut w W_ g none → Kd.C k24 W_ A1_2 l1_2.length l1_2) (hc1_2 : l1_2.length ≤ c1_2) (h : rule_machine_value.f k s0_0 s0_1 a1_0 a1_1 l1_2 = some (r1, r2, r3)),
  Calls Tryd.prog 29 #[.pointer (some ⟨g, 0, none⟩), .agg #[.int .i64 a1_0, .int .i64 a1_1, .slice A1_2 l1_2.length c1_2]] w fun e w' => e = .returned (.int .i64 r1) ∧ IsS60 w0 w' g r2 r3 ∧ Below w0.heap.size w0 w' ∧ KeepBut w w' g none := by
 induction k using Nat.strongRecOn with
 | _ k ih =>
 intro g s0_0 s0_1 a1_0 a1_1 A1_2 c1_2 l1_2 r1 r2 r3 w0 w hI hB hr1_2 hc1_2 h
 cases k with
 | zero => exact absurd h (by simp [rule_machine_value.f])
 | succ k =>
 simp only [rule_machine_value.f] at h
 have hu24 := Tryd.underlying24
 have hu83 := Tryd.underlying83
 have HR1_2 := Aside0.mk hr1_2
 have HC1_2 := Aside0.mk hc1_2
 clear hr1_2 hc1_2
 have HI0 := Aside0.mk hI
 have HK := Aside0.mk (KeepBut.refl w g none)
 have HL := Aside0.mk hB.size
 clear hI
 have HW0 := Aside0.mk hB.size
 have HB := Aside0.mk hB
 clear hB
 have H : (rule_machine_value.l0 k l1_2 (l1_2.length : Int) 0 s0_0 s0_1 a1_0 a1_1 l1_2 0 0) = some (r1, r2, r3) := h
 clear h
 have H' := Aside0.mk H
 clear H
 go_enter Tryd.func29, Tryd.ntmps29
 go_wp2_with (first | ((with_reducible refine gate_dst (N := 3) rfl ?_); refine box_event ?hg (N := 3) ?hd (cs := #[.int .i64 a1_0, .int .i64 a1_1, .slice A1_2 l1_2.length c1_2]) (t := 24) ?hr ?_; (case hd => rfl); (case hg => rfl); (case hr => first | (go_simp; done) | (go_simp; rfl)); intro gb141 hg w3 hbox hb; have n0_ := Aside0.mk (IsS60.below (by repeat (first | (with_reducible first | exact HI0.out | apply IsS60.alloc | apply IsS60.drewN | apply IsS60.drew | apply IsS60.set_0 | apply IsS60.set_1) | exact HI0.out)) hb); have n1_ := Aside0.mk (KeepBut.trans (by repeat (first | (with_reducible first | exact HK.out | apply KeepBut.set_ | apply keep_drewN | apply keep_drew | apply keep_alloc) | exact HK.out)) (KeepBut.of_below hb g none) (.inl rfl)); have n2_ := Aside0.mk (below_step (by repeat (first | (with_reducible first | exact HB.out | apply below_alloc | apply pw_below_drewN | apply below_drew1 | refine below_set ?_ (IsS60.ge HI0.out)) | exact HB.out)) hb); have n3_ := Aside0.mk (hbox); have n4_ := Aside0.mk ((by rw [hg]; exact (keep_size (w := w) (g := g) (row := none) (by repeat (first | (with_reducible first | exact HK.out | apply KeepBut.set_ | apply keep_drewN | apply keep_drew | apply keep_alloc) | exact HK.out))) : w.heap.size ≤ gb141)); have n5_ := Aside0.mk ((Nat.le_trans HW0.out (by rw [hg]; exact (keep_size (w := w) (g := g) (row := none) (by repeat (first | (with_reducible first | exact HK.out | apply KeepBut.set_ | apply keep_drewN | apply keep_drew | apply keep_alloc) | exact HK.out))) : w.heap.size ≤ gb141) : w0.heap.size ≤ gb141)); have n6_ := Aside0.mk ((by rw [hg]; exact Nat.ne_of_lt (IsS60.lt (show IsS60 w0 _ g s0_0 s0_1 from by repeat (first | (with_reducible first | exact HI0.out | apply IsS60.alloc | apply IsS60.drewN | apply IsS60.drew | apply IsS60.set_0 | apply IsS60.set_1) | exact HI0.out))) : g ≠ gb141)); have n7_ := Aside0.mk ((by rw [hg]; exact Nat.ne_of_gt (IsS60.lt (show IsS60 w0 _ g s0_0 s0_1 from by repeat (first | (with_reducible first | exact HI0.out | apply IsS60.alloc | apply IsS60.drewN | apply IsS60.drew | apply IsS60.set_0 | apply IsS60.set_1) | exact HI0.out))) : gb141 ≠ g)); clear HI0; clear HK; clear HB; have HI0 := n0_; have HK := n1_; have HB := n2_; have BK141 := n3_; have GW141 := n4_; have GE141 := n5_; have NB0_141 := n6_; have NB141_0 := n7_; clear n0_ n1_ n2_ n3_ n4_ n5_ n6_ n7_; clear hb hbox hg) | ((with_reducible refine gate_dst (N := 5) rfl ?_); refine box_event ?hg (N := 5) ?hd (cs := #[.int .i64 0, .int .i64 0]) (t := 83) ?hr ?_; (case hd => rfl); (case hg => rfl); (case hr => first | (go_simp; done) | (go_simp; rfl)); intro gb142 hg w4 hbox hb; have n0_ := Aside0.mk (IsS60.below (by repeat (first | (with_reducible first | exact HI0.out | apply IsS60.alloc | apply IsS60.drewN | apply IsS60.drew | apply IsS60.set_0 | apply IsS60.set_1 | refine IsS60.far ?_ NB0_141.out _) | exact HI0.out)) hb); have n1_ := bb BK141 hb; have n2_ := Aside0.mk (KeepBut.trans (by repeat (first | (with_reducible first | exact HK.out | apply KeepBut.set_ | apply keep_drewN | apply keep_drew | apply keep_alloc | refine keep_far ?_ GW141.out _) | exact HK.out)) (KeepBut.of_below hb g none) (.inl rfl)); have n3_ := Aside0.mk (below_step (by repeat (first | (with_reducible first | exact HB.out | apply below_alloc | apply pw_below_drewN | apply below_drew1 | refine below_set ?_ (IsS60.ge HI0.out) | refine below_set ?_ GE141.out) | exact HB.out)) hb); have n4_ := Aside0.mk (hbox); have n5_ := Aside0.mk ((by rw [hg]; exact (keep_size (w := w) (g := g) (row := none) (by repeat (first | (with_reducible first | exact HK.out | apply KeepBut.set_ | apply keep_drewN | apply keep_drew | apply keep_alloc | refine keep_far ?_ GW141.out _) | exact HK.out))) : w.heap.size ≤ gb142)); have n6_ := Aside0.mk ((Nat.le_trans HW0.out (by rw [hg]; exact (keep_size (w := w) (g := g) (row := none) (by repeat (first | (with_reducible first | exact HK.out | apply KeepBut.set_ | apply keep_drewN | apply keep_drew | apply keep_alloc | refine keep_far ?_ GW141.out _) | exact HK.out))) : w.heap.size ≤ gb142) : w0.heap.size ≤ gb142)); have n7_ := nl BK141 hg; have n8_ := ns n7_; have n9_ := Aside0.mk ((by rw [hg]; exact Nat.ne_of_lt (IsS60.lt (show IsS60 w0 _ g s0_0 s0_1 from by repeat (first | (with_reducible first | exact HI0.out | apply IsS60.alloc | apply IsS60.drewN | apply IsS60.drew | apply IsS60.set_0 | apply IsS60.set_1 | refine IsS60.far ?_ NB0_141.out _) | exact HI0.out))) : g ≠ gb142)); have n10_ := Aside0.mk ((by rw [hg]; exact Nat.ne_of_gt (IsS60.lt (show IsS60 w0 _ g s0_0 s0_1 from by repeat (first | (with_reducible first | exact HI0.out | apply IsS60.alloc | apply IsS60.drewN | apply IsS60.drew | apply IsS60.set_0 | apply IsS60.set_1 | refine IsS60.far ?_ NB0_141.out _) | exact HI0.out))) : gb142 ≠ g)); clear HI0; clear BK141; clear HK; clear HB; have HI0 := n0_; have BK141 := n1_; have HK := n2_; have HB := n3_; have BK142 := n4_; have GW142 := n5_; have GE142 := n6_; have NB141_142 := n7_; have NB142_141 := n8_; have NB0_142 := n9_; have NB142_0 := n10_; clear n0_ n1_ n2_ n3_ n4_ n5_ n6_ n7_ n8_ n9_ n10_; clear hb hbox hg; have hnb5 := NB141_142.out; have hnc5 := NB142_141.out; have hnb6 := NB141_0.out; have hnc6 := NB0_141.out; obtain ⟨hcz7_0, hcz7_1, hcz7_2, hfz7_0, hfz7_1, hfz7_2⟩ := bc3 BK141))
 go_loopg [15] k (fun kq v15 w' => ∃ (x15_1 : Int) (x1000_1 : Int) (x1001_1 : Int) (x143000_1 : Int) (x143001_1 : Int), v15 = .int .i64 x15_1 ∧ Aside0 (rule_machine_value.l0 kq l1_2 (l1_2.length : Int) x15_1 x1000_1 x1001_1 a1_0 a1_1 l1_2 x143000_1 x143001_1 = some (r1, r2, r3)) ∧ Aside0 (kq ≤ k) ∧ Aside0 (w'.heap[gb141]? = some (.cells #[.int .i64 a1_0, .int .i64 a1_1, (.slice A1_2 l1_2.length c1_2)] 24 (0, 0))) ∧ Aside0 (w'.heap[gb142]? = some (.cells #[.int .i64 x143000_1, .int .i64 x143001_1] 83 (0, 0))) ∧ Aside0 (IsS60 w0 w' g x1000_1 x1001_1) ∧ Aside0 (KeepBut w w' g none) ∧ Aside0 (Below w0.heap.size w0 w'))
 case atStart => exact ⟨(0), (s0_0), (s0_1), (0), (0), rs, H', ⟨Nat.le_refl _⟩, ⟨bk BK141⟩, ⟨bk BK142⟩, ⟨by repeat (first | (with_reducible first | exact HI0.out | apply IsS60.alloc | apply IsS60.drewN | apply IsS60.drew | apply IsS60.set_0 | apply IsS60.set_1 | refine IsS60.far ?_ NB0_141.out _ | refine IsS60.far ?_ NB0_142.out _) | exact HI0.out)⟩, ⟨by repeat (first | (with_reducible first | exact HK.out | apply KeepBut.set_ | apply keep_drewN | apply keep_drew | apply keep_alloc | refine keep_far ?_ GW141.out _ | refine keep_far ?_ GW142.out _) | exact HK.out)⟩, ⟨by repeat (first | (with_reducible first | exact HB.out | apply below_alloc | apply pw_below_drewN | apply below_drew1 | refine below_set ?_ (IsS60.ge HI0.out) | refine below_set ?_ GE141.out | refine below_set ?_ GE142.out) | exact HB.out)⟩⟩
 case round =>
  clear H'
  (try clear c1); (try clear c2); (try clear p2); (try clear c5); (try clear c6); (try clear hcz7_0); (try clear hcz7_1); (try clear hcz7_2); (try clear hfz7_0); (try clear hfz7_1); (try clear hfz7_2)
  obtain ⟨x15_1, x1000_1, x1001_1, x143000_1, x143001_1, rfl, HA, HK1, BK141, BK142, HI0, HK, HB⟩ := hrel
  cases gk with
  | zero => exact absurd HA.out (by simp [rule_machine_value.l0])
  | succ k1 =>
   have H := HA.out
   clear HA
   simp only [rule_machine_value.l0] at H
   by_cases c8 : x15_1 < (l1_2.length : Int)
   ·rw [if_pos c8] at H
    have c8b0 : decide (x15_1 < (l1_2.length : Int)) = true := decide_eq_true c8
    clear c8
    by_cases c9 : 0 ≤ x15_1
    ·rw [if_pos c9] at H
     have c9b0 : decide (0 ≤ x15_1) = true := decide_eq_true c9
     clear c9
     by_cases c10 : x15_1 < (l1_2.length : Int)
     ·rw [if_pos c10] at H
      have c10b0 : decide (x15_1 < (l1_2.length : Int)) = true := decide_eq_true c10
      clear c10
      replace H := Option.bind_eq_some_iff.mp H
      obtain ⟨⟨t145, t146, t147⟩, A110, H⟩ := H
      replace H : (if x15_1 = 0 then (if t147 = 0 then (rule_machine_value.l0 k1 l1_2 (l1_2.length : Int) (0 + 1) t146 t147 a1_0 a1_1 l1_2 t145 x143001_1) else (some (0, t146, t147))) else (if x15_1 = 1 then (if t147 = 0 then (rule_machine_value.l0 k1 l1_2 (l1_2.length : Int) (1 + 1) t146 t147 a1_0 a1_1 l1_2 x143000_1 t145) else (some (0, t146, t147))) else (none))) = some (r1, r2, r3) := H
      have A11 := Aside0.mk A110
      clear A110
      by_cases c12 : x15_1 = 0
      ·subst c12
       have H1 : (if t147 = 0 then (rule_machine_value.l0 k1 l1_2 (l1_2.length : Int) (0 + 1) t146 t147 a1_0 a1_1 l1_2 t145 x143001_1) else (some (0, t146, t147))) = some (r1, r2, r3) := by rw [if_pos rfl] at H; exact H
       clear H
       have H := H1
       clear H1
       by_cases c13 : t147 = 0
       ·rw [if_pos c13] at H
        have c13b0 : (t147 == 0) = true := beq_iff_eq.mpr c13
        have c13b1 : (t147 != 0) = false := bne_eq_false_iff_eq.mpr c13
        clear c13
        have H' := Aside0.mk H
        clear H
        have p143 : 0 ≤ (0 : Int) := (by omega)
        have q143 : 0 < (l1_2.length : Int) := of_decide_eq_true ka
        obtain ⟨ad143, A143_2, c143_2, e143, hx143_0, hx143_1, hx143_2, hl143_2, hi143_2⟩ := at_T24 (Kd.C_foot_now HR1_2.out HK.out) 0 p143 q143
        have HF_ := Aside0.mk (rule_machine_value.foot HR1_2.out HK.out p143 q143 e143 hx143_2)
        cases e143
        have qi143 : (0 < l1_2.length) = True := eq_true (by omega)
        (try rw [show ((0 : Int)).toNat = 0 from rfl] at hx143_0)
        (try rw [show 0 * 3 = 0 from rfl] at hx143_0)
        (try rw [Addr.add_zero'] at hx143_0)
        (try rw [show ((0 : Int)).toNat = 0 from rfl] at hx143_1)
        (try rw [show 0 * 3 = 0 from rfl] at hx143_1)
        (try rw [Addr.add_zero'] at hx143_1)
        (try rw [show ((0 : Int)).toNat = 0 from rfl] at hx143_2)
        (try rw [show 0 * 3 = 0 from rfl] at hx143_2)
        (try rw [Addr.add_zero'] at hx143_2)
        have HR143_2 := Aside0.mk hi143_2
        have HC143_2 := Aside0.mk hl143_2
        clear hi143_2 hl143_2
        replace p143 := eq_true p143
        replace q143 := eq_true q143
        go_wp2_with (first | ((with_reducible refine gate_dst (N := 7) rfl ?_); refine box_event ?hg (N := 7) ?hd (cs := #[.int .i64 0, .int .i64 0, .slice none 0 0]) (t := 24) ?hr ?_; (case hd => rfl); (case hg => rfl); (case hr => first | (go_simp; done) | (go_simp; rfl)); intro gb144 hg w14 hbox hb; have n0_ := bb BK141 hb; have n1_ := bb BK142 hb; have n2_ := Aside0.mk (IsS60.below (by repeat (first | (with_reducible first | exact HI0.out | apply IsS60.alloc | apply IsS60.drewN | apply IsS60.drew | apply IsS60.set_0 | apply IsS60.set_1 | refine IsS60.far ?_ NB0_141.out _ | refine IsS60.far ?_ NB0_142.out _) | exact HI0.out)) hb); have n3_ := Aside0.mk (Kd.C_below (by repeat (first | (with_reducible exact HR143_2.out) | (with_reducible refine Kd.C_alloc ?_ _) | (with_reducible refine Kd.C_drewN ?_ _) | (with_reducible refine Kd.C_drew ?_) | exact HR143_2.out)) hb); have n4_ := Aside0.mk (KeepBut.trans (by repeat (first | (with_reducible first | exact HK.out | apply KeepBut.set_ | apply keep_drewN | apply keep_drew | apply keep_alloc | refine keep_far ?_ GW141.out _ | refine keep_far ?_ GW142.out _) | exact HK.out)) (KeepBut.of_below hb g none) (.inl rfl)); have n5_ := Aside0.mk (below_step (by repeat (first | (with_reducible first | exact HB.out | apply below_alloc | apply pw_below_drewN | apply below_drew1 | refine below_set ?_ (IsS60.ge HI0.out) | refine below_set ?_ GE141.out | refine below_set ?_ GE142.out) | exact HB.out)) hb); have n6_ := Aside0.mk (hbox); have n7_ := Aside0.mk ((by rw [hg]; exact (keep_size (w := w) (g := g) (row := none) (by repeat (first | (with_reducible first | exact HK.out | apply KeepBut.set_ | apply keep_drewN | apply keep_drew | apply keep_alloc | refine keep_far ?_ GW141.out _ | refine keep_far ?_ GW142.out _) | exact HK.out))) : w.heap.size ≤ gb144)); have n8_ := Aside0.mk ((Nat.le_trans HW0.out (by rw [hg]; exact (keep_size (w := w) (g := g) (row := none) (by repeat (first | (with_reducible first | exact HK.out | apply KeepBut.set_ | apply keep_drewN | apply keep_drew | apply keep_alloc | refine keep_far ?_ GW141.out _ | refine keep_far ?_ GW142.out _) | exact HK.out))) : w.heap.size ≤ gb144) : w0.heap.size ≤ gb144)); have n9_ := nl BK141 hg; have n10_ := ns n9_; have n11_ := nl BK142 hg; have n12_ := ns n11_; have n13_ := Aside0.mk ((by rw [hg]; exact Nat.ne_of_lt (IsS60.lt (show IsS60 w0 _ g x1000_1 x1001_1 from by repeat (first | (with_reducible first | exact HI0.out | apply IsS60.alloc | apply IsS60.drewN | apply IsS60.drew | apply IsS60.set_0 | apply IsS60.set_1 | refine IsS60.far ?_ NB0_141.out _ | refine IsS60.far ?_ NB0_142.out _) | exact HI0.out))) : g ≠ gb144)); have n14_ := Aside0.mk ((by rw [hg]; exact Nat.ne_of_gt (IsS60.lt (show IsS60 w0 _ g x1000_1 x1001_1 from by repeat (first | (with_reducible first | exact HI0.out | apply IsS60.alloc | apply IsS60.drewN | apply IsS60.drew | apply IsS60.set_0 | apply IsS60.set_1 | refine IsS60.far ?_ NB0_141.out _ | refine IsS60.far ?_ NB0_142.out _) | exact HI0.out))) : gb144 ≠ g)); clear BK141; clear BK142; clear HI0; clear HR143_2; clear HK; clear HB; have BK141 := n0_; have BK142 := n1_; have HI0 := n2_; have HR143_2 := n3_; have HK := n4_; have HB := n5_; have BK144 := n6_; have GW144 := n7_; have GE144 := n8_; have NB141_144 := n9_; have NB144_141 := n10_; have NB142_144 := n11_; have NB144_142 := n12_; have NB0_144 := n13_; have NB144_0 := n14_; clear n0_ n1_ n2_ n3_ n4_ n5_ n6_ n7_ n8_ n9_ n10_ n11_ n12_ n13_ n14_; clear hb hbox hg; have hnb15 := NB144_141.out; have hnc15 := NB141_144.out; have hnb16 := NB144_142.out; have hnc16 := NB142_144.out; have hnb17 := NB144_0.out; have hnc17 := NB0_144.out; obtain ⟨hcz18_0, hcz18_1, hcz18_2, hfz18_0, hfz18_1, hfz18_2⟩ := bc3 BK144; have hnb19 := NB141_142.out; have hnc19 := NB142_141.out; have hnb20 := NB141_0.out; have hnc20 := NB0_141.out; obtain ⟨hcz21_0, hcz21_1, hcz21_2, hfz21_0, hfz21_1, hfz21_2⟩ := bc3 BK141) | ((with_reducible refine gate_callee (f := 29) rfl ?_); refine goesL_ (some 23) rfl rfl Tryd.func29 kx rfl #[.pointer (some ⟨g, 0, none⟩), .agg #[.int .i64 (((rd_T24 l1_2 0).f0)), .int .i64 (((rd_T24 l1_2 0).f1)), .slice A143_2 (((rd_T24 l1_2 0).f2)).length c143_2]] rfl aa ?_; (with_reducible refine (ih k1 (by have := HK1.out; omega) g x1000_1 x1001_1 ((rd_T24 l1_2 0).f0) ((rd_T24 l1_2 0).f1) _ _ ((rd_T24 l1_2 0).f2) t145 t146 t147 w0 _ ?side1 ?side2 ?side3 ?side4 A11.out).mono ?_); (case side1 => repeat (first | (with_reducible first | exact HI0.out | apply IsS60.alloc | apply IsS60.drewN | apply IsS60.drew | apply IsS60.set_0 | apply IsS60.set_1 | refine IsS60.far ?_ NB0_141.out _ | refine IsS60.far ?_ NB0_142.out _ | refine IsS60.far ?_ NB0_144.out _) | exact HI0.out)); (case side2 => repeat (first | (with_reducible first | exact HB.out | apply below_alloc | apply pw_below_drewN | apply below_drew1 | refine below_set ?_ (IsS60.ge HI0.out) | refine below_set ?_ GE141.out | refine below_set ?_ GE142.out | refine below_set ?_ GE144.out) | exact HB.out)); (case side3 => exact Kd.C_foot_step HF_.out (by repeat (first | (with_reducible first | exact HK.out | apply KeepBut.set_ | apply keep_drewN | apply keep_drew | apply keep_alloc | refine keep_far ?_ GW141.out _ | refine keep_far ?_ GW142.out _ | refine keep_far ?_ GW144.out _) | exact HK.out))); (case side4 => exact HC143_2.out); rintro e w22 ⟨rfl, hi, hb, hk⟩; refine ⟨_, rfl, ?_⟩; have n0_ := Aside0.mk (KeepBut.blk hk (g' := gb141) (o := .cells #[.int .i64 a1_0, .int .i64 a1_1, .slice (some ad143) l1_2.length c1_2] 24 (0, 0)) (bk BK141) NB141_0.out (by simp)); have n1_ := Aside0.mk (KeepBut.blk hk (g' := gb142) (o := .cells #[.int .i64 x143000_1, .int .i64 x143001_1] 83 (0, 0)) (bk BK142) NB142_0.out (by simp)); have n2_ := Aside0.mk (KeepBut.blk hk (g' := gb144) (o := .cells #[.int .i64 ((rd_T24 l1_2 0).f0), .int .i64 ((rd_T24 l1_2 0).f1), .slice A143_2 ((rd_T24 l1_2 0).f2).length c143_2] 24 (0, 0)) (bk BK144) NB144_0.out (by simp)); have n3_ := Aside0.mk (KeepBut.trans (by repeat (first | (with_reducible first | exact HK.out | apply KeepBut.set_ | apply keep_drewN | apply keep_drew | apply keep_alloc | refine keep_far ?_ GW141.out _ | refine keep_far ?_ GW142.out _ | refine keep_far ?_ GW144.out _) | exact HK.out)) hk (.inl rfl)); have n4_ := Aside0.mk (hb); have n5_ := Aside0.mk (hi); clear BK141; clear BK142; clear BK144; clear HK; clear HB; clear HI0; have BK141 := n0_; have BK142 := n1_; have BK144 := n2_; have HK := n3_; have HB := n4_; have HI0 := n5_; clear n0_ n1_ n2_ n3_ n4_ n5_; (try clear hb); (try clear hb2); (try clear hk); (try clear hi); have hnb23 := NB142_0.out; have hnc23 := NB0_142.out; obtain ⟨hcz24_0, hcz24_1, hfz24_0, hfz24_1⟩ := bc2 BK142; obtain ⟨HGz25, hgz25⟩ := HI0.out; have hcz25_0 := cellS60_0 HGz25; have hcz25_1 := cellS60_1 HGz25; have hfz25_0 := blk_frozen HGz25 0; have hfz25_1 := blk_frozen HGz25 1; clear HGz25 hgz25))
        go_roundg k1
        case measure => have := HK1.out; omega
        case rel => exact ⟨(0 + 1), (t146), (t147), (t145), (x143001_1), rs, H', ⟨by have := HK1.out; omega⟩, ⟨bk BK141⟩, ⟨bk BK142⟩, ⟨by repeat (first | (with_reducible first | exact HI0.out | apply IsS60.alloc | apply IsS60.drewN | apply IsS60.drew | apply IsS60.set_0 | apply IsS60.set_1 | refine IsS60.far ?_ NB0_141.out _ | refine IsS60.far ?_ NB0_142.out _ | refine IsS60.far ?_ NB0_144.out _) | exact HI0.out)⟩, ⟨by repeat (first | (with_reducible first | exact HK.out | apply KeepBut.set_ | apply keep_drewN | apply keep_drew | apply keep_alloc | refine keep_far ?_ GW141.out _ | refine keep_far ?_ GW142.out _ | refine keep_far ?_ GW144.out _) | exact HK.out)⟩, ⟨by repeat (first | (with_reducible first | exact HB.out | apply below_alloc | apply pw_below_drewN | apply below_drew1 | refine below_set ?_ (IsS60.ge HI0.out) | refine below_set ?_ GE141.out | refine below_set ?_ GE142.out | refine below_set ?_ GE144.out) | exact HB.out)⟩⟩
       ·rw [if_neg c13] at H
        have c13b0 : (t147 == 0) = false := beq_eq_false_iff_ne.mpr c13
        have c13b1 : (t147 != 0) = true := bne_iff_ne.mpr c13
        simp only [Option.some.injEq, Prod.mk.injEq] at H
        obtain ⟨rfl, rfl, rfl⟩ := H
        have p143 : 0 ≤ (0 : Int) := (by omega)
        have q143 : 0 < (l1_2.length : Int) := of_decide_eq_true ka
        obtain ⟨ad143, A143_2, c143_2, e143, hx143_0, hx143_1, hx143_2, hl143_2, hi143_2⟩ := at_T24 (Kd.C_foot_now HR1_2.out HK.out) 0 p143 q143
        have HF_ := Aside0.mk (rule_machine_value.foot HR1_2.out HK.out p143 q143 e143 hx143_2)
        cases e143
        have qi143 : (0 < l1_2.length) = True := eq_true (by omega)
        (try rw [show ((0 : Int)).toNat = 0 from rfl] at hx143_0)
        (try rw [show 0 * 3 = 0 from rfl] at hx143_0)
        (try rw [Addr.add_zero'] at hx143_0)
        (try rw [show ((0 : Int)).toNat = 0 from rfl] at hx143_1)
        (try rw [show 0 * 3 = 0 from rfl] at hx143_1)
        (try rw [Addr.add_zero'] at hx143_1)
        (try rw [show ((0 : Int)).toNat = 0 from rfl] at hx143_2)
        (try rw [show 0 * 3 = 0 from rfl] at hx143_2)
        (try rw [Addr.add_zero'] at hx143_2)
        have HR143_2 := Aside0.mk hi143_2
        have HC143_2 := Aside0.mk hl143_2
        clear hi143_2 hl143_2
        replace p143 := eq_true p143
        replace q143 := eq_true q143
        go_wp2_with (first | ((with_reducible refine gate_dst (N := 7) rfl ?_); refine box_event ?hg (N := 7) ?hd (cs := #[.int .i64 0, .int .i64 0, .slice none 0 0]) (t := 24) ?hr ?_; (case hd => rfl); (case hg => rfl); (case hr => first | (go_simp; done) | (go_simp; rfl)); intro gb144 hg w26 hbox hb; have n0_ := bb BK141 hb; have n1_ := bb BK142 hb; have n2_ := Aside0.mk (IsS60.below (by repeat (first | (with_reducible first | exact HI0.out | apply IsS60.alloc | apply IsS60.drewN | apply IsS60.drew | apply IsS60.set_0 | apply IsS60.set_1 | refine IsS60.far ?_ NB0_141.out _ | refine IsS60.far ?_ NB0_142.out _) | exact HI0.out)) hb); have n3_ := Aside0.mk (Kd.C_below (by repeat (first | (with_reducible exact HR143_2.out) | (with_reducible refine Kd.C_alloc ?_ _) | (with_reducible refine Kd.C_drewN ?_ _) | (with_reducible refine Kd.C_drew ?_) | exact HR143_2.out)) hb); have n4_ := Aside0.mk (KeepBut.trans (by repeat (first | (with_reducible first | exact HK.out | apply KeepBut.set_ | apply keep_drewN | apply keep_drew | apply keep_alloc | refine keep_far ?_ GW141.out _ | refine keep_far ?_ GW142.out _) | exact HK.out)) (KeepBut.of_below hb g none) (.inl rfl)); have n5_ := Aside0.mk (below_step (by repeat (first | (with_reducible first | exact HB.out | apply below_alloc | apply pw_below_drewN | apply below_drew1 | refine below_set ?_ (IsS60.ge HI0.out) | refine below_set ?_ GE141.out | refine below_set ?_ GE142.out) | exact HB.out)) hb); have n6_ := Aside0.mk (hbox); have n7_ := Aside0.mk ((by rw [hg]; exact (keep_size (w := w) (g := g) (row := none) (by repeat (first | (with_reducible first | exact HK.out | apply KeepBut.set_ | apply keep_drewN | apply keep_drew | apply keep_alloc | refine keep_far ?_ GW141.out _ | refine keep_far ?_ GW142.out _) | exact HK.out))) : w.heap.size ≤ gb144)); have n8_ := Aside0.mk ((Nat.le_trans HW0.out (by rw [hg]; exact (keep_size (w := w) (g := g) (row := none) (by repeat (first | (with_reducible first | exact HK.out | apply KeepBut.set_ | apply keep_drewN | apply keep_drew | apply keep_alloc | refine keep_far ?_ GW141.out _ | refine keep_far ?_ GW142.out _) | exact HK.out))) : w.heap.size ≤ gb144) : w0.heap.size ≤ gb144)); have n9_ := nl BK141 hg; have n10_ := ns n9_; have n11_ := nl BK142 hg; have n12_ := ns n11_; have n13_ := Aside0.mk ((by rw [hg]; exact Nat.ne_of_lt (IsS60.lt (show IsS60 w0 _ g x1000_1 x1001_1 from by repeat (first | (with_reducible first | exact HI0.out | apply IsS60.alloc | apply IsS60.drewN | apply IsS60.drew | apply IsS60.set_0 | apply IsS60.set_1 | refine IsS60.far ?_ NB0_141.out _ | refine IsS60.far ?_ NB0_142.out _) | exact HI0.out))) : g ≠ gb144)); have n14_ := Aside0.mk ((by rw [hg]; exact Nat.ne_of_gt (IsS60.lt (show IsS60 w0 _ g x1000_1 x1001_1 from by repeat (first | (with_reducible first | exact HI0.out | apply IsS60.alloc | apply IsS60.drewN | apply IsS60.drew | apply IsS60.set_0 | apply IsS60.set_1 | refine IsS60.far ?_ NB0_141.out _ | refine IsS60.far ?_ NB0_142.out _) | exact HI0.out))) : gb144 ≠ g)); clear BK141; clear BK142; clear HI0; clear HR143_2; clear HK; clear HB; have BK141 := n0_; have BK142 := n1_; have HI0 := n2_; have HR143_2 := n3_; have HK := n4_; have HB := n5_; have BK144 := n6_; have GW144 := n7_; have GE144 := n8_; have NB141_144 := n9_; have NB144_141 := n10_; have NB142_144 := n11_; have NB144_142 := n12_; have NB0_144 := n13_; have NB144_0 := n14_; clear n0_ n1_ n2_ n3_ n4_ n5_ n6_ n7_ n8_ n9_ n10_ n11_ n12_ n13_ n14_; clear hb hbox hg; have hnb27 := NB144_141.out; have hnc27 := NB141_144.out; have hnb28 := NB144_142.out; have hnc28 := NB142_144.out; have hnb29 := NB144_0.out; have hnc29 := NB0_144.out; obtain ⟨hcz30_0, hcz30_1, hcz30_2, hfz30_0, hfz30_1, hfz30_2⟩ := bc3 BK144; have hnb31 := NB141_142.out; have hnc31 := NB142_141.out; have hnb32 := NB141_0.out; have hnc32 := NB0_141.out; obtain ⟨hcz33_0, hcz33_1, hcz33_2, hfz33_0, hfz33_1, hfz33_2⟩ := bc3 BK141) | ((with_reducible refine gate_callee (f := 29) rfl ?_); refine goesL_ (some 23) rfl rfl Tryd.func29 kx rfl #[.pointer (some ⟨g, 0, none⟩), .agg #[.int .i64 (((rd_T24 l1_2 0).f0)), .int .i64 (((rd_T24 l1_2 0).f1)), .slice A143_2 (((rd_T24 l1_2 0).f2)).length c143_2]] rfl aa ?_; (with_reducible refine (ih k1 (by have := HK1.out; omega) g x1000_1 x1001_1 ((rd_T24 l1_2 0).f0) ((rd_T24 l1_2 0).f1) _ _ ((rd_T24 l1_2 0).f2) t145 t146 t147 w0 _ ?side1 ?side2 ?side3 ?side4 A11.out).mono ?_); (case side1 => repeat (first | (with_reducible first | exact HI0.out | apply IsS60.alloc | apply IsS60.drewN | apply IsS60.drew | apply IsS60.set_0 | apply IsS60.set_1 | refine IsS60.far ?_ NB0_141.out _ | refine IsS60.far ?_ NB0_142.out _ | refine IsS60.far ?_ NB0_144.out _) | exact HI0.out)); (case side2 => repeat (first | (with_reducible first | exact HB.out | apply below_alloc | apply pw_below_drewN | apply below_drew1 | refine below_set ?_ (IsS60.ge HI0.out) | refine below_set ?_ GE141.out | refine below_set ?_ GE142.out | refine below_set ?_ GE144.out) | exact HB.out)); (case side3 => exact Kd.C_foot_step HF_.out (by repeat (first | (with_reducible first | exact HK.out | apply KeepBut.set_ | apply keep_drewN | apply keep_drew | apply keep_alloc | refine keep_far ?_ GW141.out _ | refine keep_far ?_ GW142.out _ | refine keep_far ?_ GW144.out _) | exact HK.out))); (case side4 => exact HC143_2.out); rintro e w34 ⟨rfl, hi, hb, hk⟩; refine ⟨_, rfl, ?_⟩; have n0_ := Aside0.mk (KeepBut.blk hk (g' := gb141) (o := .cells #[.int .i64 a1_0, .int .i64 a1_1, .slice (some ad143) l1_2.length c1_2] 24 (0, 0)) (bk BK141) NB141_0.out (by simp)); have n1_ := Aside0.mk (KeepBut.blk hk (g' := gb142) (o := .cells #[.int .i64 x143000_1, .int .i64 x143001_1] 83 (0, 0)) (bk BK142) NB142_0.out (by simp)); have n2_ := Aside0.mk (KeepBut.blk hk (g' := gb144) (o := .cells #[.int .i64 ((rd_T24 l1_2 0).f0), .int .i64 ((rd_T24 l1_2 0).f1), .slice A143_2 ((rd_T24 l1_2 0).f2).length c143_2] 24 (0, 0)) (bk BK144) NB144_0.out (by simp)); have n3_ := Aside0.mk (KeepBut.trans (by repeat (first | (with_reducible first | exact HK.out | apply KeepBut.set_ | apply keep_drewN | apply keep_drew | apply keep_alloc | refine keep_far ?_ GW141.out _ | refine keep_far ?_ GW142.out _ | refine keep_far ?_ GW144.out _) | exact HK.out)) hk (.inl rfl)); have n4_ := Aside0.mk (hb); have n5_ := Aside0.mk (hi); clear BK141; clear BK142; clear BK144; clear HK; clear HB; clear HI0; have BK141 := n0_; have BK142 := n1_; have BK144 := n2_; have HK := n3_; have HB := n4_; have HI0 := n5_; clear n0_ n1_ n2_ n3_ n4_ n5_; (try clear hb); (try clear hb2); (try clear hk); (try clear hi); have hnb35 := NB142_0.out; have hnc35 := NB0_142.out; obtain ⟨hcz36_0, hcz36_1, hfz36_0, hfz36_1⟩ := bc2 BK142; obtain ⟨HGz37, hgz37⟩ := HI0.out; have hcz37_0 := cellS60_0 HGz37; have hcz37_1 := cellS60_1 HGz37; have hfz37_0 := blk_frozen HGz37 0; have hfz37_1 := blk_frozen HGz37 1; clear HGz37 hgz37))
        go_ret
        exact ⟨by first | rfl | (simp [errW_none, errW_some] <;> rfl) | (simp [*, errW_none, errW_some] <;> rfl), by repeat (first | (with_reducible first | exact HI0.out | apply IsS60.alloc | apply IsS60.drewN | apply IsS60.drew | apply IsS60.set_0 | apply IsS60.set_1 | refine IsS60.far ?_ NB0_141.out _ | refine IsS60.far ?_ NB0_142.out _ | refine IsS60.far ?_ NB0_144.out _) | exact HI0.out), by repeat (first | (with_reducible first | exact HB.out | apply below_alloc | apply pw_below_drewN | apply below_drew1 | refine below_set ?_ (IsS60.ge HI0.out) | refine below_set ?_ GE141.out | refine below_set ?_ GE142.out | refine below_set ?_ GE144.out) | exact HB.out), by repeat (first | (with_reducible first | exact HK.out | apply KeepBut.set_ | apply keep_drewN | apply keep_drew | apply keep_alloc | refine keep_far ?_ GW141.out _ | refine keep_far ?_ GW142.out _ | refine keep_far ?_ GW144.out _) | exact HK.out)⟩
      ·rw [if_neg c12] at H
       by_cases c38 : x15_1 = 1
       ·subst c38
        have H1 : (if t147 = 0 then (rule_machine_value.l0 k1 l1_2 (l1_2.length : Int) (1 + 1) t146 t147 a1_0 a1_1 l1_2 x143000_1 t145) else (some (0, t146, t147))) = some (r1, r2, r3) := by rw [if_pos rfl] at H; exact H
        clear H
        have H := H1
        clear H1
        by_cases c39 : t147 = 0
        ·rw [if_pos c39] at H
         have c39b0 : (t147 == 0) = true := beq_iff_eq.mpr c39
         have c39b1 : (t147 != 0) = false := bne_eq_false_iff_eq.mpr c39
         clear c39
         have H' := Aside0.mk H
         clear H
         have p143 : 0 ≤ (1 : Int) := (by omega)
         have q143 : 1 < (l1_2.length : Int) := of_decide_eq_true ka
         obtain ⟨ad143, A143_2, c143_2, e143, hx143_0, hx143_1, hx143_2, hl143_2, hi143_2⟩ := at_T24 (Kd.C_foot_now HR1_2.out HK.out) 1 p143 q143
         have HF_ := Aside0.mk (rule_machine_value.foot HR1_2.out HK.out p143 q143 e143 hx143_2)
         cases e143
         (try simp only [show (1 : Int).toNat = 1 from rfl, Nat.reduceMul, Nat.reduceEqDiff, Go.Addr.add, ↓reduceIte] at hx143_0)
         (try simp only [show (1 : Int).toNat = 1 from rfl, Nat.reduceMul, Nat.reduceEqDiff, Go.Addr.add, ↓reduceIte] at hx143_1)
         (try simp only [show (1 : Int).toNat = 1 from rfl, Nat.reduceMul, Nat.reduceEqDiff, Go.Addr.add, ↓reduceIte] at hx143_2)
         have qi143 : (1 < l1_2.length) = True := eq_true (by omega)
         (try rw [show ((1 : Int)).toNat = 1 from rfl] at hx143_0)
         (try rw [show 1 * 3 = 3 from rfl] at hx143_0)
         (try rw [show ((1 : Int)).toNat = 1 from rfl] at hx143_1)
         (try rw [show 1 * 3 = 3 from rfl] at hx143_1)
         (try rw [show ((1 : Int)).toNat = 1 from rfl] at hx143_2)
         (try rw [show 1 * 3 = 3 from rfl] at hx143_2)
         have HR143_2 := Aside0.mk hi143_2
         have HC143_2 := Aside0.mk hl143_2
         clear hi143_2 hl143_2
         replace p143 := eq_true p143
         replace q143 := eq_true q143
         go_wp2_with (first | ((with_reducible refine gate_dst (N := 7) rfl ?_); refine box_event ?hg (N := 7) ?hd (cs := #[.int .i64 0, .int .i64 0, .slice none 0 0]) (t := 24) ?hr ?_; (case hd => rfl); (case hg => rfl); (case hr => first | (go_simp; done) | (go_simp; rfl)); intro gb144 hg w40 hbox hb; have n0_ := bb BK141 hb; have n1_ := bb BK142 hb; have n2_ := Aside0.mk (IsS60.below (by repeat (first | (with_reducible first | exact HI0.out | apply IsS60.alloc | apply IsS60.drewN | apply IsS60.drew | apply IsS60.set_0 | apply IsS60.set_1 | refine IsS60.far ?_ NB0_141.out _ | refine IsS60.far ?_ NB0_142.out _) | exact HI0.out)) hb); have n3_ := Aside0.mk (Kd.C_below (by repeat (first | (with_reducible exact HR143_2.out) | (with_reducible refine Kd.C_alloc ?_ _) | (with_reducible refine Kd.C_drewN ?_ _) | (with_reducible refine Kd.C_drew ?_) | exact HR143_2.out)) hb); have n4_ := Aside0.mk (KeepBut.trans (by repeat (first | (with_reducible first | exact HK.out | apply KeepBut.set_ | apply keep_drewN | apply keep_drew | apply keep_alloc | refine keep_far ?_ GW141.out _ | refine keep_far ?_ GW142.out _) | exact HK.out)) (KeepBut.of_below hb g none) (.inl rfl)); have n5_ := Aside0.mk (below_step (by repeat (first | (with_reducible first | exact HB.out | apply below_alloc | apply pw_below_drewN | apply below_drew1 | refine below_set ?_ (IsS60.ge HI0.out) | refine below_set ?_ GE141.out | refine below_set ?_ GE142.out) | exact HB.out)) hb); have n6_ := Aside0.mk (hbox); have n7_ := Aside0.mk ((by rw [hg]; exact (keep_size (w := w) (g := g) (row := none) (by repeat (first | (with_reducible first | exact HK.out | apply KeepBut.set_ | apply keep_drewN | apply keep_drew | apply keep_alloc | refine keep_far ?_ GW141.out _ | refine keep_far ?_ GW142.out _) | exact HK.out))) : w.heap.size ≤ gb144)); have n8_ := Aside0.mk ((Nat.le_trans HW0.out (by rw [hg]; exact (keep_size (w := w) (g := g) (row := none) (by repeat (first | (with_reducible first | exact HK.out | apply KeepBut.set_ | apply keep_drewN | apply keep_drew | apply keep_alloc | refine keep_far ?_ GW141.out _ | refine keep_far ?_ GW142.out _) | exact HK.out))) : w.heap.size ≤ gb144) : w0.heap.size ≤ gb144)); have n9_ := nl BK141 hg; have n10_ := ns n9_; have n11_ := nl BK142 hg; have n12_ := ns n11_; have n13_ := Aside0.mk ((by rw [hg]; exact Nat.ne_of_lt (IsS60.lt (show IsS60 w0 _ g x1000_1 x1001_1 from by repeat (first | (with_reducible first | exact HI0.out | apply IsS60.alloc | apply IsS60.drewN | apply IsS60.drew | apply IsS60.set_0 | apply IsS60.set_1 | refine IsS60.far ?_ NB0_141.out _ | refine IsS60.far ?_ NB0_142.out _) | exact HI0.out))) : g ≠ gb144)); have n14_ := Aside0.mk ((by rw [hg]; exact Nat.ne_of_gt (IsS60.lt (show IsS60 w0 _ g x1000_1 x1001_1 from by repeat (first | (with_reducible first | exact HI0.out | apply IsS60.alloc | apply IsS60.drewN | apply IsS60.drew | apply IsS60.set_0 | apply IsS60.set_1 | refine IsS60.far ?_ NB0_141.out _ | refine IsS60.far ?_ NB0_142.out _) | exact HI0.out))) : gb144 ≠ g)); clear BK141; clear BK142; clear HI0; clear HR143_2; clear HK; clear HB; have BK141 := n0_; have BK142 := n1_; have HI0 := n2_; have HR143_2 := n3_; have HK := n4_; have HB := n5_; have BK144 := n6_; have GW144 := n7_; have GE144 := n8_; have NB141_144 := n9_; have NB144_141 := n10_; have NB142_144 := n11_; have NB144_142 := n12_; have NB0_144 := n13_; have NB144_0 := n14_; clear n0_ n1_ n2_ n3_ n4_ n5_ n6_ n7_ n8_ n9_ n10_ n11_ n12_ n13_ n14_; clear hb hbox hg; have hnb41 := NB144_141.out; have hnc41 := NB141_144.out; have hnb42 := NB144_142.out; have hnc42 := NB142_144.out; have hnb43 := NB144_0.out; have hnc43 := NB0_144.out; obtain ⟨hcz44_0, hcz44_1, hcz44_2, hfz44_0, hfz44_1, hfz44_2⟩ := bc3 BK144; have hnb45 := NB141_142.out; have hnc45 := NB142_141.out; have hnb46 := NB141_0.out; have hnc46 := NB0_141.out; obtain ⟨hcz47_0, hcz47_1, hcz47_2, hfz47_0, hfz47_1, hfz47_2⟩ := bc3 BK141) | ((with_reducible refine gate_callee (f := 29) rfl ?_); refine goesL_ (some 23) rfl rfl Tryd.func29 kx rfl #[.pointer (some ⟨g, 0, none⟩), .agg #[.int .i64 (((rd_T24 l1_2 1).f0)), .int .i64 (((rd_T24 l1_2 1).f1)), .slice A143_2 (((rd_T24 l1_2 1).f2)).length c143_2]] rfl aa ?_; (with_reducible refine (ih k1 (by have := HK1.out; omega) g x1000_1 x1001_1 ((rd_T24 l1_2 1).f0) ((rd_T24 l1_2 1).f1) _ _ ((rd_T24 l1_2 1).f2) t145 t146 t147 w0 _ ?side1 ?side2 ?side3 ?side4 A11.out).mono ?_); (case side1 => repeat (first | (with_reducible first | exact HI0.out | apply IsS60.alloc | apply IsS60.drewN | apply IsS60.drew | apply IsS60.set_0 | apply IsS60.set_1 | refine IsS60.far ?_ NB0_141.out _ | refine IsS60.far ?_ NB0_142.out _ | refine IsS60.far ?_ NB0_144.out _) | exact HI0.out)); (case side2 => repeat (first | (with_reducible first | exact HB.out | apply below_alloc | apply pw_below_drewN | apply below_drew1 | refine below_set ?_ (IsS60.ge HI0.out) | refine below_set ?_ GE141.out | refine below_set ?_ GE142.out | refine below_set ?_ GE144.out) | exact HB.out)); (case side3 => exact Kd.C_foot_step HF_.out (by repeat (first | (with_reducible first | exact HK.out | apply KeepBut.set_ | apply keep_drewN | apply keep_drew | apply keep_alloc | refine keep_far ?_ GW141.out _ | refine keep_far ?_ GW142.out _ | refine keep_far ?_ GW144.out _) | exact HK.out))); (case side4 => exact HC143_2.out); rintro e w48 ⟨rfl, hi, hb, hk⟩; refine ⟨_, rfl, ?_⟩; have n0_ := Aside0.mk (KeepBut.blk hk (g' := gb141) (o := .cells #[.int .i64 a1_0, .int .i64 a1_1, .slice (some ad143) l1_2.length c1_2] 24 (0, 0)) (bk BK141) NB141_0.out (by simp)); have n1_ := Aside0.mk (KeepBut.blk hk (g' := gb142) (o := .cells #[.int .i64 x143000_1, .int .i64 x143001_1] 83 (0, 0)) (bk BK142) NB142_0.out (by simp)); have n2_ := Aside0.mk (KeepBut.blk hk (g' := gb144) (o := .cells #[.int .i64 ((rd_T24 l1_2 1).f0), .int .i64 ((rd_T24 l1_2 1).f1), .slice A143_2 ((rd_T24 l1_2 1).f2).length c143_2] 24 (0, 0)) (bk BK144) NB144_0.out (by simp)); have n3_ := Aside0.mk (KeepBut.trans (by repeat (first | (with_reducible first | exact HK.out | apply KeepBut.set_ | apply keep_drewN | apply keep_drew | apply keep_alloc | refine keep_far ?_ GW141.out _ | refine keep_far ?_ GW142.out _ | refine keep_far ?_ GW144.out _) | exact HK.out)) hk (.inl rfl)); have n4_ := Aside0.mk (hb); have n5_ := Aside0.mk (hi); clear BK141; clear BK142; clear BK144; clear HK; clear HB; clear HI0; have BK141 := n0_; have BK142 := n1_; have BK144 := n2_; have HK := n3_; have HB := n4_; have HI0 := n5_; clear n0_ n1_ n2_ n3_ n4_ n5_; (try clear hb); (try clear hb2); (try clear hk); (try clear hi); have hnb49 := NB142_0.out; have hnc49 := NB0_142.out; obtain ⟨hcz50_0, hcz50_1, hfz50_0, hfz50_1⟩ := bc2 BK142; obtain ⟨HGz51, hgz51⟩ := HI0.out; have hcz51_0 := cellS60_0 HGz51; have hcz51_1 := cellS60_1 HGz51; have hfz51_0 := blk_frozen HGz51 0; have hfz51_1 := blk_frozen HGz51 1; clear HGz51 hgz51))
         go_roundg k1
         case measure => have := HK1.out; omega
         case rel => exact ⟨(1 + 1), (t146), (t147), (x143000_1), (t145), rs, H', ⟨by have := HK1.out; omega⟩, ⟨bk BK141⟩, ⟨bk BK142⟩, ⟨by repeat (first | (with_reducible first | exact HI0.out | apply IsS60.alloc | apply IsS60.drewN | apply IsS60.drew | apply IsS60.set_0 | apply IsS60.set_1 | refine IsS60.far ?_ NB0_141.out _ | refine IsS60.far ?_ NB0_142.out _ | refine IsS60.far ?_ NB0_144.out _) | exact HI0.out)⟩, ⟨by repeat (first | (with_reducible first | exact HK.out | apply KeepBut.set_ | apply keep_drewN | apply keep_drew | apply keep_alloc | refine keep_far ?_ GW141.out _ | refine keep_far ?_ GW142.out _ | refine keep_far ?_ GW144.out _) | exact HK.out)⟩, ⟨by repeat (first | (with_reducible first | exact HB.out | apply below_alloc | apply pw_below_drewN | apply below_drew1 | refine below_set ?_ (IsS60.ge HI0.out) | refine below_set ?_ GE141.out | refine below_set ?_ GE142.out | refine below_set ?_ GE144.out) | exact HB.out)⟩⟩
        ·rw [if_neg c39] at H
         have c39b0 : (t147 == 0) = false := beq_eq_false_iff_ne.mpr c39
         have c39b1 : (t147 != 0) = true := bne_iff_ne.mpr c39
         simp only [Option.some.injEq, Prod.mk.injEq] at H
         obtain ⟨rfl, rfl, rfl⟩ := H
         have p143 : 0 ≤ (1 : Int) := (by omega)
         have q143 : 1 < (l1_2.length : Int) := of_decide_eq_true ka
         obtain ⟨ad143, A143_2, c143_2, e143, hx143_0, hx143_1, hx143_2, hl143_2, hi143_2⟩ := at_T24 (Kd.C_foot_now HR1_2.out HK.out) 1 p143 q143
         have HF_ := Aside0.mk (rule_machine_value.foot HR1_2.out HK.out p143 q143 e143 hx143_2)
         cases e143
         (try simp only [show (1 : Int).toNat = 1 from rfl, Nat.reduceMul, Nat.reduceEqDiff, Go.Addr.add, ↓reduceIte] at hx143_0)
         (try simp only [show (1 : Int).toNat = 1 from rfl, Nat.reduceMul, Nat.reduceEqDiff, Go.Addr.add, ↓reduceIte] at hx143_1)
         (try simp only [show (1 : Int).toNat = 1 from rfl, Nat.reduceMul, Nat.reduceEqDiff, Go.Addr.add, ↓reduceIte] at hx143_2)
         have qi143 : (1 < l1_2.length) = True := eq_true (by omega)
         (try rw [show ((1 : Int)).toNat = 1 from rfl] at hx143_0)
         (try rw [show 1 * 3 = 3 from rfl] at hx143_0)
         (try rw [show ((1 : Int)).toNat = 1 from rfl] at hx143_1)
         (try rw [show 1 * 3 = 3 from rfl] at hx143_1)
         (try rw [show ((1 : Int)).toNat = 1 from rfl] at hx143_2)
         (try rw [show 1 * 3 = 3 from rfl] at hx143_2)
         have HR143_2 := Aside0.mk hi143_2
         have HC143_2 := Aside0.mk hl143_2
         clear hi143_2 hl143_2
         replace p143 := eq_true p143
         replace q143 := eq_true q143
         go_wp2_with (first | ((with_reducible refine gate_dst (N := 7) rfl ?_); refine box_event ?hg (N := 7) ?hd (cs := #[.int .i64 0, .int .i64 0, .slice none 0 0]) (t := 24) ?hr ?_; (case hd => rfl); (case hg => rfl); (case hr => first | (go_simp; done) | (go_simp; rfl)); intro gb144 hg w52 hbox hb; have n0_ := bb BK141 hb; have n1_ := bb BK142 hb; have n2_ := Aside0.mk (IsS60.below (by repeat (first | (with_reducible first | exact HI0.out | apply IsS60.alloc | apply IsS60.drewN | apply IsS60.drew | apply IsS60.set_0 | apply IsS60.set_1 | refine IsS60.far ?_ NB0_141.out _ | refine IsS60.far ?_ NB0_142.out _) | exact HI0.out)) hb); have n3_ := Aside0.mk (Kd.C_below (by repeat (first | (with_reducible exact HR143_2.out) | (with_reducible refine Kd.C_alloc ?_ _) | (with_reducible refine Kd.C_drewN ?_ _) | (with_reducible refine Kd.C_drew ?_) | exact HR143_2.out)) hb); have n4_ := Aside0.mk (KeepBut.trans (by repeat (first | (with_reducible first | exact HK.out | apply KeepBut.set_ | apply keep_drewN | apply keep_drew | apply keep_alloc | refine keep_far ?_ GW141.out _ | refine keep_far ?_ GW142.out _) | exact HK.out)) (KeepBut.of_below hb g none) (.inl rfl)); have n5_ := Aside0.mk (below_step (by repeat (first | (with_reducible first | exact HB.out | apply below_alloc | apply pw_below_drewN | apply below_drew1 | refine below_set ?_ (IsS60.ge HI0.out) | refine below_set ?_ GE141.out | refine below_set ?_ GE142.out) | exact HB.out)) hb); have n6_ := Aside0.mk (hbox); have n7_ := Aside0.mk ((by rw [hg]; exact (keep_size (w := w) (g := g) (row := none) (by repeat (first | (with_reducible first | exact HK.out | apply KeepBut.set_ | apply keep_drewN | apply keep_drew | apply keep_alloc | refine keep_far ?_ GW141.out _ | refine keep_far ?_ GW142.out _) | exact HK.out))) : w.heap.size ≤ gb144)); have n8_ := Aside0.mk ((Nat.le_trans HW0.out (by rw [hg]; exact (keep_size (w := w) (g := g) (row := none) (by repeat (first | (with_reducible first | exact HK.out | apply KeepBut.set_ | apply keep_drewN | apply keep_drew | apply keep_alloc | refine keep_far ?_ GW141.out _ | refine keep_far ?_ GW142.out _) | exact HK.out))) : w.heap.size ≤ gb144) : w0.heap.size ≤ gb144)); have n9_ := nl BK141 hg; have n10_ := ns n9_; have n11_ := nl BK142 hg; have n12_ := ns n11_; have n13_ := Aside0.mk ((by rw [hg]; exact Nat.ne_of_lt (IsS60.lt (show IsS60 w0 _ g x1000_1 x1001_1 from by repeat (first | (with_reducible first | exact HI0.out | apply IsS60.alloc | apply IsS60.drewN | apply IsS60.drew | apply IsS60.set_0 | apply IsS60.set_1 | refine IsS60.far ?_ NB0_141.out _ | refine IsS60.far ?_ NB0_142.out _) | exact HI0.out))) : g ≠ gb144)); have n14_ := Aside0.mk ((by rw [hg]; exact Nat.ne_of_gt (IsS60.lt (show IsS60 w0 _ g x1000_1 x1001_1 from by repeat (first | (with_reducible first | exact HI0.out | apply IsS60.alloc | apply IsS60.drewN | apply IsS60.drew | apply IsS60.set_0 | apply IsS60.set_1 | refine IsS60.far ?_ NB0_141.out _ | refine IsS60.far ?_ NB0_142.out _) | exact HI0.out))) : gb144 ≠ g)); clear BK141; clear BK142; clear HI0; clear HR143_2; clear HK; clear HB; have BK141 := n0_; have BK142 := n1_; have HI0 := n2_; have HR143_2 := n3_; have HK := n4_; have HB := n5_; have BK144 := n6_; have GW144 := n7_; have GE144 := n8_; have NB141_144 := n9_; have NB144_141 := n10_; have NB142_144 := n11_; have NB144_142 := n12_; have NB0_144 := n13_; have NB144_0 := n14_; clear n0_ n1_ n2_ n3_ n4_ n5_ n6_ n7_ n8_ n9_ n10_ n11_ n12_ n13_ n14_; clear hb hbox hg; have hnb53 := NB144_141.out; have hnc53 := NB141_144.out; have hnb54 := NB144_142.out; have hnc54 := NB142_144.out; have hnb55 := NB144_0.out; have hnc55 := NB0_144.out; obtain ⟨hcz56_0, hcz56_1, hcz56_2, hfz56_0, hfz56_1, hfz56_2⟩ := bc3 BK144; have hnb57 := NB141_142.out; have hnc57 := NB142_141.out; have hnb58 := NB141_0.out; have hnc58 := NB0_141.out; obtain ⟨hcz59_0, hcz59_1, hcz59_2, hfz59_0, hfz59_1, hfz59_2⟩ := bc3 BK141) | ((with_reducible refine gate_callee (f := 29) rfl ?_); refine goesL_ (some 23) rfl rfl Tryd.func29 kx rfl #[.pointer (some ⟨g, 0, none⟩), .agg #[.int .i64 (((rd_T24 l1_2 1).f0)), .int .i64 (((rd_T24 l1_2 1).f1)), .slice A143_2 (((rd_T24 l1_2 1).f2)).length c143_2]] rfl aa ?_; (with_reducible refine (ih k1 (by have := HK1.out; omega) g x1000_1 x1001_1 ((rd_T24 l1_2 1).f0) ((rd_T24 l1_2 1).f1) _ _ ((rd_T24 l1_2 1).f2) t145 t146 t147 w0 _ ?side1 ?side2 ?side3 ?side4 A11.out).mono ?_); (case side1 => repeat (first | (with_reducible first | exact HI0.out | apply IsS60.alloc | apply IsS60.drewN | apply IsS60.drew | apply IsS60.set_0 | apply IsS60.set_1 | refine IsS60.far ?_ NB0_141.out _ | refine IsS60.far ?_ NB0_142.out _ | refine IsS60.far ?_ NB0_144.out _) | exact HI0.out)); (case side2 => repeat (first | (with_reducible first | exact HB.out | apply below_alloc | apply pw_below_drewN | apply below_drew1 | refine below_set ?_ (IsS60.ge HI0.out) | refine below_set ?_ GE141.out | refine below_set ?_ GE142.out | refine below_set ?_ GE144.out) | exact HB.out)); (case side3 => exact Kd.C_foot_step HF_.out (by repeat (first | (with_reducible first | exact HK.out | apply KeepBut.set_ | apply keep_drewN | apply keep_drew | apply keep_alloc | refine keep_far ?_ GW141.out _ | refine keep_far ?_ GW142.out _ | refine keep_far ?_ GW144.out _) | exact HK.out))); (case side4 => exact HC143_2.out); rintro e w60 ⟨rfl, hi, hb, hk⟩; refine ⟨_, rfl, ?_⟩; have n0_ := Aside0.mk (KeepBut.blk hk (g' := gb141) (o := .cells #[.int .i64 a1_0, .int .i64 a1_1, .slice (some ad143) l1_2.length c1_2] 24 (0, 0)) (bk BK141) NB141_0.out (by simp)); have n1_ := Aside0.mk (KeepBut.blk hk (g' := gb142) (o := .cells #[.int .i64 x143000_1, .int .i64 x143001_1] 83 (0, 0)) (bk BK142) NB142_0.out (by simp)); have n2_ := Aside0.mk (KeepBut.blk hk (g' := gb144) (o := .cells #[.int .i64 ((rd_T24 l1_2 1).f0), .int .i64 ((rd_T24 l1_2 1).f1), .slice A143_2 ((rd_T24 l1_2 1).f2).length c143_2] 24 (0, 0)) (bk BK144) NB144_0.out (by simp)); have n3_ := Aside0.mk (KeepBut.trans (by repeat (first | (with_reducible first | exact HK.out | apply KeepBut.set_ | apply keep_drewN | apply keep_drew | apply keep_alloc | refine keep_far ?_ GW141.out _ | refine keep_far ?_ GW142.out _ | refine keep_far ?_ GW144.out _) | exact HK.out)) hk (.inl rfl)); have n4_ := Aside0.mk (hb); have n5_ := Aside0.mk (hi); clear BK141; clear BK142; clear BK144; clear HK; clear HB; clear HI0; have BK141 := n0_; have BK142 := n1_; have BK144 := n2_; have HK := n3_; have HB := n4_; have HI0 := n5_; clear n0_ n1_ n2_ n3_ n4_ n5_; (try clear hb); (try clear hb2); (try clear hk); (try clear hi); have hnb61 := NB142_0.out; have hnc61 := NB0_142.out; obtain ⟨hcz62_0, hcz62_1, hfz62_0, hfz62_1⟩ := bc2 BK142; obtain ⟨HGz63, hgz63⟩ := HI0.out; have hcz63_0 := cellS60_0 HGz63; have hcz63_1 := cellS60_1 HGz63; have hfz63_0 := blk_frozen HGz63 0; have hfz63_1 := blk_frozen HGz63 1; clear HGz63 hgz63))
         go_ret
         exact ⟨by first | rfl | (simp [errW_none, errW_some] <;> rfl) | (simp [*, errW_none, errW_some] <;> rfl), by repeat (first | (with_reducible first | exact HI0.out | apply IsS60.alloc | apply IsS60.drewN | apply IsS60.drew | apply IsS60.set_0 | apply IsS60.set_1 | refine IsS60.far ?_ NB0_141.out _ | refine IsS60.far ?_ NB0_142.out _ | refine IsS60.far ?_ NB0_144.out _) | exact HI0.out), by repeat (first | (with_reducible first | exact HB.out | apply below_alloc | apply pw_below_drewN | apply below_drew1 | refine below_set ?_ (IsS60.ge HI0.out) | refine below_set ?_ GE141.out | refine below_set ?_ GE142.out | refine below_set ?_ GE144.out) | exact HB.out), by repeat (first | (with_reducible first | exact HK.out | apply KeepBut.set_ | apply keep_drewN | apply keep_drew | apply keep_alloc | refine keep_far ?_ GW141.out _ | refine keep_far ?_ GW142.out _ | refine keep_far ?_ GW144.out _) | exact HK.out)⟩
       ·rw [if_neg c38] at H
        exact absurd H (by simp)
     ·rw [if_neg c10] at H
      exact absurd H (by simp)
    ·rw [if_neg c9] at H
     exact absurd H (by simp)
   ·rw [if_neg c8] at H
    have c8b0 : decide (x15_1 < (l1_2.length : Int)) = false := decide_eq_false c8
    clear c8
    by_cases c64 : a1_0 = 1
    ·rw [if_pos c64] at H
     have c64b0 : (a1_0 == 1) = true := beq_iff_eq.mpr c64
     have c64b1 : (a1_0 != 1) = false := bne_eq_false_iff_eq.mpr c64
     clear c64
     by_cases c65 : a1_1 < (-2147483647)
     ·rw [if_pos c65] at H
      have c65b0 : decide (a1_1 < (-2147483647)) = true := decide_eq_true c65
      clear c65
      simp only [Option.some.injEq, Prod.mk.injEq] at H
      obtain ⟨rfl, rfl, rfl⟩ := H
      have hnb66 := NB141_142.out
      have hnc66 := NB142_141.out
      have hnb67 := NB141_0.out
      have hnc67 := NB0_141.out
      obtain ⟨hcz68_0, hcz68_1, hcz68_2, hfz68_0, hfz68_1, hfz68_2⟩ := bc3 BK141
      obtain ⟨HGz69, hgz69⟩ := HI0.out
      have hcz69_0 := cellS60_0 HGz69
      have hcz69_1 := cellS60_1 HGz69
      have hfz69_0 := blk_frozen HGz69 0
      have hfz69_1 := blk_frozen HGz69 1
      clear HGz69 hgz69
      go_wp2
      go_ret
      exact ⟨by first | rfl | (simp [errW_none, errW_some] <;> rfl) | (simp [*, errW_none, errW_some] <;> rfl), by repeat (first | (with_reducible first | exact HI0.out | apply IsS60.alloc | apply IsS60.drewN | apply IsS60.drew | apply IsS60.set_0 | apply IsS60.set_1 | refine IsS60.far ?_ NB0_141.out _ | refine IsS60.far ?_ NB0_142.out _) | exact HI0.out), by repeat (first | (with_reducible first | exact HB.out | apply below_alloc | apply pw_below_drewN | apply below_drew1 | refine below_set ?_ (IsS60.ge HI0.out) | refine below_set ?_ GE141.out | refine below_set ?_ GE142.out) | exact HB.out), by repeat (first | (with_reducible first | exact HK.out | apply KeepBut.set_ | apply keep_drewN | apply keep_drew | apply keep_alloc | refine keep_far ?_ GW141.out _ | refine keep_far ?_ GW142.out _) | exact HK.out)⟩
     ·rw [if_neg c65] at H
      have c65b0 : decide (a1_1 < (-2147483647)) = false := decide_eq_false c65
      clear c65
      by_cases c70 : a1_1 > 2147483647
      ·rw [if_pos c70] at H
       have c70b0 : decide (2147483647 < a1_1) = true := decide_eq_true c70
       clear c70
       simp only [Option.some.injEq, Prod.mk.injEq] at H
       obtain ⟨rfl, rfl, rfl⟩ := H
       have hnb71 := NB141_142.out
       have hnc71 := NB142_141.out
       have hnb72 := NB141_0.out
       have hnc72 := NB0_141.out
       obtain ⟨hcz73_0, hcz73_1, hcz73_2, hfz73_0, hfz73_1, hfz73_2⟩ := bc3 BK141
       obtain ⟨HGz74, hgz74⟩ := HI0.out
       have hcz74_0 := cellS60_0 HGz74
       have hcz74_1 := cellS60_1 HGz74
       have hfz74_0 := blk_frozen HGz74 0
       have hfz74_1 := blk_frozen HGz74 1
       clear HGz74 hgz74
       go_wp2
       go_ret
       exact ⟨by first | rfl | (simp [errW_none, errW_some] <;> rfl) | (simp [*, errW_none, errW_some] <;> rfl), by repeat (first | (with_reducible first | exact HI0.out | apply IsS60.alloc | apply IsS60.drewN | apply IsS60.drew | apply IsS60.set_0 | apply IsS60.set_1 | refine IsS60.far ?_ NB0_141.out _ | refine IsS60.far ?_ NB0_142.out _) | exact HI0.out), by repeat (first | (with_reducible first | exact HB.out | apply below_alloc | apply pw_below_drewN | apply below_drew1 | refine below_set ?_ (IsS60.ge HI0.out) | refine below_set ?_ GE141.out | refine below_set ?_ GE142.out) | exact HB.out), by repeat (first | (with_reducible first | exact HK.out | apply KeepBut.set_ | apply keep_drewN | apply keep_drew | apply keep_alloc | refine keep_far ?_ GW141.out _ | refine keep_far ?_ GW142.out _) | exact HK.out)⟩
      ·rw [if_neg c70] at H
       have c70b0 : decide (2147483647 < a1_1) = false := decide_eq_false c70
       clear c70
       simp only [Option.some.injEq, Prod.mk.injEq] at H
       obtain ⟨rfl, rfl, rfl⟩ := H
       have hnb75 := NB141_142.out
       have hnc75 := NB142_141.out
       have hnb76 := NB141_0.out
       have hnc76 := NB0_141.out
       obtain ⟨hcz77_0, hcz77_1, hcz77_2, hfz77_0, hfz77_1, hfz77_2⟩ := bc3 BK141
       go_wp2
       go_ret
       exact ⟨by first | rfl | (simp [errW_none, errW_some] <;> rfl) | (simp [*, errW_none, errW_some] <;> rfl), by repeat (first | (with_reducible first | exact HI0.out | apply IsS60.alloc | apply IsS60.drewN | apply IsS60.drew | apply IsS60.set_0 | apply IsS60.set_1 | refine IsS60.far ?_ NB0_141.out _ | refine IsS60.far ?_ NB0_142.out _) | exact HI0.out), by repeat (first | (with_reducible first | exact HB.out | apply below_alloc | apply pw_below_drewN | apply below_drew1 | refine below_set ?_ (IsS60.ge HI0.out) | refine below_set ?_ GE141.out | refine below_set ?_ GE142.out) | exact HB.out), by repeat (first | (with_reducible first | exact HK.out | apply KeepBut.set_ | apply keep_drewN | apply keep_drew | apply keep_alloc | refine keep_far ?_ GW141.out _ | refine keep_far ?_ GW142.out _) | exact HK.out)⟩
    ·rw [if_neg c64] at H
     have c64b0 : (a1_0 == 1) = false := beq_eq_false_iff_ne.mpr c64
     have c64b1 : (a1_0 != 1) = true := bne_iff_ne.mpr c64
     by_cases c78 : a1_0 = 2
     ·rw [if_pos c78] at H
      have c78b0 : (a1_0 == 2) = true := beq_iff_eq.mpr c78
      have c78b1 : (a1_0 != 2) = false := bne_eq_false_iff_eq.mpr c78
      clear c78
      by_cases c79 : x1000_1 < (-2147483647)
      ·rw [if_pos c79] at H
       have c79b0 : decide (x1000_1 < (-2147483647)) = true := decide_eq_true c79
       clear c79
       simp only [Option.some.injEq, Prod.mk.injEq] at H
       obtain ⟨rfl, rfl, rfl⟩ := H
       have hnb80 := NB141_142.out
       have hnc80 := NB142_141.out
       have hnb81 := NB141_0.out
       have hnc81 := NB0_141.out
       obtain ⟨hcz82_0, hcz82_1, hcz82_2, hfz82_0, hfz82_1, hfz82_2⟩ := bc3 BK141
       obtain ⟨HGz83, hgz83⟩ := HI0.out
       have hcz83_0 := cellS60_0 HGz83
       have hcz83_1 := cellS60_1 HGz83
       have hfz83_0 := blk_frozen HGz83 0
       have hfz83_1 := blk_frozen HGz83 1
       clear HGz83 hgz83
       go_wp2
       go_ret
       exact ⟨by first | rfl | (simp [errW_none, errW_some] <;> rfl) | (simp [*, errW_none, errW_some] <;> rfl), by repeat (first | (with_reducible first | exact HI0.out | apply IsS60.alloc | apply IsS60.drewN | apply IsS60.drew | apply IsS60.set_0 | apply IsS60.set_1 | refine IsS60.far ?_ NB0_141.out _ | refine IsS60.far ?_ NB0_142.out _) | exact HI0.out), by repeat (first | (with_reducible first | exact HB.out | apply below_alloc | apply pw_below_drewN | apply below_drew1 | refine below_set ?_ (IsS60.ge HI0.out) | refine below_set ?_ GE141.out | refine below_set ?_ GE142.out) | exact HB.out), by repeat (first | (with_reducible first | exact HK.out | apply KeepBut.set_ | apply keep_drewN | apply keep_drew | apply keep_alloc | refine keep_far ?_ GW141.out _ | refine keep_far ?_ GW142.out _) | exact HK.out)⟩
      ·rw [if_neg c79] at H
       have c79b0 : decide (x1000_1 < (-2147483647)) = false := decide_eq_false c79
       clear c79
       by_cases c84 : x1000_1 > 2147483647
       ·rw [if_pos c84] at H
        have c84b0 : decide (2147483647 < x1000_1) = true := decide_eq_true c84
        clear c84
        simp only [Option.some.injEq, Prod.mk.injEq] at H
        obtain ⟨rfl, rfl, rfl⟩ := H
        have hnb85 := NB141_142.out
        have hnc85 := NB142_141.out
        have hnb86 := NB141_0.out
        have hnc86 := NB0_141.out
        obtain ⟨hcz87_0, hcz87_1, hcz87_2, hfz87_0, hfz87_1, hfz87_2⟩ := bc3 BK141
        obtain ⟨HGz88, hgz88⟩ := HI0.out
        have hcz88_0 := cellS60_0 HGz88
        have hcz88_1 := cellS60_1 HGz88
        have hfz88_0 := blk_frozen HGz88 0
        have hfz88_1 := blk_frozen HGz88 1
        clear HGz88 hgz88
        go_wp2
        go_ret
        exact ⟨by first | rfl | (simp [errW_none, errW_some] <;> rfl) | (simp [*, errW_none, errW_some] <;> rfl), by repeat (first | (with_reducible first | exact HI0.out | apply IsS60.alloc | apply IsS60.drewN | apply IsS60.drew | apply IsS60.set_0 | apply IsS60.set_1 | refine IsS60.far ?_ NB0_141.out _ | refine IsS60.far ?_ NB0_142.out _) | exact HI0.out), by repeat (first | (with_reducible first | exact HB.out | apply below_alloc | apply pw_below_drewN | apply below_drew1 | refine below_set ?_ (IsS60.ge HI0.out) | refine below_set ?_ GE141.out | refine below_set ?_ GE142.out) | exact HB.out), by repeat (first | (with_reducible first | exact HK.out | apply KeepBut.set_ | apply keep_drewN | apply keep_drew | apply keep_alloc | refine keep_far ?_ GW141.out _ | refine keep_far ?_ GW142.out _) | exact HK.out)⟩
       ·rw [if_neg c84] at H
        have c84b0 : decide (2147483647 < x1000_1) = false := decide_eq_false c84
        clear c84
        simp only [Option.some.injEq, Prod.mk.injEq] at H
        obtain ⟨rfl, rfl, rfl⟩ := H
        have hnb89 := NB141_142.out
        have hnc89 := NB142_141.out
        have hnb90 := NB141_0.out
        have hnc90 := NB0_141.out
        obtain ⟨hcz91_0, hcz91_1, hcz91_2, hfz91_0, hfz91_1, hfz91_2⟩ := bc3 BK141
        obtain ⟨HGz92, hgz92⟩ := HI0.out
        have hcz92_0 := cellS60_0 HGz92
        have hcz92_1 := cellS60_1 HGz92
        have hfz92_0 := blk_frozen HGz92 0
        have hfz92_1 := blk_frozen HGz92 1
        clear HGz92 hgz92
        go_wp2
        go_ret
        exact ⟨by first | rfl | (simp [errW_none, errW_some] <;> rfl) | (simp [*, errW_none, errW_some] <;> rfl), by repeat (first | (with_reducible first | exact HI0.out | apply IsS60.alloc | apply IsS60.drewN | apply IsS60.drew | apply IsS60.set_0 | apply IsS60.set_1 | refine IsS60.far ?_ NB0_141.out _ | refine IsS60.far ?_ NB0_142.out _) | exact HI0.out), by repeat (first | (with_reducible first | exact HB.out | apply below_alloc | apply pw_below_drewN | apply below_drew1 | refine below_set ?_ (IsS60.ge HI0.out) | refine below_set ?_ GE141.out | refine below_set ?_ GE142.out) | exact HB.out), by repeat (first | (with_reducible first | exact HK.out | apply KeepBut.set_ | apply keep_drewN | apply keep_drew | apply keep_alloc | refine keep_far ?_ GW141.out _ | refine keep_far ?_ GW142.out _) | exact HK.out)⟩
     ·rw [if_neg c78] at H
      have c78b0 : (a1_0 == 2) = false := beq_eq_false_iff_ne.mpr c78
      have c78b1 : (a1_0 != 2) = true := bne_iff_ne.mpr c78
      by_cases c93 : a1_0 = 3
      ·rw [if_pos c93] at H
       have c93b0 : (a1_0 == 3) = true := beq_iff_eq.mpr c93
       have c93b1 : (a1_0 != 3) = false := bne_eq_false_iff_eq.mpr c93
       clear c93
       by_cases c94 : (wrap64 (-x143000_1)) < (-2147483647)
       ·rw [if_pos c94] at H
        have c94b0 : decide ((wrap64 (-x143000_1)) < (-2147483647)) = true := decide_eq_true c94
        clear c94
        simp only [Option.some.injEq, Prod.mk.injEq] at H
        obtain ⟨rfl, rfl, rfl⟩ := H
        have hnb95 := NB141_142.out
        have hnc95 := NB142_141.out
        have hnb96 := NB141_0.out
        have hnc96 := NB0_141.out
        obtain ⟨hcz97_0, hcz97_1, hcz97_2, hfz97_0, hfz97_1, hfz97_2⟩ := bc3 BK141
        have hnb98 := NB142_0.out
        have hnc98 := NB0_142.out
        obtain ⟨hcz99_0, hcz99_1, hfz99_0, hfz99_1⟩ := bc2 BK142
        obtain ⟨HGz100, hgz100⟩ := HI0.out
        have hcz100_0 := cellS60_0 HGz100
        have hcz100_1 := cellS60_1 HGz100
        have hfz100_0 := blk_frozen HGz100 0
        have hfz100_1 := blk_frozen HGz100 1
        clear HGz100 hgz100
        go_wp2
        go_ret
        exact ⟨by first | rfl | (simp [errW_none, errW_some] <;> rfl) | (simp [*, errW_none, errW_some] <;> rfl), by repeat (first | (with_reducible first | exact HI0.out | apply IsS60.alloc | apply IsS60.drewN | apply IsS60.drew | apply IsS60.set_0 | apply IsS60.set_1 | refine IsS60.far ?_ NB0_141.out _ | refine IsS60.far ?_ NB0_142.out _) | exact HI0.out), by repeat (first | (with_reducible first | exact HB.out | apply below_alloc | apply pw_below_drewN | apply below_drew1 | refine below_set ?_ (IsS60.ge HI0.out) | refine below_set ?_ GE141.out | refine below_set ?_ GE142.out) | exact HB.out), by repeat (first | (with_reducible first | exact HK.out | apply KeepBut.set_ | apply keep_drewN | apply keep_drew | apply keep_alloc | refine keep_far ?_ GW141.out _ | refine keep_far ?_ GW142.out _) | exact HK.out)⟩
       ·rw [if_neg c94] at H
        have c94b0 : decide ((wrap64 (-x143000_1)) < (-2147483647)) = false := decide_eq_false c94
        clear c94
        by_cases c101 : (wrap64 (-x143000_1)) > 2147483647
        ·rw [if_pos c101] at H
         have c101b0 : decide (2147483647 < (wrap64 (-x143000_1))) = true := decide_eq_true c101
         clear c101
         simp only [Option.some.injEq, Prod.mk.injEq] at H
         obtain ⟨rfl, rfl, rfl⟩ := H
         have hnb102 := NB141_142.out
         have hnc102 := NB142_141.out
         have hnb103 := NB141_0.out
         have hnc103 := NB0_141.out
         obtain ⟨hcz104_0, hcz104_1, hcz104_2, hfz104_0, hfz104_1, hfz104_2⟩ := bc3 BK141
         have hnb105 := NB142_0.out
         have hnc105 := NB0_142.out
         obtain ⟨hcz106_0, hcz106_1, hfz106_0, hfz106_1⟩ := bc2 BK142
         obtain ⟨HGz107, hgz107⟩ := HI0.out
         have hcz107_0 := cellS60_0 HGz107
         have hcz107_1 := cellS60_1 HGz107
         have hfz107_0 := blk_frozen HGz107 0
         have hfz107_1 := blk_frozen HGz107 1
         clear HGz107 hgz107
         go_wp2
         go_ret
         exact ⟨by first | rfl | (simp [errW_none, errW_some] <;> rfl) | (simp [*, errW_none, errW_some] <;> rfl), by repeat (first | (with_reducible first | exact HI0.out | apply IsS60.alloc | apply IsS60.drewN | apply IsS60.drew | apply IsS60.set_0 | apply IsS60.set_1 | refine IsS60.far ?_ NB0_141.out _ | refine IsS60.far ?_ NB0_142.out _) | exact HI0.out), by repeat (first | (with_reducible first | exact HB.out | apply below_alloc | apply pw_below_drewN | apply below_drew1 | refine below_set ?_ (IsS60.ge HI0.out) | refine below_set ?_ GE141.out | refine below_set ?_ GE142.out) | exact HB.out), by repeat (first | (with_reducible first | exact HK.out | apply KeepBut.set_ | apply keep_drewN | apply keep_drew | apply keep_alloc | refine keep_far ?_ GW141.out _ | refine keep_far ?_ GW142.out _) | exact HK.out)⟩
        ·rw [if_neg c101] at H
         have c101b0 : decide (2147483647 < (wrap64 (-x143000_1))) = false := decide_eq_false c101
         clear c101
         simp only [Option.some.injEq, Prod.mk.injEq] at H
         obtain ⟨rfl, rfl, rfl⟩ := H
         have hnb108 := NB141_142.out
         have hnc108 := NB142_141.out
         have hnb109 := NB141_0.out
         have hnc109 := NB0_141.out
         obtain ⟨hcz110_0, hcz110_1, hcz110_2, hfz110_0, hfz110_1, hfz110_2⟩ := bc3 BK141
         have hnb111 := NB142_0.out
         have hnc111 := NB0_142.out
         obtain ⟨hcz112_0, hcz112_1, hfz112_0, hfz112_1⟩ := bc2 BK142
         go_wp2
         go_ret
         exact ⟨by first | rfl | (simp [errW_none, errW_some] <;> rfl) | (simp [*, errW_none, errW_some] <;> rfl), by repeat (first | (with_reducible first | exact HI0.out | apply IsS60.alloc | apply IsS60.drewN | apply IsS60.drew | apply IsS60.set_0 | apply IsS60.set_1 | refine IsS60.far ?_ NB0_141.out _ | refine IsS60.far ?_ NB0_142.out _) | exact HI0.out), by repeat (first | (with_reducible first | exact HB.out | apply below_alloc | apply pw_below_drewN | apply below_drew1 | refine below_set ?_ (IsS60.ge HI0.out) | refine below_set ?_ GE141.out | refine below_set ?_ GE142.out) | exact HB.out), by repeat (first | (with_reducible first | exact HK.out | apply KeepBut.set_ | apply keep_drewN | apply keep_drew | apply keep_alloc | refine keep_far ?_ GW141.out _ | refine keep_far ?_ GW142.out _) | exact HK.out)⟩
      ·rw [if_neg c93] at H
       have c93b0 : (a1_0 == 3) = false := beq_eq_false_iff_ne.mpr c93
       have c93b1 : (a1_0 != 3) = true := bne_iff_ne.mpr c93
       by_cases c113 : a1_0 = 4
       ·rw [if_pos c113] at H
        have c113b0 : (a1_0 == 4) = true := beq_iff_eq.mpr c113
        have c113b1 : (a1_0 != 4) = false := bne_eq_false_iff_eq.mpr c113
        clear c113
        by_cases c114 : (wrap64 (x143000_1 + x143001_1)) < (-2147483647)
        ·rw [if_pos c114] at H
         have c114b0 : decide ((wrap64 (x143000_1 + x143001_1)) < (-2147483647)) = true := decide_eq_true c114
         clear c114
         simp only [Option.some.injEq, Prod.mk.injEq] at H
         obtain ⟨rfl, rfl, rfl⟩ := H
         have hnb115 := NB141_142.out
         have hnc115 := NB142_141.out
         have hnb116 := NB141_0.out
         have hnc116 := NB0_141.out
         obtain ⟨hcz117_0, hcz117_1, hcz117_2, hfz117_0, hfz117_1, hfz117_2⟩ := bc3 BK141
         have hnb118 := NB142_0.out
         have hnc118 := NB0_142.out
         obtain ⟨hcz119_0, hcz119_1, hfz119_0, hfz119_1⟩ := bc2 BK142
         obtain ⟨HGz120, hgz120⟩ := HI0.out
         have hcz120_0 := cellS60_0 HGz120
         have hcz120_1 := cellS60_1 HGz120
         have hfz120_0 := blk_frozen HGz120 0
         have hfz120_1 := blk_frozen HGz120 1
         clear HGz120 hgz120
         go_wp2
         go_ret
         exact ⟨by first | rfl | (simp [errW_none, errW_some] <;> rfl) | (simp [*, errW_none, errW_some] <;> rfl), by repeat (first | (with_reducible first | exact HI0.out | apply IsS60.alloc | apply IsS60.drewN | apply IsS60.drew | apply IsS60.set_0 | apply IsS60.set_1 | refine IsS60.far ?_ NB0_141.out _ | refine IsS60.far ?_ NB0_142.out _) | exact HI0.out), by repeat (first | (with_reducible first | exact HB.out | apply below_alloc | apply pw_below_drewN | apply below_drew1 | refine below_set ?_ (IsS60.ge HI0.out) | refine below_set ?_ GE141.out | refine below_set ?_ GE142.out) | exact HB.out), by repeat (first | (with_reducible first | exact HK.out | apply KeepBut.set_ | apply keep_drewN | apply keep_drew | apply keep_alloc | refine keep_far ?_ GW141.out _ | refine keep_far ?_ GW142.out _) | exact HK.out)⟩
        ·rw [if_neg c114] at H
         have c114b0 : decide ((wrap64 (x143000_1 + x143001_1)) < (-2147483647)) = false := decide_eq_false c114
         clear c114
         by_cases c121 : (wrap64 (x143000_1 + x143001_1)) > 2147483647
         ·rw [if_pos c121] at H
          have c121b0 : decide (2147483647 < (wrap64 (x143000_1 + x143001_1))) = true := decide_eq_true c121
          clear c121
          simp only [Option.some.injEq, Prod.mk.injEq] at H
          obtain ⟨rfl, rfl, rfl⟩ := H
          have hnb122 := NB141_142.out
          have hnc122 := NB142_141.out
          have hnb123 := NB141_0.out
          have hnc123 := NB0_141.out
          obtain ⟨hcz124_0, hcz124_1, hcz124_2, hfz124_0, hfz124_1, hfz124_2⟩ := bc3 BK141
          have hnb125 := NB142_0.out
          have hnc125 := NB0_142.out
          obtain ⟨hcz126_0, hcz126_1, hfz126_0, hfz126_1⟩ := bc2 BK142
          obtain ⟨HGz127, hgz127⟩ := HI0.out
          have hcz127_0 := cellS60_0 HGz127
          have hcz127_1 := cellS60_1 HGz127
          have hfz127_0 := blk_frozen HGz127 0
          have hfz127_1 := blk_frozen HGz127 1
          clear HGz127 hgz127
          go_wp2
          go_ret
          exact ⟨by first | rfl | (simp [errW_none, errW_some] <;> rfl) | (simp [*, errW_none, errW_some] <;> rfl), by repeat (first | (with_reducible first | exact HI0.out | apply IsS60.alloc | apply IsS60.drewN | apply IsS60.drew | apply IsS60.set_0 | apply IsS60.set_1 | refine IsS60.far ?_ NB0_141.out _ | refine IsS60.far ?_ NB0_142.out _) | exact HI0.out), by repeat (first | (with_reducible first | exact HB.out | apply below_alloc | apply pw_below_drewN | apply below_drew1 | refine below_set ?_ (IsS60.ge HI0.out) | refine below_set ?_ GE141.out | refine below_set ?_ GE142.out) | exact HB.out), by repeat (first | (with_reducible first | exact HK.out | apply KeepBut.set_ | apply keep_drewN | apply keep_drew | apply keep_alloc | refine keep_far ?_ GW141.out _ | refine keep_far ?_ GW142.out _) | exact HK.out)⟩
         ·rw [if_neg c121] at H
          have c121b0 : decide (2147483647 < (wrap64 (x143000_1 + x143001_1))) = false := decide_eq_false c121
          clear c121
          simp only [Option.some.injEq, Prod.mk.injEq] at H
          obtain ⟨rfl, rfl, rfl⟩ := H
          have hnb128 := NB141_142.out
          have hnc128 := NB142_141.out
          have hnb129 := NB141_0.out
          have hnc129 := NB0_141.out
          obtain ⟨hcz130_0, hcz130_1, hcz130_2, hfz130_0, hfz130_1, hfz130_2⟩ := bc3 BK141
          have hnb131 := NB142_0.out
          have hnc131 := NB0_142.out
          obtain ⟨hcz132_0, hcz132_1, hfz132_0, hfz132_1⟩ := bc2 BK142
          go_wp2
          go_ret
          exact ⟨by first | rfl | (simp [errW_none, errW_some] <;> rfl) | (simp [*, errW_none, errW_some] <;> rfl), by repeat (first | (with_reducible first | exact HI0.out | apply IsS60.alloc | apply IsS60.drewN | apply IsS60.drew | apply IsS60.set_0 | apply IsS60.set_1 | refine IsS60.far ?_ NB0_141.out _ | refine IsS60.far ?_ NB0_142.out _) | exact HI0.out), by repeat (first | (with_reducible first | exact HB.out | apply below_alloc | apply pw_below_drewN | apply below_drew1 | refine below_set ?_ (IsS60.ge HI0.out) | refine below_set ?_ GE141.out | refine below_set ?_ GE142.out) | exact HB.out), by repeat (first | (with_reducible first | exact HK.out | apply KeepBut.set_ | apply keep_drewN | apply keep_drew | apply keep_alloc | refine keep_far ?_ GW141.out _ | refine keep_far ?_ GW142.out _) | exact HK.out)⟩
       ·rw [if_neg c113] at H
        have c113b0 : (a1_0 == 4) = false := beq_eq_false_iff_ne.mpr c113
        have c113b1 : (a1_0 != 4) = true := bne_iff_ne.mpr c113
        by_cases c133 : a1_0 = 5
        ·rw [if_pos c133] at H
         have c133b0 : (a1_0 == 5) = true := beq_iff_eq.mpr c133
         have c133b1 : (a1_0 != 5) = false := bne_eq_false_iff_eq.mpr c133
         clear c133
         by_cases c134 : (wrap64 (x143000_1 - x143001_1)) < (-2147483647)
         ·rw [if_pos c134] at H
          have c134b0 : decide ((wrap64 (x143000_1 - x143001_1)) < (-2147483647)) = true := decide_eq_true c134
          clear c134
          simp only [Option.some.injEq, Prod.mk.injEq] at H
          obtain ⟨rfl, rfl, rfl⟩ := H
          have hnb135 := NB141_142.out
          have hnc135 := NB142_141.out
          have hnb136 := NB141_0.out
          have hnc136 := NB0_141.out
          obtain ⟨hcz137_0, hcz137_1, hcz137_2, hfz137_0, hfz137_1, hfz137_2⟩ := bc3 BK141
          have hnb138 := NB142_0.out
          have hnc138 := NB0_142.out
          obtain ⟨hcz139_0, hcz139_1, hfz139_0, hfz139_1⟩ := bc2 BK142
          obtain ⟨HGz140, hgz140⟩ := HI0.out
          have hcz140_0 := cellS60_0 HGz140
          have hcz140_1 := cellS60_1 HGz140
          have hfz140_0 := blk_frozen HGz140 0
          have hfz140_1 := blk_frozen HGz140 1
          clear HGz140 hgz140
          go_wp2
          go_ret
          exact ⟨by first | rfl | (simp [errW_none, errW_some] <;> rfl) | (simp [*, errW_none, errW_some] <;> rfl), by repeat (first | (with_reducible first | exact HI0.out | apply IsS60.alloc | apply IsS60.drewN | apply IsS60.drew | apply IsS60.set_0 | apply IsS60.set_1 | refine IsS60.far ?_ NB0_141.out _ | refine IsS60.far ?_ NB0_142.out _) | exact HI0.out), by repeat (first | (with_reducible first | exact HB.out | apply below_alloc | apply pw_below_drewN | apply below_drew1 | refine below_set ?_ (IsS60.ge HI0.out) | refine below_set ?_ GE141.out | refine below_set ?_ GE142.out) | exact HB.out), by repeat (first | (with_reducible first | exact HK.out | apply KeepBut.set_ | apply keep_drewN | apply keep_drew | apply keep_alloc | refine keep_far ?_ GW141.out _ | refine keep_far ?_ GW142.out _) | exact HK.out)⟩
         ·rw [if_neg c134] at H
          have c134b0 : decide ((wrap64 (x143000_1 - x143001_1)) < (-2147483647)) = false := decide_eq_false c134
          clear c134
          by_cases c141 : (wrap64 (x143000_1 - x143001_1)) > 2147483647
          ·rw [if_pos c141] at H
           have c141b0 : decide (2147483647 < (wrap64 (x143000_1 - x143001_1))) = true := decide_eq_true c141
           clear c141
           simp only [Option.some.injEq, Prod.mk.injEq] at H
           obtain ⟨rfl, rfl, rfl⟩ := H
           have hnb142 := NB141_142.out
           have hnc142 := NB142_141.out
           have hnb143 := NB141_0.out
           have hnc143 := NB0_141.out
           obtain ⟨hcz144_0, hcz144_1, hcz144_2, hfz144_0, hfz144_1, hfz144_2⟩ := bc3 BK141
           have hnb145 := NB142_0.out
           have hnc145 := NB0_142.out
           obtain ⟨hcz146_0, hcz146_1, hfz146_0, hfz146_1⟩ := bc2 BK142
           obtain ⟨HGz147, hgz147⟩ := HI0.out
           have hcz147_0 := cellS60_0 HGz147
           have hcz147_1 := cellS60_1 HGz147
           have hfz147_0 := blk_frozen HGz147 0
           have hfz147_1 := blk_frozen HGz147 1
           clear HGz147 hgz147
           go_wp2
           go_ret
           exact ⟨by first | rfl | (simp [errW_none, errW_some] <;> rfl) | (simp [*, errW_none, errW_some] <;> rfl), by repeat (first | (with_reducible first | exact HI0.out | apply IsS60.alloc | apply IsS60.drewN | apply IsS60.drew | apply IsS60.set_0 | apply IsS60.set_1 | refine IsS60.far ?_ NB0_141.out _ | refine IsS60.far ?_ NB0_142.out _) | exact HI0.out), by repeat (first | (with_reducible first | exact HB.out | apply below_alloc | apply pw_below_drewN | apply below_drew1 | refine below_set ?_ (IsS60.ge HI0.out) | refine below_set ?_ GE141.out | refine below_set ?_ GE142.out) | exact HB.out), by repeat (first | (with_reducible first | exact HK.out | apply KeepBut.set_ | apply keep_drewN | apply keep_drew | apply keep_alloc | refine keep_far ?_ GW141.out _ | refine keep_far ?_ GW142.out _) | exact HK.out)⟩
          ·rw [if_neg c141] at H
           have c141b0 : decide (2147483647 < (wrap64 (x143000_1 - x143001_1))) = false := decide_eq_false c141
           clear c141
           simp only [Option.some.injEq, Prod.mk.injEq] at H
           obtain ⟨rfl, rfl, rfl⟩ := H
           have hnb148 := NB141_142.out
           have hnc148 := NB142_141.out
           have hnb149 := NB141_0.out
           have hnc149 := NB0_141.out
           obtain ⟨hcz150_0, hcz150_1, hcz150_2, hfz150_0, hfz150_1, hfz150_2⟩ := bc3 BK141
           have hnb151 := NB142_0.out
           have hnc151 := NB0_142.out
           obtain ⟨hcz152_0, hcz152_1, hfz152_0, hfz152_1⟩ := bc2 BK142
           go_wp2
           go_ret
           exact ⟨by first | rfl | (simp [errW_none, errW_some] <;> rfl) | (simp [*, errW_none, errW_some] <;> rfl), by repeat (first | (with_reducible first | exact HI0.out | apply IsS60.alloc | apply IsS60.drewN | apply IsS60.drew | apply IsS60.set_0 | apply IsS60.set_1 | refine IsS60.far ?_ NB0_141.out _ | refine IsS60.far ?_ NB0_142.out _) | exact HI0.out), by repeat (first | (with_reducible first | exact HB.out | apply below_alloc | apply pw_below_drewN | apply below_drew1 | refine below_set ?_ (IsS60.ge HI0.out) | refine below_set ?_ GE141.out | refine below_set ?_ GE142.out) | exact HB.out), by repeat (first | (with_reducible first | exact HK.out | apply KeepBut.set_ | apply keep_drewN | apply keep_drew | apply keep_alloc | refine keep_far ?_ GW141.out _ | refine keep_far ?_ GW142.out _) | exact HK.out)⟩
        ·rw [if_neg c133] at H
         have c133b0 : (a1_0 == 5) = false := beq_eq_false_iff_ne.mpr c133
         have c133b1 : (a1_0 != 5) = true := bne_iff_ne.mpr c133
         by_cases c153 : a1_0 = 6
         ·rw [if_pos c153] at H
          have c153b0 : (a1_0 == 6) = true := beq_iff_eq.mpr c153
          have c153b1 : (a1_0 != 6) = false := bne_eq_false_iff_eq.mpr c153
          clear c153
          by_cases c154 : (wrap64 (x143000_1 * x143001_1)) < (-2147483647)
          ·rw [if_pos c154] at H
           have c154b0 : decide ((wrap64 (x143000_1 * x143001_1)) < (-2147483647)) = true := decide_eq_true c154
           clear c154
           simp only [Option.some.injEq, Prod.mk.injEq] at H
           obtain ⟨rfl, rfl, rfl⟩ := H
           have hnb155 := NB141_142.out
           have hnc155 := NB142_141.out
           have hnb156 := NB141_0.out
           have hnc156 := NB0_141.out
           obtain ⟨hcz157_0, hcz157_1, hcz157_2, hfz157_0, hfz157_1, hfz157_2⟩ := bc3 BK141
           have hnb158 := NB142_0.out
           have hnc158 := NB0_142.out
           obtain ⟨hcz159_0, hcz159_1, hfz159_0, hfz159_1⟩ := bc2 BK142
           obtain ⟨HGz160, hgz160⟩ := HI0.out
           have hcz160_0 := cellS60_0 HGz160
           have hcz160_1 := cellS60_1 HGz160
           have hfz160_0 := blk_frozen HGz160 0
           have hfz160_1 := blk_frozen HGz160 1
           clear HGz160 hgz160
           go_wp2
           go_ret
           exact ⟨by first | rfl | (simp [errW_none, errW_some] <;> rfl) | (simp [*, errW_none, errW_some] <;> rfl), by repeat (first | (with_reducible first | exact HI0.out | apply IsS60.alloc | apply IsS60.drewN | apply IsS60.drew | apply IsS60.set_0 | apply IsS60.set_1 | refine IsS60.far ?_ NB0_141.out _ | refine IsS60.far ?_ NB0_142.out _) | exact HI0.out), by repeat (first | (with_reducible first | exact HB.out | apply below_alloc | apply pw_below_drewN | apply below_drew1 | refine below_set ?_ (IsS60.ge HI0.out) | refine below_set ?_ GE141.out | refine below_set ?_ GE142.out) | exact HB.out), by repeat (first | (with_reducible first | exact HK.out | apply KeepBut.set_ | apply keep_drewN | apply keep_drew | apply keep_alloc | refine keep_far ?_ GW141.out _ | refine keep_far ?_ GW142.out _) | exact HK.out)⟩
          ·rw [if_neg c154] at H
           have c154b0 : decide ((wrap64 (x143000_1 * x143001_1)) < (-2147483647)) = false := decide_eq_false c154
           clear c154
           by_cases c161 : (wrap64 (x143000_1 * x143001_1)) > 2147483647
           ·rw [if_pos c161] at H
            have c161b0 : decide (2147483647 < (wrap64 (x143000_1 * x143001_1))) = true := decide_eq_true c161
            clear c161
            simp only [Option.some.injEq, Prod.mk.injEq] at H
            obtain ⟨rfl, rfl, rfl⟩ := H
            have hnb162 := NB141_142.out
            have hnc162 := NB142_141.out
            have hnb163 := NB141_0.out
            have hnc163 := NB0_141.out
            obtain ⟨hcz164_0, hcz164_1, hcz164_2, hfz164_0, hfz164_1, hfz164_2⟩ := bc3 BK141
            have hnb165 := NB142_0.out
            have hnc165 := NB0_142.out
            obtain ⟨hcz166_0, hcz166_1, hfz166_0, hfz166_1⟩ := bc2 BK142
            obtain ⟨HGz167, hgz167⟩ := HI0.out
            have hcz167_0 := cellS60_0 HGz167
            have hcz167_1 := cellS60_1 HGz167
            have hfz167_0 := blk_frozen HGz167 0
            have hfz167_1 := blk_frozen HGz167 1
            clear HGz167 hgz167
            go_wp2
            go_ret
            exact ⟨by first | rfl | (simp [errW_none, errW_some] <;> rfl) | (simp [*, errW_none, errW_some] <;> rfl), by repeat (first | (with_reducible first | exact HI0.out | apply IsS60.alloc | apply IsS60.drewN | apply IsS60.drew | apply IsS60.set_0 | apply IsS60.set_1 | refine IsS60.far ?_ NB0_141.out _ | refine IsS60.far ?_ NB0_142.out _) | exact HI0.out), by repeat (first | (with_reducible first | exact HB.out | apply below_alloc | apply pw_below_drewN | apply below_drew1 | refine below_set ?_ (IsS60.ge HI0.out) | refine below_set ?_ GE141.out | refine below_set ?_ GE142.out) | exact HB.out), by repeat (first | (with_reducible first | exact HK.out | apply KeepBut.set_ | apply keep_drewN | apply keep_drew | apply keep_alloc | refine keep_far ?_ GW141.out _ | refine keep_far ?_ GW142.out _) | exact HK.out)⟩
           ·rw [if_neg c161] at H
            have c161b0 : decide (2147483647 < (wrap64 (x143000_1 * x143001_1))) = false := decide_eq_false c161
            clear c161
            simp only [Option.some.injEq, Prod.mk.injEq] at H
            obtain ⟨rfl, rfl, rfl⟩ := H
            have hnb168 := NB141_142.out
            have hnc168 := NB142_141.out
            have hnb169 := NB141_0.out
            have hnc169 := NB0_141.out
            obtain ⟨hcz170_0, hcz170_1, hcz170_2, hfz170_0, hfz170_1, hfz170_2⟩ := bc3 BK141
            have hnb171 := NB142_0.out
            have hnc171 := NB0_142.out
            obtain ⟨hcz172_0, hcz172_1, hfz172_0, hfz172_1⟩ := bc2 BK142
            go_wp2
            go_ret
            exact ⟨by first | rfl | (simp [errW_none, errW_some] <;> rfl) | (simp [*, errW_none, errW_some] <;> rfl), by repeat (first | (with_reducible first | exact HI0.out | apply IsS60.alloc | apply IsS60.drewN | apply IsS60.drew | apply IsS60.set_0 | apply IsS60.set_1 | refine IsS60.far ?_ NB0_141.out _ | refine IsS60.far ?_ NB0_142.out _) | exact HI0.out), by repeat (first | (with_reducible first | exact HB.out | apply below_alloc | apply pw_below_drewN | apply below_drew1 | refine below_set ?_ (IsS60.ge HI0.out) | refine below_set ?_ GE141.out | refine below_set ?_ GE142.out) | exact HB.out), by repeat (first | (with_reducible first | exact HK.out | apply KeepBut.set_ | apply keep_drewN | apply keep_drew | apply keep_alloc | refine keep_far ?_ GW141.out _ | refine keep_far ?_ GW142.out _) | exact HK.out)⟩
         ·rw [if_neg c153] at H
          have c153b0 : (a1_0 == 6) = false := beq_eq_false_iff_ne.mpr c153
          have c153b1 : (a1_0 != 6) = true := bne_iff_ne.mpr c153
          have HC173 := Aside0.mk H
          clear H
          have hnb174 := NB141_142.out
          have hnc174 := NB142_141.out
          have hnb175 := NB141_0.out
          have hnc175 := NB0_141.out
          obtain ⟨hcz176_0, hcz176_1, hcz176_2, hfz176_0, hfz176_1, hfz176_2⟩ := bc3 BK141
          go_upto_if 69 with (fail)
          go_cut [69] (fun v69 wc => ∃ (kq : Nat) (x69_172 : Bool), v69 = .bool x69_172 ∧ Aside0 (rule_machine_value.j1 kq 0 a1_0 x69_172 x1000_1 x1001_1 a1_0 a1_1 l1_2 x143000_1 x143001_1 = some (r1, r2, r3)) ∧ Aside0 (kq ≤ k1) ∧ Aside0 (wc.heap[gb141]? = some (.cells #[.int .i64 a1_0, .int .i64 a1_1, (.slice A1_2 l1_2.length c1_2)] 24 (0, 0))) ∧ Aside0 (wc.heap[gb142]? = some (.cells #[.int .i64 x143000_1, .int .i64 x143001_1] 83 (0, 0))) ∧ Aside0 (IsS60 w0 wc g x1000_1 x1001_1) ∧ Aside0 (KeepBut w wc g none) ∧ Aside0 (Below w0.heap.size w0 wc))
          case first =>
           have H := HC173.out
           clear HC173
           by_cases c177 : a1_0 = 7
           ·rw [if_pos c177] at H
            have c177b0 : (a1_0 == 7) = true := beq_iff_eq.mpr c177
            have c177b1 : (a1_0 != 7) = false := bne_eq_false_iff_eq.mpr c177
            clear c177
            (first | rw [c177b0] | (simp only [i64_w, i32_w]; rw [c177b0]) | skip)
            have H' := Aside0.mk H
            clear H
            go_wp2
            go_meet
            case rel => exact ⟨_, ((a1_0 == 7)), rs, H', ⟨by have := HK1.out; first | omega | exact Nat.le_refl _⟩, ⟨bk BK141⟩, ⟨bk BK142⟩, ⟨by repeat (first | (with_reducible first | exact HI0.out | apply IsS60.alloc | apply IsS60.drewN | apply IsS60.drew | apply IsS60.set_0 | apply IsS60.set_1 | refine IsS60.far ?_ NB0_141.out _ | refine IsS60.far ?_ NB0_142.out _) | exact HI0.out)⟩, ⟨by repeat (first | (with_reducible first | exact HK.out | apply KeepBut.set_ | apply keep_drewN | apply keep_drew | apply keep_alloc | refine keep_far ?_ GW141.out _ | refine keep_far ?_ GW142.out _) | exact HK.out)⟩, ⟨by repeat (first | (with_reducible first | exact HB.out | apply below_alloc | apply pw_below_drewN | apply below_drew1 | refine below_set ?_ (IsS60.ge HI0.out) | refine below_set ?_ GE141.out | refine below_set ?_ GE142.out) | exact HB.out)⟩⟩
           ·rw [if_neg c177] at H
            have c177b0 : (a1_0 == 7) = false := beq_eq_false_iff_ne.mpr c177
            have c177b1 : (a1_0 != 7) = true := bne_iff_ne.mpr c177
            (first | rw [c177b0] | (simp only [i64_w, i32_w]; rw [c177b0]) | skip)
            have H' := Aside0.mk H
            clear H
            go_wp2
            go_meet
            case rel => exact ⟨_, ((a1_0 == 8)), rs, H', ⟨by have := HK1.out; first | omega | exact Nat.le_refl _⟩, ⟨bk BK141⟩, ⟨bk BK142⟩, ⟨by repeat (first | (with_reducible first | exact HI0.out | apply IsS60.alloc | apply IsS60.drewN | apply IsS60.drew | apply IsS60.set_0 | apply IsS60.set_1 | refine IsS60.far ?_ NB0_141.out _ | refine IsS60.far ?_ NB0_142.out _) | exact HI0.out)⟩, ⟨by repeat (first | (with_reducible first | exact HK.out | apply KeepBut.set_ | apply keep_drewN | apply keep_drew | apply keep_alloc | refine keep_far ?_ GW141.out _ | refine keep_far ?_ GW142.out _) | exact HK.out)⟩, ⟨by repeat (first | (with_reducible first | exact HB.out | apply below_alloc | apply pw_below_drewN | apply below_drew1 | refine below_set ?_ (IsS60.ge HI0.out) | refine below_set ?_ GE141.out | refine below_set ?_ GE142.out) | exact HB.out)⟩⟩
          case rest =>
           clear HC173
           (try clear c1); (try clear p2); (try clear c3); (try clear c6); (try clear p6); (try clear c7); (try clear c8); (try clear c8b0); (try clear c9); (try clear c10); (try clear c11); (try clear c12); (try clear c13); (try clear c14); (try clear c15); (try clear c16); (try clear c17); (try clear c38); (try clear c64); (try clear c64b0); (try clear c64b1); (try clear p64); (try clear c65); (try clear c65b0); (try clear c66); (try clear c67); (try clear c70); (try clear c70b0); (try clear c71); (try clear c72); (try clear c75); (try clear c76); (try clear c78); (try clear c78b0); (try clear c78b1); (try clear c79); (try clear c79b0); (try clear c80); (try clear c81); (try clear c84); (try clear c84b0); (try clear c85); (try clear c86); (try clear c89); (try clear c90); (try clear c93); (try clear c93b0); (try clear c93b1); (try clear c94); (try clear c94b0); (try clear c95); (try clear c96); (try clear c98); (try clear c101); (try clear c101b0); (try clear c102); (try clear c103); (try clear c105); (try clear c108); (try clear c109); (try clear c111); (try clear c113); (try clear c113b0); (try clear c113b1); (try clear c114); (try clear c114b0); (try clear c115); (try clear c116); (try clear c118); (try clear c121); (try clear c121b0); (try clear c122); (try clear c123); (try clear c125); (try clear c128); (try clear c129); (try clear c131); (try clear c133); (try clear c133b0); (try clear c133b1); (try clear c134); (try clear c134b0); (try clear c135); (try clear c136); (try clear c138); (try clear c141); (try clear c141b0); (try clear c142); (try clear c143); (try clear c145); (try clear c148); (try clear c149); (try clear c151); (try clear c153); (try clear c153b0); (try clear c153b1); (try clear c154); (try clear c154b0); (try clear c155); (try clear c156); (try clear c158); (try clear c161); (try clear c161b0); (try clear c162); (try clear c163); (try clear c165); (try clear c168); (try clear c169); (try clear c171); (try clear c174); (try clear c175); (try clear c177); (try clear c177b0); (try clear c177b1); (try clear hcz100_0); (try clear hcz100_1); (try clear hcz104_0); (try clear hcz104_1); (try clear hcz104_2); (try clear hcz106_0); (try clear hcz106_1); (try clear hcz107_0); (try clear hcz107_1); (try clear hcz110_0); (try clear hcz110_1); (try clear hcz110_2); (try clear hcz112_0); (try clear hcz112_1); (try clear hcz117_0); (try clear hcz117_1); (try clear hcz117_2); (try clear hcz119_0); (try clear hcz119_1); (try clear hcz120_0); (try clear hcz120_1); (try clear hcz124_0); (try clear hcz124_1); (try clear hcz124_2); (try clear hcz126_0); (try clear hcz126_1); (try clear hcz127_0); (try clear hcz127_1); (try clear hcz130_0); (try clear hcz130_1); (try clear hcz130_2); (try clear hcz132_0); (try clear hcz132_1); (try clear hcz137_0); (try clear hcz137_1); (try clear hcz137_2); (try clear hcz139_0); (try clear hcz139_1); (try clear hcz140_0); (try clear hcz140_1); (try clear hcz144_0); (try clear hcz144_1); (try clear hcz144_2); (try clear hcz146_0); (try clear hcz146_1); (try clear hcz147_0); (try clear hcz147_1); (try clear hcz150_0); (try clear hcz150_1); (try clear hcz150_2); (try clear hcz152_0); (try clear hcz152_1); (try clear hcz157_0); (try clear hcz157_1); (try clear hcz157_2); (try clear hcz159_0); (try clear hcz159_1); (try clear hcz160_0); (try clear hcz160_1); (try clear hcz164_0); (try clear hcz164_1); (try clear hcz164_2); (try clear hcz166_0); (try clear hcz166_1); (try clear hcz167_0); (try clear hcz167_1); (try clear hcz170_0); (try clear hcz170_1); (try clear hcz170_2); (try clear hcz172_0); (try clear hcz172_1); (try clear hcz176_0); (try clear hcz176_1); (try clear hcz176_2); (try clear hcz68_0); (try clear hcz68_1); (try clear hcz68_2); (try clear hcz69_0); (try clear hcz69_1); (try clear hcz73_0); (try clear hcz73_1); (try clear hcz73_2); (try clear hcz74_0); (try clear hcz74_1); (try clear hcz77_0); (try clear hcz77_1); (try clear hcz77_2); (try clear hcz82_0); (try clear hcz82_1); (try clear hcz82_2); (try clear hcz83_0); (try clear hcz83_1); (try clear hcz87_0); (try clear hcz87_1); (try clear hcz87_2); (try clear hcz88_0); (try clear hcz88_1); (try clear hcz91_0); (try clear hcz91_1); (try clear hcz91_2); (try clear hcz92_0); (try clear hcz92_1); (try clear hcz97_0); (try clear hcz97_1); (try clear hcz97_2); (try clear hcz99_0); (try clear hcz99_1); (try clear hfz100_0); (try clear hfz100_1); (try clear hfz104_0); (try clear hfz104_1); (try clear hfz104_2); (try clear hfz106_0); (try clear hfz106_1); (try clear hfz107_0); (try clear hfz107_1); (try clear hfz110_0); (try clear hfz110_1); (try clear hfz110_2); (try clear hfz112_0); (try clear hfz112_1); (try clear hfz117_0); (try clear hfz117_1); (try clear hfz117_2); (try clear hfz119_0); (try clear hfz119_1); (try clear hfz120_0); (try clear hfz120_1); (try clear hfz124_0); (try clear hfz124_1); (try clear hfz124_2); (try clear hfz126_0); (try clear hfz126_1); (try clear hfz127_0); (try clear hfz127_1); (try clear hfz130_0); (try clear hfz130_1); (try clear hfz130_2); (try clear hfz132_0); (try clear hfz132_1); (try clear hfz137_0); (try clear hfz137_1); (try clear hfz137_2); (try clear hfz139_0); (try clear hfz139_1); (try clear hfz140_0); (try clear hfz140_1); (try clear hfz144_0); (try clear hfz144_1); (try clear hfz144_2); (try clear hfz146_0); (try clear hfz146_1); (try clear hfz147_0); (try clear hfz147_1); (try clear hfz150_0); (try clear hfz150_1); (try clear hfz150_2); (try clear hfz152_0); (try clear hfz152_1); (try clear hfz157_0); (try clear hfz157_1); (try clear hfz157_2); (try clear hfz159_0); (try clear hfz159_1); (try clear hfz160_0); (try clear hfz160_1); (try clear hfz164_0); (try clear hfz164_1); (try clear hfz164_2); (try clear hfz166_0); (try clear hfz166_1); (try clear hfz167_0); (try clear hfz167_1); (try clear hfz170_0); (try clear hfz170_1); (try clear hfz170_2); (try clear hfz172_0); (try clear hfz172_1); (try clear hfz176_0); (try clear hfz176_1); (try clear hfz176_2); (try clear hfz68_0); (try clear hfz68_1); (try clear hfz68_2); (try clear hfz69_0); (try clear hfz69_1); (try clear hfz73_0); (try clear hfz73_1); (try clear hfz73_2); (try clear hfz74_0); (try clear hfz74_1); (try clear hfz77_0); (try clear hfz77_1); (try clear hfz77_2); (try clear hfz82_0); (try clear hfz82_1); (try clear hfz82_2); (try clear hfz83_0); (try clear hfz83_1); (try clear hfz87_0); (try clear hfz87_1); (try clear hfz87_2); (try clear hfz88_0); (try clear hfz88_1); (try clear hfz91_0); (try clear hfz91_1); (try clear hfz91_2); (try clear hfz92_0); (try clear hfz92_1); (try clear hfz97_0); (try clear hfz97_1); (try clear hfz97_2); (try clear hfz99_0); (try clear hfz99_1)
           obtain ⟨kq, x69_172, rfl, HA, HJ172, BK141, BK142, HI0, HK, HB⟩ := hcut
           cases kq with
           | zero => exact absurd HA.out (by simp [rule_machine_value.j1])
           | succ kj172 =>
            have H := HA.out
            clear HA
            simp only [rule_machine_value.j1] at H
            by_cases c178 : x69_172 = true
            ·subst c178
             have H1 : ((whole_Div.f kj172 x143000_1 x143001_1).bind fun bt148 => (if bt148.2.2 = 0 then (if a1_0 = 8 then (if bt148.2.1 < (-2147483647) then (some (0, x1000_1, 14)) else (if bt148.2.1 > 2147483647 then (some (0, x1000_1, 14)) else (some (bt148.2.1, x1000_1, x1001_1)))) else (if bt148.1 < (-2147483647) then (some (0, x1000_1, 14)) else (if bt148.1 > 2147483647 then (some (0, x1000_1, 14)) else (some (bt148.1, x1000_1, x1001_1))))) else (some (0, x1000_1, bt148.2.2)))) = some (r1, r2, r3) := by rw [if_pos rfl] at H; exact H
             clear H
             have H := H1
             clear H1
             replace H := Option.bind_eq_some_iff.mp H
             obtain ⟨⟨t148, t149, t150⟩, A1790, H⟩ := H
             replace H : (if t150 = 0 then (if a1_0 = 8 then (if t149 < (-2147483647) then (some (0, x1000_1, 14)) else (if t149 > 2147483647 then (some (0, x1000_1, 14)) else (some (t149, x1000_1, x1001_1)))) else (if t148 < (-2147483647) then (some (0, x1000_1, 14)) else (if t148 > 2147483647 then (some (0, x1000_1, 14)) else (some (t148, x1000_1, x1001_1))))) else (some (0, x1000_1, t150))) = some (r1, r2, r3) := H
             have A179 := Aside0.mk A1790
             clear A1790
             by_cases c180 : t150 = 0
             ·rw [if_pos c180] at H
              have c180b0 : (t150 == 0) = true := beq_iff_eq.mpr c180
              have c180b1 : (t150 != 0) = false := bne_eq_false_iff_eq.mpr c180
              clear c180
              by_cases c181 : a1_0 = 8
              ·rw [if_pos c181] at H
               have c181b0 : (a1_0 == 8) = true := beq_iff_eq.mpr c181
               have c181b1 : (a1_0 != 8) = false := bne_eq_false_iff_eq.mpr c181
               clear c181
               by_cases c182 : t149 < (-2147483647)
               ·rw [if_pos c182] at H
                have c182b0 : decide (t149 < (-2147483647)) = true := decide_eq_true c182
                clear c182
                simp only [Option.some.injEq, Prod.mk.injEq] at H
                obtain ⟨rfl, rfl, rfl⟩ := H
                have hnb183 := NB142_141.out
                have hnc183 := NB141_142.out
                have hnb184 := NB142_0.out
                have hnc184 := NB0_142.out
                obtain ⟨hcz185_0, hcz185_1, hfz185_0, hfz185_1⟩ := bc2 BK142
                go_wp2_with (first | ((with_reducible refine gate_callee (f := 40) rfl ?_); refine goesL_ (some 77) rfl rfl Tryd.func40 kx rfl #[.int .i64 x143000_1, .int .i64 x143001_1] rfl aa ?_; (with_reducible refine (whole_Div.calls kj172 x143000_1 x143001_1 t148 t149 t150 _ A179.out).mono ?_); rintro e w' ⟨rfl, ⟨nd, rfl⟩⟩; refine ⟨_, rfl, ?_⟩; (try (rw [drewN_self wc]; generalize hq_ : World.drewN wc _ = wc; have n0_ : Aside0 (wc.heap[gb141]? = some (.cells #[.int .i64 a1_0, .int .i64 a1_1, .slice A1_2 l1_2.length c1_2] 24 (0, 0))) := ⟨by rw [← hq_]; exact (bk BK141)⟩; have n1_ : Aside0 (wc.heap[gb142]? = some (.cells #[.int .i64 x143000_1, .int .i64 x143001_1] 83 (0, 0))) := ⟨by rw [← hq_]; exact (bk BK142)⟩; have n2_ : Aside0 (IsS60 w0 wc g x1000_1 x1001_1) := ⟨by rw [← hq_]; exact (by repeat (first | (with_reducible first | exact HI0.out | apply IsS60.alloc | apply IsS60.drewN | apply IsS60.drew | apply IsS60.set_0 | apply IsS60.set_1 | refine IsS60.far ?_ NB0_141.out _ | refine IsS60.far ?_ NB0_142.out _) | exact HI0.out))⟩; have n3_ : Aside0 (KeepBut w wc g none) := ⟨by rw [← hq_]; exact (by repeat (first | (with_reducible first | exact HK.out | apply KeepBut.set_ | apply keep_drewN | apply keep_drew | apply keep_alloc | refine keep_far ?_ GW141.out _ | refine keep_far ?_ GW142.out _) | exact HK.out))⟩; have n4_ : Aside0 (Below w0.heap.size w0 wc) := ⟨by rw [← hq_]; exact (by repeat (first | (with_reducible first | exact HB.out | apply below_alloc | apply pw_below_drewN | apply below_drew1 | refine below_set ?_ (IsS60.ge HI0.out) | refine below_set ?_ GE141.out | refine below_set ?_ GE142.out) | exact HB.out))⟩; clear BK141 BK142 HI0 HK HB hq_; have BK141 := n0_; have BK142 := n1_; have HI0 := n2_; have HK := n3_; have HB := n4_; clear n0_ n1_ n2_ n3_ n4_)); have hnb186 := NB141_0.out; have hnc186 := NB0_141.out; obtain ⟨hcz187_0, hcz187_1, hcz187_2, hfz187_0, hfz187_1, hfz187_2⟩ := bc3 BK141; obtain ⟨HGz188, hgz188⟩ := HI0.out; have hcz188_0 := cellS60_0 HGz188; have hcz188_1 := cellS60_1 HGz188; have hfz188_0 := blk_frozen HGz188 0; have hfz188_1 := blk_frozen HGz188 1; clear HGz188 hgz188))
                go_ret
                exact ⟨by first | rfl | (simp [errW_none, errW_some] <;> rfl) | (simp [*, errW_none, errW_some] <;> rfl), by repeat (first | (with_reducible first | exact HI0.out | apply IsS60.alloc | apply IsS60.drewN | apply IsS60.drew | apply IsS60.set_0 | apply IsS60.set_1 | refine IsS60.far ?_ NB0_141.out _ | refine IsS60.far ?_ NB0_142.out _) | exact HI0.out), by repeat (first | (with_reducible first | exact HB.out | apply below_alloc | apply pw_below_drewN | apply below_drew1 | refine below_set ?_ (IsS60.ge HI0.out) | refine below_set ?_ GE141.out | refine below_set ?_ GE142.out) | exact HB.out), by repeat (first | (with_reducible first | exact HK.out | apply KeepBut.set_ | apply keep_drewN | apply keep_drew | apply keep_alloc | refine keep_far ?_ GW141.out _ | refine keep_far ?_ GW142.out _) | exact HK.out)⟩
               ·rw [if_neg c182] at H
                have c182b0 : decide (t149 < (-2147483647)) = false := decide_eq_false c182
                clear c182
                by_cases c189 : t149 > 2147483647
                ·rw [if_pos c189] at H
                 have c189b0 : decide (2147483647 < t149) = true := decide_eq_true c189
                 clear c189
                 simp only [Option.some.injEq, Prod.mk.injEq] at H
                 obtain ⟨rfl, rfl, rfl⟩ := H
                 have hnb190 := NB142_141.out
                 have hnc190 := NB141_142.out
                 have hnb191 := NB142_0.out
                 have hnc191 := NB0_142.out
                 obtain ⟨hcz192_0, hcz192_1, hfz192_0, hfz192_1⟩ := bc2 BK142
                 go_wp2_with (first | ((with_reducible refine gate_callee (f := 40) rfl ?_); refine goesL_ (some 77) rfl rfl Tryd.func40 kx rfl #[.int .i64 x143000_1, .int .i64 x143001_1] rfl aa ?_; (with_reducible refine (whole_Div.calls kj172 x143000_1 x143001_1 t148 t149 t150 _ A179.out).mono ?_); rintro e w' ⟨rfl, ⟨nd, rfl⟩⟩; refine ⟨_, rfl, ?_⟩; (try (rw [drewN_self wc]; generalize hq_ : World.drewN wc _ = wc; have n0_ : Aside0 (wc.heap[gb141]? = some (.cells #[.int .i64 a1_0, .int .i64 a1_1, .slice A1_2 l1_2.length c1_2] 24 (0, 0))) := ⟨by rw [← hq_]; exact (bk BK141)⟩; have n1_ : Aside0 (wc.heap[gb142]? = some (.cells #[.int .i64 x143000_1, .int .i64 x143001_1] 83 (0, 0))) := ⟨by rw [← hq_]; exact (bk BK142)⟩; have n2_ : Aside0 (IsS60 w0 wc g x1000_1 x1001_1) := ⟨by rw [← hq_]; exact (by repeat (first | (with_reducible first | exact HI0.out | apply IsS60.alloc | apply IsS60.drewN | apply IsS60.drew | apply IsS60.set_0 | apply IsS60.set_1 | refine IsS60.far ?_ NB0_141.out _ | refine IsS60.far ?_ NB0_142.out _) | exact HI0.out))⟩; have n3_ : Aside0 (KeepBut w wc g none) := ⟨by rw [← hq_]; exact (by repeat (first | (with_reducible first | exact HK.out | apply KeepBut.set_ | apply keep_drewN | apply keep_drew | apply keep_alloc | refine keep_far ?_ GW141.out _ | refine keep_far ?_ GW142.out _) | exact HK.out))⟩; have n4_ : Aside0 (Below w0.heap.size w0 wc) := ⟨by rw [← hq_]; exact (by repeat (first | (with_reducible first | exact HB.out | apply below_alloc | apply pw_below_drewN | apply below_drew1 | refine below_set ?_ (IsS60.ge HI0.out) | refine below_set ?_ GE141.out | refine below_set ?_ GE142.out) | exact HB.out))⟩; clear BK141 BK142 HI0 HK HB hq_; have BK141 := n0_; have BK142 := n1_; have HI0 := n2_; have HK := n3_; have HB := n4_; clear n0_ n1_ n2_ n3_ n4_)); have hnb193 := NB141_0.out; have hnc193 := NB0_141.out; obtain ⟨hcz194_0, hcz194_1, hcz194_2, hfz194_0, hfz194_1, hfz194_2⟩ := bc3 BK141; obtain ⟨HGz195, hgz195⟩ := HI0.out; have hcz195_0 := cellS60_0 HGz195; have hcz195_1 := cellS60_1 HGz195; have hfz195_0 := blk_frozen HGz195 0; have hfz195_1 := blk_frozen HGz195 1; clear HGz195 hgz195))
                 go_ret
                 exact ⟨by first | rfl | (simp [errW_none, errW_some] <;> rfl) | (simp [*, errW_none, errW_some] <;> rfl), by repeat (first | (with_reducible first | exact HI0.out | apply IsS60.alloc | apply IsS60.drewN | apply IsS60.drew | apply IsS60.set_0 | apply IsS60.set_1 | refine IsS60.far ?_ NB0_141.out _ | refine IsS60.far ?_ NB0_142.out _) | exact HI0.out), by repeat (first | (with_reducible first | exact HB.out | apply below_alloc | apply pw_below_drewN | apply below_drew1 | refine below_set ?_ (IsS60.ge HI0.out) | refine below_set ?_ GE141.out | refine below_set ?_ GE142.out) | exact HB.out), by repeat (first | (with_reducible first | exact HK.out | apply KeepBut.set_ | apply keep_drewN | apply keep_drew | apply keep_alloc | refine keep_far ?_ GW141.out _ | refine keep_far ?_ GW142.out _) | exact HK.out)⟩
                ·rw [if_neg c189] at H
                 have c189b0 : decide (2147483647 < t149) = false := decide_eq_false c189
                 clear c189
                 simp only [Option.some.injEq, Prod.mk.injEq] at H
                 obtain ⟨rfl, rfl, rfl⟩ := H
                 have hnb196 := NB142_141.out
                 have hnc196 := NB141_142.out
                 have hnb197 := NB142_0.out
                 have hnc197 := NB0_142.out
                 obtain ⟨hcz198_0, hcz198_1, hfz198_0, hfz198_1⟩ := bc2 BK142
                 go_wp2_with (first | ((with_reducible refine gate_callee (f := 40) rfl ?_); refine goesL_ (some 77) rfl rfl Tryd.func40 kx rfl #[.int .i64 x143000_1, .int .i64 x143001_1] rfl aa ?_; (with_reducible refine (whole_Div.calls kj172 x143000_1 x143001_1 t148 t149 t150 _ A179.out).mono ?_); rintro e w' ⟨rfl, ⟨nd, rfl⟩⟩; refine ⟨_, rfl, ?_⟩; have hnb199 := NB141_0.out; have hnc199 := NB0_141.out; obtain ⟨hcz200_0, hcz200_1, hcz200_2, hfz200_0, hfz200_1, hfz200_2⟩ := bc3 BK141))
                 go_ret
                 exact ⟨by first | rfl | (simp [errW_none, errW_some] <;> rfl) | (simp [*, errW_none, errW_some] <;> rfl), by repeat (first | (with_reducible first | exact HI0.out | apply IsS60.alloc | apply IsS60.drewN | apply IsS60.drew | apply IsS60.set_0 | apply IsS60.set_1 | refine IsS60.far ?_ NB0_141.out _ | refine IsS60.far ?_ NB0_142.out _) | exact HI0.out), by repeat (first | (with_reducible first | exact HB.out | apply below_alloc | apply pw_below_drewN | apply below_drew1 | refine below_set ?_ (IsS60.ge HI0.out) | refine below_set ?_ GE141.out | refine below_set ?_ GE142.out) | exact HB.out), by repeat (first | (with_reducible first | exact HK.out | apply KeepBut.set_ | apply keep_drewN | apply keep_drew | apply keep_alloc | refine keep_far ?_ GW141.out _ | refine keep_far ?_ GW142.out _) | exact HK.out)⟩
              ·rw [if_neg c181] at H
               have c181b0 : (a1_0 == 8) = false := beq_eq_false_iff_ne.mpr c181
               have c181b1 : (a1_0 != 8) = true := bne_iff_ne.mpr c181
               by_cases c201 : t148 < (-2147483647)
               ·rw [if_pos c201] at H
                have c201b0 : decide (t148 < (-2147483647)) = true := decide_eq_true c201
                clear c201
                simp only [Option.some.injEq, Prod.mk.injEq] at H
                obtain ⟨rfl, rfl, rfl⟩ := H
                have hnb202 := NB142_141.out
                have hnc202 := NB141_142.out
                have hnb203 := NB142_0.out
                have hnc203 := NB0_142.out
                obtain ⟨hcz204_0, hcz204_1, hfz204_0, hfz204_1⟩ := bc2 BK142
                go_wp2_with (first | ((with_reducible refine gate_callee (f := 40) rfl ?_); refine goesL_ (some 77) rfl rfl Tryd.func40 kx rfl #[.int .i64 x143000_1, .int .i64 x143001_1] rfl aa ?_; (with_reducible refine (whole_Div.calls kj172 x143000_1 x143001_1 t148 t149 t150 _ A179.out).mono ?_); rintro e w' ⟨rfl, ⟨nd, rfl⟩⟩; refine ⟨_, rfl, ?_⟩; (try (rw [drewN_self wc]; generalize hq_ : World.drewN wc _ = wc; have n0_ : Aside0 (wc.heap[gb141]? = some (.cells #[.int .i64 a1_0, .int .i64 a1_1, .slice A1_2 l1_2.length c1_2] 24 (0, 0))) := ⟨by rw [← hq_]; exact (bk BK141)⟩; have n1_ : Aside0 (wc.heap[gb142]? = some (.cells #[.int .i64 x143000_1, .int .i64 x143001_1] 83 (0, 0))) := ⟨by rw [← hq_]; exact (bk BK142)⟩; have n2_ : Aside0 (IsS60 w0 wc g x1000_1 x1001_1) := ⟨by rw [← hq_]; exact (by repeat (first | (with_reducible first | exact HI0.out | apply IsS60.alloc | apply IsS60.drewN | apply IsS60.drew | apply IsS60.set_0 | apply IsS60.set_1 | refine IsS60.far ?_ NB0_141.out _ | refine IsS60.far ?_ NB0_142.out _) | exact HI0.out))⟩; have n3_ : Aside0 (KeepBut w wc g none) := ⟨by rw [← hq_]; exact (by repeat (first | (with_reducible first | exact HK.out | apply KeepBut.set_ | apply keep_drewN | apply keep_drew | apply keep_alloc | refine keep_far ?_ GW141.out _ | refine keep_far ?_ GW142.out _) | exact HK.out))⟩; have n4_ : Aside0 (Below w0.heap.size w0 wc) := ⟨by rw [← hq_]; exact (by repeat (first | (with_reducible first | exact HB.out | apply below_alloc | apply pw_below_drewN | apply below_drew1 | refine below_set ?_ (IsS60.ge HI0.out) | refine below_set ?_ GE141.out | refine below_set ?_ GE142.out) | exact HB.out))⟩; clear BK141 BK142 HI0 HK HB hq_; have BK141 := n0_; have BK142 := n1_; have HI0 := n2_; have HK := n3_; have HB := n4_; clear n0_ n1_ n2_ n3_ n4_)); have hnb205 := NB141_0.out; have hnc205 := NB0_141.out; obtain ⟨hcz206_0, hcz206_1, hcz206_2, hfz206_0, hfz206_1, hfz206_2⟩ := bc3 BK141; obtain ⟨HGz207, hgz207⟩ := HI0.out; have hcz207_0 := cellS60_0 HGz207; have hcz207_1 := cellS60_1 HGz207; have hfz207_0 := blk_frozen HGz207 0; have hfz207_1 := blk_frozen HGz207 1; clear HGz207 hgz207))
                go_ret
                exact ⟨by first | rfl | (simp [errW_none, errW_some] <;> rfl) | (simp [*, errW_none, errW_some] <;> rfl), by repeat (first | (with_reducible first | exact HI0.out | apply IsS60.alloc | apply IsS60.drewN | apply IsS60.drew | apply IsS60.set_0 | apply IsS60.set_1 | refine IsS60.far ?_ NB0_141.out _ | refine IsS60.far ?_ NB0_142.out _) | exact HI0.out), by repeat (first | (with_reducible first | exact HB.out | apply below_alloc | apply pw_below_drewN | apply below_drew1 | refine below_set ?_ (IsS60.ge HI0.out) | refine below_set ?_ GE141.out | refine below_set ?_ GE142.out) | exact HB.out), by repeat (first | (with_reducible first | exact HK.out | apply KeepBut.set_ | apply keep_drewN | apply keep_drew | apply keep_alloc | refine keep_far ?_ GW141.out _ | refine keep_far ?_ GW142.out _) | exact HK.out)⟩
               ·rw [if_neg c201] at H
                have c201b0 : decide (t148 < (-2147483647)) = false := decide_eq_false c201
                clear c201
                by_cases c208 : t148 > 2147483647
                ·rw [if_pos c208] at H
                 have c208b0 : decide (2147483647 < t148) = true := decide_eq_true c208
                 clear c208
                 simp only [Option.some.injEq, Prod.mk.injEq] at H
                 obtain ⟨rfl, rfl, rfl⟩ := H
                 have hnb209 := NB142_141.out
                 have hnc209 := NB141_142.out
                 have hnb210 := NB142_0.out
                 have hnc210 := NB0_142.out
                 obtain ⟨hcz211_0, hcz211_1, hfz211_0, hfz211_1⟩ := bc2 BK142
                 go_wp2_with (first | ((with_reducible refine gate_callee (f := 40) rfl ?_); refine goesL_ (some 77) rfl rfl Tryd.func40 kx rfl #[.int .i64 x143000_1, .int .i64 x143001_1] rfl aa ?_; (with_reducible refine (whole_Div.calls kj172 x143000_1 x143001_1 t148 t149 t150 _ A179.out).mono ?_); rintro e w' ⟨rfl, ⟨nd, rfl⟩⟩; refine ⟨_, rfl, ?_⟩; (try (rw [drewN_self wc]; generalize hq_ : World.drewN wc _ = wc; have n0_ : Aside0 (wc.heap[gb141]? = some (.cells #[.int .i64 a1_0, .int .i64 a1_1, .slice A1_2 l1_2.length c1_2] 24 (0, 0))) := ⟨by rw [← hq_]; exact (bk BK141)⟩; have n1_ : Aside0 (wc.heap[gb142]? = some (.cells #[.int .i64 x143000_1, .int .i64 x143001_1] 83 (0, 0))) := ⟨by rw [← hq_]; exact (bk BK142)⟩; have n2_ : Aside0 (IsS60 w0 wc g x1000_1 x1001_1) := ⟨by rw [← hq_]; exact (by repeat (first | (with_reducible first | exact HI0.out | apply IsS60.alloc | apply IsS60.drewN | apply IsS60.drew | apply IsS60.set_0 | apply IsS60.set_1 | refine IsS60.far ?_ NB0_141.out _ | refine IsS60.far ?_ NB0_142.out _) | exact HI0.out))⟩; have n3_ : Aside0 (KeepBut w wc g none) := ⟨by rw [← hq_]; exact (by repeat (first | (with_reducible first | exact HK.out | apply KeepBut.set_ | apply keep_drewN | apply keep_drew | apply keep_alloc | refine keep_far ?_ GW141.out _ | refine keep_far ?_ GW142.out _) | exact HK.out))⟩; have n4_ : Aside0 (Below w0.heap.size w0 wc) := ⟨by rw [← hq_]; exact (by repeat (first | (with_reducible first | exact HB.out | apply below_alloc | apply pw_below_drewN | apply below_drew1 | refine below_set ?_ (IsS60.ge HI0.out) | refine below_set ?_ GE141.out | refine below_set ?_ GE142.out) | exact HB.out))⟩; clear BK141 BK142 HI0 HK HB hq_; have BK141 := n0_; have BK142 := n1_; have HI0 := n2_; have HK := n3_; have HB := n4_; clear n0_ n1_ n2_ n3_ n4_)); have hnb212 := NB141_0.out; have hnc212 := NB0_141.out; obtain ⟨hcz213_0, hcz213_1, hcz213_2, hfz213_0, hfz213_1, hfz213_2⟩ := bc3 BK141; obtain ⟨HGz214, hgz214⟩ := HI0.out; have hcz214_0 := cellS60_0 HGz214; have hcz214_1 := cellS60_1 HGz214; have hfz214_0 := blk_frozen HGz214 0; have hfz214_1 := blk_frozen HGz214 1; clear HGz214 hgz214))
                 go_ret
                 exact ⟨by first | rfl | (simp [errW_none, errW_some] <;> rfl) | (simp [*, errW_none, errW_some] <;> rfl), by repeat (first | (with_reducible first | exact HI0.out | apply IsS60.alloc | apply IsS60.drewN | apply IsS60.drew | apply IsS60.set_0 | apply IsS60.set_1 | refine IsS60.far ?_ NB0_141.out _ | refine IsS60.far ?_ NB0_142.out _) | exact HI0.out), by repeat (first | (with_reducible first | exact HB.out | apply below_alloc | apply pw_below_drewN | apply below_drew1 | refine below_set ?_ (IsS60.ge HI0.out) | refine below_set ?_ GE141.out | refine below_set ?_ GE142.out) | exact HB.out), by repeat (first | (with_reducible first | exact HK.out | apply KeepBut.set_ | apply keep_drewN | apply keep_drew | apply keep_alloc | refine keep_far ?_ GW141.out _ | refine keep_far ?_ GW142.out _) | exact HK.out)⟩
                ·rw [if_neg c208] at H
                 have c208b0 : decide (2147483647 < t148) = false := decide_eq_false c208
                 clear c208
                 simp only [Option.some.injEq, Prod.mk.injEq] at H
                 obtain ⟨rfl, rfl, rfl⟩ := H
                 have hnb215 := NB142_141.out
                 have hnc215 := NB141_142.out
                 have hnb216 := NB142_0.out
                 have hnc216 := NB0_142.out
                 obtain ⟨hcz217_0, hcz217_1, hfz217_0, hfz217_1⟩ := bc2 BK142
                 go_wp2_with (first | ((with_reducible refine gate_callee (f := 40) rfl ?_); refine goesL_ (some 77) rfl rfl Tryd.func40 kx rfl #[.int .i64 x143000_1, .int .i64 x143001_1] rfl aa ?_; (with_reducible refine (whole_Div.calls kj172 x143000_1 x143001_1 t148 t149 t150 _ A179.out).mono ?_); rintro e w' ⟨rfl, ⟨nd, rfl⟩⟩; refine ⟨_, rfl, ?_⟩; have hnb218 := NB141_0.out; have hnc218 := NB0_141.out; obtain ⟨hcz219_0, hcz219_1, hcz219_2, hfz219_0, hfz219_1, hfz219_2⟩ := bc3 BK141))
                 go_ret
                 exact ⟨by first | rfl | (simp [errW_none, errW_some] <;> rfl) | (simp [*, errW_none, errW_some] <;> rfl), by repeat (first | (with_reducible first | exact HI0.out | apply IsS60.alloc | apply IsS60.drewN | apply IsS60.drew | apply IsS60.set_0 | apply IsS60.set_1 | refine IsS60.far ?_ NB0_141.out _ | refine IsS60.far ?_ NB0_142.out _) | exact HI0.out), by repeat (first | (with_reducible first | exact HB.out | apply below_alloc | apply pw_below_drewN | apply below_drew1 | refine below_set ?_ (IsS60.ge HI0.out) | refine below_set ?_ GE141.out | refine below_set ?_ GE142.out) | exact HB.out), by repeat (first | (with_reducible first | exact HK.out | apply KeepBut.set_ | apply keep_drewN | apply keep_drew | apply keep_alloc | refine keep_far ?_ GW141.out _ | refine keep_far ?_ GW142.out _) | exact HK.out)⟩
             ·rw [if_neg c180] at H
              have c180b0 : (t150 == 0) = false := beq_eq_false_iff_ne.mpr c180
              have c180b1 : (t150 != 0) = true := bne_iff_ne.mpr c180
              simp only [Option.some.injEq, Prod.mk.injEq] at H
              obtain ⟨rfl, rfl, rfl⟩ := H
              have hnb220 := NB142_141.out
              have hnc220 := NB141_142.out
              have hnb221 := NB142_0.out
              have hnc221 := NB0_142.out
              obtain ⟨hcz222_0, hcz222_1, hfz222_0, hfz222_1⟩ := bc2 BK142
              go_wp2_with (first | ((with_reducible refine gate_callee (f := 40) rfl ?_); refine goesL_ (some 77) rfl rfl Tryd.func40 kx rfl #[.int .i64 x143000_1, .int .i64 x143001_1] rfl aa ?_; (with_reducible refine (whole_Div.calls kj172 x143000_1 x143001_1 t148 t149 t150 _ A179.out).mono ?_); rintro e w' ⟨rfl, ⟨nd, rfl⟩⟩; refine ⟨_, rfl, ?_⟩; (try (rw [drewN_self wc]; generalize hq_ : World.drewN wc _ = wc; have n0_ : Aside0 (wc.heap[gb141]? = some (.cells #[.int .i64 a1_0, .int .i64 a1_1, .slice A1_2 l1_2.length c1_2] 24 (0, 0))) := ⟨by rw [← hq_]; exact (bk BK141)⟩; have n1_ : Aside0 (wc.heap[gb142]? = some (.cells #[.int .i64 x143000_1, .int .i64 x143001_1] 83 (0, 0))) := ⟨by rw [← hq_]; exact (bk BK142)⟩; have n2_ : Aside0 (IsS60 w0 wc g x1000_1 x1001_1) := ⟨by rw [← hq_]; exact (by repeat (first | (with_reducible first | exact HI0.out | apply IsS60.alloc | apply IsS60.drewN | apply IsS60.drew | apply IsS60.set_0 | apply IsS60.set_1 | refine IsS60.far ?_ NB0_141.out _ | refine IsS60.far ?_ NB0_142.out _) | exact HI0.out))⟩; have n3_ : Aside0 (KeepBut w wc g none) := ⟨by rw [← hq_]; exact (by repeat (first | (with_reducible first | exact HK.out | apply KeepBut.set_ | apply keep_drewN | apply keep_drew | apply keep_alloc | refine keep_far ?_ GW141.out _ | refine keep_far ?_ GW142.out _) | exact HK.out))⟩; have n4_ : Aside0 (Below w0.heap.size w0 wc) := ⟨by rw [← hq_]; exact (by repeat (first | (with_reducible first | exact HB.out | apply below_alloc | apply pw_below_drewN | apply below_drew1 | refine below_set ?_ (IsS60.ge HI0.out) | refine below_set ?_ GE141.out | refine below_set ?_ GE142.out) | exact HB.out))⟩; clear BK141 BK142 HI0 HK HB hq_; have BK141 := n0_; have BK142 := n1_; have HI0 := n2_; have HK := n3_; have HB := n4_; clear n0_ n1_ n2_ n3_ n4_)); obtain ⟨HGz223, hgz223⟩ := HI0.out; have hcz223_0 := cellS60_0 HGz223; have hcz223_1 := cellS60_1 HGz223; have hfz223_0 := blk_frozen HGz223 0; have hfz223_1 := blk_frozen HGz223 1; clear HGz223 hgz223))
              go_ret
              exact ⟨by first | rfl | (simp [errW_none, errW_some] <;> rfl) | (simp [*, errW_none, errW_some] <;> rfl), by repeat (first | (with_reducible first | exact HI0.out | apply IsS60.alloc | apply IsS60.drewN | apply IsS60.drew | apply IsS60.set_0 | apply IsS60.set_1 | refine IsS60.far ?_ NB0_141.out _ | refine IsS60.far ?_ NB0_142.out _) | exact HI0.out), by repeat (first | (with_reducible first | exact HB.out | apply below_alloc | apply pw_below_drewN | apply below_drew1 | refine below_set ?_ (IsS60.ge HI0.out) | refine below_set ?_ GE141.out | refine below_set ?_ GE142.out) | exact HB.out), by repeat (first | (with_reducible first | exact HK.out | apply KeepBut.set_ | apply keep_drewN | apply keep_drew | apply keep_alloc | refine keep_far ?_ GW141.out _ | refine keep_far ?_ GW142.out _) | exact HK.out)⟩
            ·replace c178 := Bool.eq_false_iff.mpr c178
             subst c178
             have H1 : (if a1_0 = 9 then ((rule_boolean.f (decide (x143000_1 < x143001_1))).bind fun t151 => (if t151 < (-2147483647) then (some (0, x1000_1, 14)) else (if t151 > 2147483647 then (some (0, x1000_1, 14)) else (some (t151, x1000_1, x1001_1))))) else (if a1_0 = 10 then ((rule_boolean.f (x143000_1 == x143001_1)).bind fun t152 => (if t152 < (-2147483647) then (some (0, x1000_1, 14)) else (if t152 > 2147483647 then (some (0, x1000_1, 14)) else (some (t152, x1000_1, x1001_1))))) else (if a1_0 = 11 then ((rule_boolean.f (x143000_1 == 0)).bind fun t153 => (if t153 < (-2147483647) then (some (0, x1000_1, 14)) else (if t153 > 2147483647 then (some (0, x1000_1, 14)) else (some (t153, x1000_1, x1001_1))))) else (if a1_0 = 12 then (if x143000_1 = 0 then ((rule_boolean.f false).bind fun t154 => (if t154 < (-2147483647) then (some (0, x1000_1, 14)) else (if t154 > 2147483647 then (some (0, x1000_1, 14)) else (some (t154, x1000_1, x1001_1))))) else ((rule_boolean.f (x143001_1 != 0)).bind fun t155 => (if t155 < (-2147483647) then (some (0, x1000_1, 14)) else (if t155 > 2147483647 then (some (0, x1000_1, 14)) else (some (t155, x1000_1, x1001_1)))))) else (if a1_0 = 13 then (if x143000_1 = 0 then ((rule_boolean.f (x143001_1 != 0)).bind fun t156 => (if t156 < (-2147483647) then (some (0, x1000_1, 14)) else (if t156 > 2147483647 then (some (0, x1000_1, 14)) else (some (t156, x1000_1, x1001_1))))) else ((rule_boolean.f true).bind fun t157 => (if t157 < (-2147483647) then (some (0, x1000_1, 14)) else (if t157 > 2147483647 then (some (0, x1000_1, 14)) else (some (t157, x1000_1, x1001_1)))))) else (if 0 < (-2147483647) then (some (0, x1000_1, 14)) else (if 0 > 2147483647 then (some (0, x1000_1, 14)) else (some (0, x1000_1, x1001_1))))))))) = some (r1, r2, r3) := by rw [if_neg (show ¬ (false = true) by decide)] at H; exact H
             clear H
             have H := H1
             clear H1
             by_cases c224 : a1_0 = 9
             ·rw [if_pos c224] at H
              have c224b0 : (a1_0 == 9) = true := beq_iff_eq.mpr c224
              have c224b1 : (a1_0 != 9) = false := bne_eq_false_iff_eq.mpr c224
              clear c224
              replace H := Option.bind_eq_some_iff.mp H
              obtain ⟨t151, A2250, H⟩ := H
              replace H : (if t151 < (-2147483647) then (some (0, x1000_1, 14)) else (if t151 > 2147483647 then (some (0, x1000_1, 14)) else (some (t151, x1000_1, x1001_1)))) = some (r1, r2, r3) := H
              have A225 := Aside0.mk A2250
              clear A2250
              by_cases c226 : t151 < (-2147483647)
              ·rw [if_pos c226] at H
               have c226b0 : decide (t151 < (-2147483647)) = true := decide_eq_true c226
               clear c226
               simp only [Option.some.injEq, Prod.mk.injEq] at H
               obtain ⟨rfl, rfl, rfl⟩ := H
               have hnb227 := NB142_141.out
               have hnc227 := NB141_142.out
               have hnb228 := NB142_0.out
               have hnc228 := NB0_142.out
               obtain ⟨hcz229_0, hcz229_1, hfz229_0, hfz229_1⟩ := bc2 BK142
               go_wp2_with (first | ((with_reducible refine gate_callee (f := 41) rfl ?_); refine goesL_ (some 99) rfl rfl Tryd.func41 kx rfl #[.bool (decide (x143000_1 < x143001_1))] rfl aa ?_; (with_reducible refine (rule_boolean.calls (decide (x143000_1 < x143001_1)) t151 _ A225.out).mono ?_); rintro e w' ⟨rfl, ⟨nd, rfl⟩⟩; refine ⟨_, rfl, ?_⟩; (try (rw [drewN_self wc]; generalize hq_ : World.drewN wc _ = wc; have n0_ : Aside0 (wc.heap[gb141]? = some (.cells #[.int .i64 a1_0, .int .i64 a1_1, .slice A1_2 l1_2.length c1_2] 24 (0, 0))) := ⟨by rw [← hq_]; exact (bk BK141)⟩; have n1_ : Aside0 (wc.heap[gb142]? = some (.cells #[.int .i64 x143000_1, .int .i64 x143001_1] 83 (0, 0))) := ⟨by rw [← hq_]; exact (bk BK142)⟩; have n2_ : Aside0 (IsS60 w0 wc g x1000_1 x1001_1) := ⟨by rw [← hq_]; exact (by repeat (first | (with_reducible first | exact HI0.out | apply IsS60.alloc | apply IsS60.drewN | apply IsS60.drew | apply IsS60.set_0 | apply IsS60.set_1 | refine IsS60.far ?_ NB0_141.out _ | refine IsS60.far ?_ NB0_142.out _) | exact HI0.out))⟩; have n3_ : Aside0 (KeepBut w wc g none) := ⟨by rw [← hq_]; exact (by repeat (first | (with_reducible first | exact HK.out | apply KeepBut.set_ | apply keep_drewN | apply keep_drew | apply keep_alloc | refine keep_far ?_ GW141.out _ | refine keep_far ?_ GW142.out _) | exact HK.out))⟩; have n4_ : Aside0 (Below w0.heap.size w0 wc) := ⟨by rw [← hq_]; exact (by repeat (first | (with_reducible first | exact HB.out | apply below_alloc | apply pw_below_drewN | apply below_drew1 | refine below_set ?_ (IsS60.ge HI0.out) | refine below_set ?_ GE141.out | refine below_set ?_ GE142.out) | exact HB.out))⟩; clear BK141 BK142 HI0 HK HB hq_; have BK141 := n0_; have BK142 := n1_; have HI0 := n2_; have HK := n3_; have HB := n4_; clear n0_ n1_ n2_ n3_ n4_)); obtain ⟨HGz230, hgz230⟩ := HI0.out; have hcz230_0 := cellS60_0 HGz230; have hcz230_1 := cellS60_1 HGz230; have hfz230_0 := blk_frozen HGz230 0; have hfz230_1 := blk_frozen HGz230 1; clear HGz230 hgz230))
               go_ret
               exact ⟨by first | rfl | (simp [errW_none, errW_some] <;> rfl) | (simp [*, errW_none, errW_some] <;> rfl), by repeat (first | (with_reducible first | exact HI0.out | apply IsS60.alloc | apply IsS60.drewN | apply IsS60.drew | apply IsS60.set_0 | apply IsS60.set_1 | refine IsS60.far ?_ NB0_141.out _ | refine IsS60.far ?_ NB0_142.out _) | exact HI0.out), by repeat (first | (with_reducible first | exact HB.out | apply below_alloc | apply pw_below_drewN | apply below_drew1 | refine below_set ?_ (IsS60.ge HI0.out) | refine below_set ?_ GE141.out | refine below_set ?_ GE142.out) | exact HB.out), by repeat (first | (with_reducible first | exact HK.out | apply KeepBut.set_ | apply keep_drewN | apply keep_drew | apply keep_alloc | refine keep_far ?_ GW141.out _ | refine keep_far ?_ GW142.out _) | exact HK.out)⟩
              ·rw [if_neg c226] at H
               have c226b0 : decide (t151 < (-2147483647)) = false := decide_eq_false c226
               clear c226
               by_cases c231 : t151 > 2147483647
               ·rw [if_pos c231] at H
                have c231b0 : decide (2147483647 < t151) = true := decide_eq_true c231
                clear c231
                simp only [Option.some.injEq, Prod.mk.injEq] at H
                obtain ⟨rfl, rfl, rfl⟩ := H
                have hnb232 := NB142_141.out
                have hnc232 := NB141_142.out
                have hnb233 := NB142_0.out
                have hnc233 := NB0_142.out
                obtain ⟨hcz234_0, hcz234_1, hfz234_0, hfz234_1⟩ := bc2 BK142
                go_wp2_with (first | ((with_reducible refine gate_callee (f := 41) rfl ?_); refine goesL_ (some 99) rfl rfl Tryd.func41 kx rfl #[.bool (decide (x143000_1 < x143001_1))] rfl aa ?_; (with_reducible refine (rule_boolean.calls (decide (x143000_1 < x143001_1)) t151 _ A225.out).mono ?_); rintro e w' ⟨rfl, ⟨nd, rfl⟩⟩; refine ⟨_, rfl, ?_⟩; (try (rw [drewN_self wc]; generalize hq_ : World.drewN wc _ = wc; have n0_ : Aside0 (wc.heap[gb141]? = some (.cells #[.int .i64 a1_0, .int .i64 a1_1, .slice A1_2 l1_2.length c1_2] 24 (0, 0))) := ⟨by rw [← hq_]; exact (bk BK141)⟩; have n1_ : Aside0 (wc.heap[gb142]? = some (.cells #[.int .i64 x143000_1, .int .i64 x143001_1] 83 (0, 0))) := ⟨by rw [← hq_]; exact (bk BK142)⟩; have n2_ : Aside0 (IsS60 w0 wc g x1000_1 x1001_1) := ⟨by rw [← hq_]; exact (by repeat (first | (with_reducible first | exact HI0.out | apply IsS60.alloc | apply IsS60.drewN | apply IsS60.drew | apply IsS60.set_0 | apply IsS60.set_1 | refine IsS60.far ?_ NB0_141.out _ | refine IsS60.far ?_ NB0_142.out _) | exact HI0.out))⟩; have n3_ : Aside0 (KeepBut w wc g none) := ⟨by rw [← hq_]; exact (by repeat (first | (with_reducible first | exact HK.out | apply KeepBut.set_ | apply keep_drewN | apply keep_drew | apply keep_alloc | refine keep_far ?_ GW141.out _ | refine keep_far ?_ GW142.out _) | exact HK.out))⟩; have n4_ : Aside0 (Below w0.heap.size w0 wc) := ⟨by rw [← hq_]; exact (by repeat (first | (with_reducible first | exact HB.out | apply below_alloc | apply pw_below_drewN | apply below_drew1 | refine below_set ?_ (IsS60.ge HI0.out) | refine below_set ?_ GE141.out | refine below_set ?_ GE142.out) | exact HB.out))⟩; clear BK141 BK142 HI0 HK HB hq_; have BK141 := n0_; have BK142 := n1_; have HI0 := n2_; have HK := n3_; have HB := n4_; clear n0_ n1_ n2_ n3_ n4_)); obtain ⟨HGz235, hgz235⟩ := HI0.out; have hcz235_0 := cellS60_0 HGz235; have hcz235_1 := cellS60_1 HGz235; have hfz235_0 := blk_frozen HGz235 0; have hfz235_1 := blk_frozen HGz235 1; clear HGz235 hgz235))
                go_ret
                exact ⟨by first | rfl | (simp [errW_none, errW_some] <;> rfl) | (simp [*, errW_none, errW_some] <;> rfl), by repeat (first | (with_reducible first | exact HI0.out | apply IsS60.alloc | apply IsS60.drewN | apply IsS60.drew | apply IsS60.set_0 | apply IsS60.set_1 | refine IsS60.far ?_ NB0_141.out _ | refine IsS60.far ?_ NB0_142.out _) | exact HI0.out), by repeat (first | (with_reducible first | exact HB.out | apply below_alloc | apply pw_below_drewN | apply below_drew1 | refine below_set ?_ (IsS60.ge HI0.out) | refine below_set ?_ GE141.out | refine below_set ?_ GE142.out) | exact HB.out), by repeat (first | (with_reducible first | exact HK.out | apply KeepBut.set_ | apply keep_drewN | apply keep_drew | apply keep_alloc | refine keep_far ?_ GW141.out _ | refine keep_far ?_ GW142.out _) | exact HK.out)⟩
               ·rw [if_neg c231] at H
                have c231b0 : decide (2147483647 < t151) = false := decide_eq_false c231
                clear c231
                simp only [Option.some.injEq, Prod.mk.injEq] at H
                obtain ⟨rfl, rfl, rfl⟩ := H
                have hnb236 := NB142_141.out
                have hnc236 := NB141_142.out
                have hnb237 := NB142_0.out
                have hnc237 := NB0_142.out
                obtain ⟨hcz238_0, hcz238_1, hfz238_0, hfz238_1⟩ := bc2 BK142
                go_wp2_with (first | ((with_reducible refine gate_callee (f := 41) rfl ?_); refine goesL_ (some 99) rfl rfl Tryd.func41 kx rfl #[.bool (decide (x143000_1 < x143001_1))] rfl aa ?_; (with_reducible refine (rule_boolean.calls (decide (x143000_1 < x143001_1)) t151 _ A225.out).mono ?_); rintro e w' ⟨rfl, ⟨nd, rfl⟩⟩; refine ⟨_, rfl, ?_⟩))
                go_ret
                exact ⟨by first | rfl | (simp [errW_none, errW_some] <;> rfl) | (simp [*, errW_none, errW_some] <;> rfl), by repeat (first | (with_reducible first | exact HI0.out | apply IsS60.alloc | apply IsS60.drewN | apply IsS60.drew | apply IsS60.set_0 | apply IsS60.set_1 | refine IsS60.far ?_ NB0_141.out _ | refine IsS60.far ?_ NB0_142.out _) | exact HI0.out), by repeat (first | (with_reducible first | exact HB.out | apply below_alloc | apply pw_below_drewN | apply below_drew1 | refine below_set ?_ (IsS60.ge HI0.out) | refine below_set ?_ GE141.out | refine below_set ?_ GE142.out) | exact HB.out), by repeat (first | (with_reducible first | exact HK.out | apply KeepBut.set_ | apply keep_drewN | apply keep_drew | apply keep_alloc | refine keep_far ?_ GW141.out _ | refine keep_far ?_ GW142.out _) | exact HK.out)⟩
             ·rw [if_neg c224] at H
              have c224b0 : (a1_0 == 9) = false := beq_eq_false_iff_ne.mpr c224
              have c224b1 : (a1_0 != 9) = true := bne_iff_ne.mpr c224
              by_cases c239 : a1_0 = 10
              ·rw [if_pos c239] at H
               have c239b0 : (a1_0 == 10) = true := beq_iff_eq.mpr c239
               have c239b1 : (a1_0 != 10) = false := bne_eq_false_iff_eq.mpr c239
               clear c239
               replace H := Option.bind_eq_some_iff.mp H
               obtain ⟨t152, A2400, H⟩ := H
               replace H : (if t152 < (-2147483647) then (some (0, x1000_1, 14)) else (if t152 > 2147483647 then (some (0, x1000_1, 14)) else (some (t152, x1000_1, x1001_1)))) = some (r1, r2, r3) := H
               have A240 := Aside0.mk A2400
               clear A2400
               by_cases c241 : t152 < (-2147483647)
               ·rw [if_pos c241] at H
                have c241b0 : decide (t152 < (-2147483647)) = true := decide_eq_true c241
                clear c241
                simp only [Option.some.injEq, Prod.mk.injEq] at H
                obtain ⟨rfl, rfl, rfl⟩ := H
                have hnb242 := NB142_141.out
                have hnc242 := NB141_142.out
                have hnb243 := NB142_0.out
                have hnc243 := NB0_142.out
                obtain ⟨hcz244_0, hcz244_1, hfz244_0, hfz244_1⟩ := bc2 BK142
                go_wp2_with (first | ((with_reducible refine gate_callee (f := 41) rfl ?_); refine goesL_ (some 107) rfl rfl Tryd.func41 kx rfl #[.bool (x143000_1 == x143001_1)] rfl aa ?_; (with_reducible refine (rule_boolean.calls (x143000_1 == x143001_1) t152 _ A240.out).mono ?_); rintro e w' ⟨rfl, ⟨nd, rfl⟩⟩; refine ⟨_, rfl, ?_⟩; (try (rw [drewN_self wc]; generalize hq_ : World.drewN wc _ = wc; have n0_ : Aside0 (wc.heap[gb141]? = some (.cells #[.int .i64 a1_0, .int .i64 a1_1, .slice A1_2 l1_2.length c1_2] 24 (0, 0))) := ⟨by rw [← hq_]; exact (bk BK141)⟩; have n1_ : Aside0 (wc.heap[gb142]? = some (.cells #[.int .i64 x143000_1, .int .i64 x143001_1] 83 (0, 0))) := ⟨by rw [← hq_]; exact (bk BK142)⟩; have n2_ : Aside0 (IsS60 w0 wc g x1000_1 x1001_1) := ⟨by rw [← hq_]; exact (by repeat (first | (with_reducible first | exact HI0.out | apply IsS60.alloc | apply IsS60.drewN | apply IsS60.drew | apply IsS60.set_0 | apply IsS60.set_1 | refine IsS60.far ?_ NB0_141.out _ | refine IsS60.far ?_ NB0_142.out _) | exact HI0.out))⟩; have n3_ : Aside0 (KeepBut w wc g none) := ⟨by rw [← hq_]; exact (by repeat (first | (with_reducible first | exact HK.out | apply KeepBut.set_ | apply keep_drewN | apply keep_drew | apply keep_alloc | refine keep_far ?_ GW141.out _ | refine keep_far ?_ GW142.out _) | exact HK.out))⟩; have n4_ : Aside0 (Below w0.heap.size w0 wc) := ⟨by rw [← hq_]; exact (by repeat (first | (with_reducible first | exact HB.out | apply below_alloc | apply pw_below_drewN | apply below_drew1 | refine below_set ?_ (IsS60.ge HI0.out) | refine below_set ?_ GE141.out | refine below_set ?_ GE142.out) | exact HB.out))⟩; clear BK141 BK142 HI0 HK HB hq_; have BK141 := n0_; have BK142 := n1_; have HI0 := n2_; have HK := n3_; have HB := n4_; clear n0_ n1_ n2_ n3_ n4_)); obtain ⟨HGz245, hgz245⟩ := HI0.out; have hcz245_0 := cellS60_0 HGz245; have hcz245_1 := cellS60_1 HGz245; have hfz245_0 := blk_frozen HGz245 0; have hfz245_1 := blk_frozen HGz245 1; clear HGz245 hgz245))
                go_ret
                exact ⟨by first | rfl | (simp [errW_none, errW_some] <;> rfl) | (simp [*, errW_none, errW_some] <;> rfl), by repeat (first | (with_reducible first | exact HI0.out | apply IsS60.alloc | apply IsS60.drewN | apply IsS60.drew | apply IsS60.set_0 | apply IsS60.set_1 | refine IsS60.far ?_ NB0_141.out _ | refine IsS60.far ?_ NB0_142.out _) | exact HI0.out), by repeat (first | (with_reducible first | exact HB.out | apply below_alloc | apply pw_below_drewN | apply below_drew1 | refine below_set ?_ (IsS60.ge HI0.out) | refine below_set ?_ GE141.out | refine below_set ?_ GE142.out) | exact HB.out), by repeat (first | (with_reducible first | exact HK.out | apply KeepBut.set_ | apply keep_drewN | apply keep_drew | apply keep_alloc | refine keep_far ?_ GW141.out _ | refine keep_far ?_ GW142.out _) | exact HK.out)⟩
               ·rw [if_neg c241] at H
                have c241b0 : decide (t152 < (-2147483647)) = false := decide_eq_false c241
                clear c241
                by_cases c246 : t152 > 2147483647
                ·rw [if_pos c246] at H
                 have c246b0 : decide (2147483647 < t152) = true := decide_eq_true c246
                 clear c246
                 simp only [Option.some.injEq, Prod.mk.injEq] at H
                 obtain ⟨rfl, rfl, rfl⟩ := H
                 have hnb247 := NB142_141.out
                 have hnc247 := NB141_142.out
                 have hnb248 := NB142_0.out
                 have hnc248 := NB0_142.out
                 obtain ⟨hcz249_0, hcz249_1, hfz249_0, hfz249_1⟩ := bc2 BK142
                 go_wp2_with (first | ((with_reducible refine gate_callee (f := 41) rfl ?_); refine goesL_ (some 107) rfl rfl Tryd.func41 kx rfl #[.bool (x143000_1 == x143001_1)] rfl aa ?_; (with_reducible refine (rule_boolean.calls (x143000_1 == x143001_1) t152 _ A240.out).mono ?_); rintro e w' ⟨rfl, ⟨nd, rfl⟩⟩; refine ⟨_, rfl, ?_⟩; (try (rw [drewN_self wc]; generalize hq_ : World.drewN wc _ = wc; have n0_ : Aside0 (wc.heap[gb141]? = some (.cells #[.int .i64 a1_0, .int .i64 a1_1, .slice A1_2 l1_2.length c1_2] 24 (0, 0))) := ⟨by rw [← hq_]; exact (bk BK141)⟩; have n1_ : Aside0 (wc.heap[gb142]? = some (.cells #[.int .i64 x143000_1, .int .i64 x143001_1] 83 (0, 0))) := ⟨by rw [← hq_]; exact (bk BK142)⟩; have n2_ : Aside0 (IsS60 w0 wc g x1000_1 x1001_1) := ⟨by rw [← hq_]; exact (by repeat (first | (with_reducible first | exact HI0.out | apply IsS60.alloc | apply IsS60.drewN | apply IsS60.drew | apply IsS60.set_0 | apply IsS60.set_1 | refine IsS60.far ?_ NB0_141.out _ | refine IsS60.far ?_ NB0_142.out _) | exact HI0.out))⟩; have n3_ : Aside0 (KeepBut w wc g none) := ⟨by rw [← hq_]; exact (by repeat (first | (with_reducible first | exact HK.out | apply KeepBut.set_ | apply keep_drewN | apply keep_drew | apply keep_alloc | refine keep_far ?_ GW141.out _ | refine keep_far ?_ GW142.out _) | exact HK.out))⟩; have n4_ : Aside0 (Below w0.heap.size w0 wc) := ⟨by rw [← hq_]; exact (by repeat (first | (with_reducible first | exact HB.out | apply below_alloc | apply pw_below_drewN | apply below_drew1 | refine below_set ?_ (IsS60.ge HI0.out) | refine below_set ?_ GE141.out | refine below_set ?_ GE142.out) | exact HB.out))⟩; clear BK141 BK142 HI0 HK HB hq_; have BK141 := n0_; have BK142 := n1_; have HI0 := n2_; have HK := n3_; have HB := n4_; clear n0_ n1_ n2_ n3_ n4_)); obtain ⟨HGz250, hgz250⟩ := HI0.out; have hcz250_0 := cellS60_0 HGz250; have hcz250_1 := cellS60_1 HGz250; have hfz250_0 := blk_frozen HGz250 0; have hfz250_1 := blk_frozen HGz250 1; clear HGz250 hgz250))
                 go_ret
                 exact ⟨by first | rfl | (simp [errW_none, errW_some] <;> rfl) | (simp [*, errW_none, errW_some] <;> rfl), by repeat (first | (with_reducible first | exact HI0.out | apply IsS60.alloc | apply IsS60.drewN | apply IsS60.drew | apply IsS60.set_0 | apply IsS60.set_1 | refine IsS60.far ?_ NB0_141.out _ | refine IsS60.far ?_ NB0_142.out _) | exact HI0.out), by repeat (first | (with_reducible first | exact HB.out | apply below_alloc | apply pw_below_drewN | apply below_drew1 | refine below_set ?_ (IsS60.ge HI0.out) | refine below_set ?_ GE141.out | refine below_set ?_ GE142.out) | exact HB.out), by repeat (first | (with_reducible first | exact HK.out | apply KeepBut.set_ | apply keep_drewN | apply keep_drew | apply keep_alloc | refine keep_far ?_ GW141.out _ | refine keep_far ?_ GW142.out _) | exact HK.out)⟩
                ·rw [if_neg c246] at H
                 have c246b0 : decide (2147483647 < t152) = false := decide_eq_false c246
                 clear c246
                 simp only [Option.some.injEq, Prod.mk.injEq] at H
                 obtain ⟨rfl, rfl, rfl⟩ := H
                 have hnb251 := NB142_141.out
                 have hnc251 := NB141_142.out
                 have hnb252 := NB142_0.out
                 have hnc252 := NB0_142.out
                 obtain ⟨hcz253_0, hcz253_1, hfz253_0, hfz253_1⟩ := bc2 BK142
                 go_wp2_with (first | ((with_reducible refine gate_callee (f := 41) rfl ?_); refine goesL_ (some 107) rfl rfl Tryd.func41 kx rfl #[.bool (x143000_1 == x143001_1)] rfl aa ?_; (with_reducible refine (rule_boolean.calls (x143000_1 == x143001_1) t152 _ A240.out).mono ?_); rintro e w' ⟨rfl, ⟨nd, rfl⟩⟩; refine ⟨_, rfl, ?_⟩))
                 go_ret
                 exact ⟨by first | rfl | (simp [errW_none, errW_some] <;> rfl) | (simp [*, errW_none, errW_some] <;> rfl), by repeat (first | (with_reducible first | exact HI0.out | apply IsS60.alloc | apply IsS60.drewN | apply IsS60.drew | apply IsS60.set_0 | apply IsS60.set_1 | refine IsS60.far ?_ NB0_141.out _ | refine IsS60.far ?_ NB0_142.out _) | exact HI0.out), by repeat (first | (with_reducible first | exact HB.out | apply below_alloc | apply pw_below_drewN | apply below_drew1 | refine below_set ?_ (IsS60.ge HI0.out) | refine below_set ?_ GE141.out | refine below_set ?_ GE142.out) | exact HB.out), by repeat (first | (with_reducible first | exact HK.out | apply KeepBut.set_ | apply keep_drewN | apply keep_drew | apply keep_alloc | refine keep_far ?_ GW141.out _ | refine keep_far ?_ GW142.out _) | exact HK.out)⟩
              ·rw [if_neg c239] at H
               have c239b0 : (a1_0 == 10) = false := beq_eq_false_iff_ne.mpr c239
               have c239b1 : (a1_0 != 10) = true := bne_iff_ne.mpr c239
               by_cases c254 : a1_0 = 11
               ·rw [if_pos c254] at H
                have c254b0 : (a1_0 == 11) = true := beq_iff_eq.mpr c254
                have c254b1 : (a1_0 != 11) = false := bne_eq_false_iff_eq.mpr c254
                clear c254
                replace H := Option.bind_eq_some_iff.mp H
                obtain ⟨t153, A2550, H⟩ := H
                replace H : (if t153 < (-2147483647) then (some (0, x1000_1, 14)) else (if t153 > 2147483647 then (some (0, x1000_1, 14)) else (some (t153, x1000_1, x1001_1)))) = some (r1, r2, r3) := H
                have A255 := Aside0.mk A2550
                clear A2550
                by_cases c256 : t153 < (-2147483647)
                ·rw [if_pos c256] at H
                 have c256b0 : decide (t153 < (-2147483647)) = true := decide_eq_true c256
                 clear c256
                 simp only [Option.some.injEq, Prod.mk.injEq] at H
                 obtain ⟨rfl, rfl, rfl⟩ := H
                 have hnb257 := NB142_141.out
                 have hnc257 := NB141_142.out
                 have hnb258 := NB142_0.out
                 have hnc258 := NB0_142.out
                 obtain ⟨hcz259_0, hcz259_1, hfz259_0, hfz259_1⟩ := bc2 BK142
                 go_wp2_with (first | ((with_reducible refine gate_callee (f := 41) rfl ?_); refine goesL_ (some 113) rfl rfl Tryd.func41 kx rfl #[.bool (x143000_1 == 0)] rfl aa ?_; (with_reducible refine (rule_boolean.calls (x143000_1 == 0) t153 _ A255.out).mono ?_); rintro e w' ⟨rfl, ⟨nd, rfl⟩⟩; refine ⟨_, rfl, ?_⟩; (try (rw [drewN_self wc]; generalize hq_ : World.drewN wc _ = wc; have n0_ : Aside0 (wc.heap[gb141]? = some (.cells #[.int .i64 a1_0, .int .i64 a1_1, .slice A1_2 l1_2.length c1_2] 24 (0, 0))) := ⟨by rw [← hq_]; exact (bk BK141)⟩; have n1_ : Aside0 (wc.heap[gb142]? = some (.cells #[.int .i64 x143000_1, .int .i64 x143001_1] 83 (0, 0))) := ⟨by rw [← hq_]; exact (bk BK142)⟩; have n2_ : Aside0 (IsS60 w0 wc g x1000_1 x1001_1) := ⟨by rw [← hq_]; exact (by repeat (first | (with_reducible first | exact HI0.out | apply IsS60.alloc | apply IsS60.drewN | apply IsS60.drew | apply IsS60.set_0 | apply IsS60.set_1 | refine IsS60.far ?_ NB0_141.out _ | refine IsS60.far ?_ NB0_142.out _) | exact HI0.out))⟩; have n3_ : Aside0 (KeepBut w wc g none) := ⟨by rw [← hq_]; exact (by repeat (first | (with_reducible first | exact HK.out | apply KeepBut.set_ | apply keep_drewN | apply keep_drew | apply keep_alloc | refine keep_far ?_ GW141.out _ | refine keep_far ?_ GW142.out _) | exact HK.out))⟩; have n4_ : Aside0 (Below w0.heap.size w0 wc) := ⟨by rw [← hq_]; exact (by repeat (first | (with_reducible first | exact HB.out | apply below_alloc | apply pw_below_drewN | apply below_drew1 | refine below_set ?_ (IsS60.ge HI0.out) | refine below_set ?_ GE141.out | refine below_set ?_ GE142.out) | exact HB.out))⟩; clear BK141 BK142 HI0 HK HB hq_; have BK141 := n0_; have BK142 := n1_; have HI0 := n2_; have HK := n3_; have HB := n4_; clear n0_ n1_ n2_ n3_ n4_)); obtain ⟨HGz260, hgz260⟩ := HI0.out; have hcz260_0 := cellS60_0 HGz260; have hcz260_1 := cellS60_1 HGz260; have hfz260_0 := blk_frozen HGz260 0; have hfz260_1 := blk_frozen HGz260 1; clear HGz260 hgz260))
                 go_ret
                 exact ⟨by first | rfl | (simp [errW_none, errW_some] <;> rfl) | (simp [*, errW_none, errW_some] <;> rfl), by repeat (first | (with_reducible first | exact HI0.out | apply IsS60.alloc | apply IsS60.drewN | apply IsS60.drew | apply IsS60.set_0 | apply IsS60.set_1 | refine IsS60.far ?_ NB0_141.out _ | refine IsS60.far ?_ NB0_142.out _) | exact HI0.out), by repeat (first | (with_reducible first | exact HB.out | apply below_alloc | apply pw_below_drewN | apply below_drew1 | refine below_set ?_ (IsS60.ge HI0.out) | refine below_set ?_ GE141.out | refine below_set ?_ GE142.out) | exact HB.out), by repeat (first | (with_reducible first | exact HK.out | apply KeepBut.set_ | apply keep_drewN | apply keep_drew | apply keep_alloc | refine keep_far ?_ GW141.out _ | refine keep_far ?_ GW142.out _) | exact HK.out)⟩
                ·rw [if_neg c256] at H
                 have c256b0 : decide (t153 < (-2147483647)) = false := decide_eq_false c256
                 clear c256
                 by_cases c261 : t153 > 2147483647
                 ·rw [if_pos c261] at H
                  have c261b0 : decide (2147483647 < t153) = true := decide_eq_true c261
                  clear c261
                  simp only [Option.some.injEq, Prod.mk.injEq] at H
                  obtain ⟨rfl, rfl, rfl⟩ := H
                  have hnb262 := NB142_141.out
                  have hnc262 := NB141_142.out
                  have hnb263 := NB142_0.out
                  have hnc263 := NB0_142.out
                  obtain ⟨hcz264_0, hcz264_1, hfz264_0, hfz264_1⟩ := bc2 BK142
                  go_wp2_with (first | ((with_reducible refine gate_callee (f := 41) rfl ?_); refine goesL_ (some 113) rfl rfl Tryd.func41 kx rfl #[.bool (x143000_1 == 0)] rfl aa ?_; (with_reducible refine (rule_boolean.calls (x143000_1 == 0) t153 _ A255.out).mono ?_); rintro e w' ⟨rfl, ⟨nd, rfl⟩⟩; refine ⟨_, rfl, ?_⟩; (try (rw [drewN_self wc]; generalize hq_ : World.drewN wc _ = wc; have n0_ : Aside0 (wc.heap[gb141]? = some (.cells #[.int .i64 a1_0, .int .i64 a1_1, .slice A1_2 l1_2.length c1_2] 24 (0, 0))) := ⟨by rw [← hq_]; exact (bk BK141)⟩; have n1_ : Aside0 (wc.heap[gb142]? = some (.cells #[.int .i64 x143000_1, .int .i64 x143001_1] 83 (0, 0))) := ⟨by rw [← hq_]; exact (bk BK142)⟩; have n2_ : Aside0 (IsS60 w0 wc g x1000_1 x1001_1) := ⟨by rw [← hq_]; exact (by repeat (first | (with_reducible first | exact HI0.out | apply IsS60.alloc | apply IsS60.drewN | apply IsS60.drew | apply IsS60.set_0 | apply IsS60.set_1 | refine IsS60.far ?_ NB0_141.out _ | refine IsS60.far ?_ NB0_142.out _) | exact HI0.out))⟩; have n3_ : Aside0 (KeepBut w wc g none) := ⟨by rw [← hq_]; exact (by repeat (first | (with_reducible first | exact HK.out | apply KeepBut.set_ | apply keep_drewN | apply keep_drew | apply keep_alloc | refine keep_far ?_ GW141.out _ | refine keep_far ?_ GW142.out _) | exact HK.out))⟩; have n4_ : Aside0 (Below w0.heap.size w0 wc) := ⟨by rw [← hq_]; exact (by repeat (first | (with_reducible first | exact HB.out | apply below_alloc | apply pw_below_drewN | apply below_drew1 | refine below_set ?_ (IsS60.ge HI0.out) | refine below_set ?_ GE141.out | refine below_set ?_ GE142.out) | exact HB.out))⟩; clear BK141 BK142 HI0 HK HB hq_; have BK141 := n0_; have BK142 := n1_; have HI0 := n2_; have HK := n3_; have HB := n4_; clear n0_ n1_ n2_ n3_ n4_)); obtain ⟨HGz265, hgz265⟩ := HI0.out; have hcz265_0 := cellS60_0 HGz265; have hcz265_1 := cellS60_1 HGz265; have hfz265_0 := blk_frozen HGz265 0; have hfz265_1 := blk_frozen HGz265 1; clear HGz265 hgz265))
                  go_ret
                  exact ⟨by first | rfl | (simp [errW_none, errW_some] <;> rfl) | (simp [*, errW_none, errW_some] <;> rfl), by repeat (first | (with_reducible first | exact HI0.out | apply IsS60.alloc | apply IsS60.drewN | apply IsS60.drew | apply IsS60.set_0 | apply IsS60.set_1 | refine IsS60.far ?_ NB0_141.out _ | refine IsS60.far ?_ NB0_142.out _) | exact HI0.out), by repeat (first | (with_reducible first | exact HB.out | apply below_alloc | apply pw_below_drewN | apply below_drew1 | refine below_set ?_ (IsS60.ge HI0.out) | refine below_set ?_ GE141.out | refine below_set ?_ GE142.out) | exact HB.out), by repeat (first | (with_reducible first | exact HK.out | apply KeepBut.set_ | apply keep_drewN | apply keep_drew | apply keep_alloc | refine keep_far ?_ GW141.out _ | refine keep_far ?_ GW142.out _) | exact HK.out)⟩
                 ·rw [if_neg c261] at H
                  have c261b0 : decide (2147483647 < t153) = false := decide_eq_false c261
                  clear c261
                  simp only [Option.some.injEq, Prod.mk.injEq] at H
                  obtain ⟨rfl, rfl, rfl⟩ := H
                  have hnb266 := NB142_141.out
                  have hnc266 := NB141_142.out
                  have hnb267 := NB142_0.out
                  have hnc267 := NB0_142.out
                  obtain ⟨hcz268_0, hcz268_1, hfz268_0, hfz268_1⟩ := bc2 BK142
                  go_wp2_with (first | ((with_reducible refine gate_callee (f := 41) rfl ?_); refine goesL_ (some 113) rfl rfl Tryd.func41 kx rfl #[.bool (x143000_1 == 0)] rfl aa ?_; (with_reducible refine (rule_boolean.calls (x143000_1 == 0) t153 _ A255.out).mono ?_); rintro e w' ⟨rfl, ⟨nd, rfl⟩⟩; refine ⟨_, rfl, ?_⟩))
                  go_ret
                  exact ⟨by first | rfl | (simp [errW_none, errW_some] <;> rfl) | (simp [*, errW_none, errW_some] <;> rfl), by repeat (first | (with_reducible first | exact HI0.out | apply IsS60.alloc | apply IsS60.drewN | apply IsS60.drew | apply IsS60.set_0 | apply IsS60.set_1 | refine IsS60.far ?_ NB0_141.out _ | refine IsS60.far ?_ NB0_142.out _) | exact HI0.out), by repeat (first | (with_reducible first | exact HB.out | apply below_alloc | apply pw_below_drewN | apply below_drew1 | refine below_set ?_ (IsS60.ge HI0.out) | refine below_set ?_ GE141.out | refine below_set ?_ GE142.out) | exact HB.out), by repeat (first | (with_reducible first | exact HK.out | apply KeepBut.set_ | apply keep_drewN | apply keep_drew | apply keep_alloc | refine keep_far ?_ GW141.out _ | refine keep_far ?_ GW142.out _) | exact HK.out)⟩
               ·rw [if_neg c254] at H
                have c254b0 : (a1_0 == 11) = false := beq_eq_false_iff_ne.mpr c254
                have c254b1 : (a1_0 != 11) = true := bne_iff_ne.mpr c254
                by_cases c269 : a1_0 = 12
                ·rw [if_pos c269] at H
                 have c269b0 : (a1_0 == 12) = true := beq_iff_eq.mpr c269
                 have c269b1 : (a1_0 != 12) = false := bne_eq_false_iff_eq.mpr c269
                 clear c269
                 by_cases c270 : x143000_1 = 0
                 ·rw [if_pos c270] at H
                  have c270b0 : (x143000_1 == 0) = true := beq_iff_eq.mpr c270
                  have c270b1 : (x143000_1 != 0) = false := bne_eq_false_iff_eq.mpr c270
                  clear c270
                  replace H := Option.bind_eq_some_iff.mp H
                  obtain ⟨t154, A2710, H⟩ := H
                  replace H : (if t154 < (-2147483647) then (some (0, x1000_1, 14)) else (if t154 > 2147483647 then (some (0, x1000_1, 14)) else (some (t154, x1000_1, x1001_1)))) = some (r1, r2, r3) := H
                  have A271 := Aside0.mk A2710
                  clear A2710
                  by_cases c272 : t154 < (-2147483647)
                  ·rw [if_pos c272] at H
                   have c272b0 : decide (t154 < (-2147483647)) = true := decide_eq_true c272
                   clear c272
                   simp only [Option.some.injEq, Prod.mk.injEq] at H
                   obtain ⟨rfl, rfl, rfl⟩ := H
                   have hnb273 := NB142_141.out
                   have hnc273 := NB141_142.out
                   have hnb274 := NB142_0.out
                   have hnc274 := NB0_142.out
                   obtain ⟨hcz275_0, hcz275_1, hfz275_0, hfz275_1⟩ := bc2 BK142
                   go_wp2_with (first | ((with_reducible refine gate_callee (f := 41) rfl ?_); refine goesL_ (some 124) rfl rfl Tryd.func41 kx rfl #[.bool false] rfl aa ?_; (with_reducible refine (rule_boolean.calls false t154 _ A271.out).mono ?_); rintro e w' ⟨rfl, ⟨nd, rfl⟩⟩; refine ⟨_, rfl, ?_⟩; (try (rw [drewN_self wc]; generalize hq_ : World.drewN wc _ = wc; have n0_ : Aside0 (wc.heap[gb141]? = some (.cells #[.int .i64 a1_0, .int .i64 a1_1, .slice A1_2 l1_2.length c1_2] 24 (0, 0))) := ⟨by rw [← hq_]; exact (bk BK141)⟩; have n1_ : Aside0 (wc.heap[gb142]? = some (.cells #[.int .i64 x143000_1, .int .i64 x143001_1] 83 (0, 0))) := ⟨by rw [← hq_]; exact (bk BK142)⟩; have n2_ : Aside0 (IsS60 w0 wc g x1000_1 x1001_1) := ⟨by rw [← hq_]; exact (by repeat (first | (with_reducible first | exact HI0.out | apply IsS60.alloc | apply IsS60.drewN | apply IsS60.drew | apply IsS60.set_0 | apply IsS60.set_1 | refine IsS60.far ?_ NB0_141.out _ | refine IsS60.far ?_ NB0_142.out _) | exact HI0.out))⟩; have n3_ : Aside0 (KeepBut w wc g none) := ⟨by rw [← hq_]; exact (by repeat (first | (with_reducible first | exact HK.out | apply KeepBut.set_ | apply keep_drewN | apply keep_drew | apply keep_alloc | refine keep_far ?_ GW141.out _ | refine keep_far ?_ GW142.out _) | exact HK.out))⟩; have n4_ : Aside0 (Below w0.heap.size w0 wc) := ⟨by rw [← hq_]; exact (by repeat (first | (with_reducible first | exact HB.out | apply below_alloc | apply pw_below_drewN | apply below_drew1 | refine below_set ?_ (IsS60.ge HI0.out) | refine below_set ?_ GE141.out | refine below_set ?_ GE142.out) | exact HB.out))⟩; clear BK141 BK142 HI0 HK HB hq_; have BK141 := n0_; have BK142 := n1_; have HI0 := n2_; have HK := n3_; have HB := n4_; clear n0_ n1_ n2_ n3_ n4_)); obtain ⟨HGz276, hgz276⟩ := HI0.out; have hcz276_0 := cellS60_0 HGz276; have hcz276_1 := cellS60_1 HGz276; have hfz276_0 := blk_frozen HGz276 0; have hfz276_1 := blk_frozen HGz276 1; clear HGz276 hgz276))
                   go_ret
                   exact ⟨by first | rfl | (simp [errW_none, errW_some] <;> rfl) | (simp [*, errW_none, errW_some] <;> rfl), by repeat (first | (with_reducible first | exact HI0.out | apply IsS60.alloc | apply IsS60.drewN | apply IsS60.drew | apply IsS60.set_0 | apply IsS60.set_1 | refine IsS60.far ?_ NB0_141.out _ | refine IsS60.far ?_ NB0_142.out _) | exact HI0.out), by repeat (first | (with_reducible first | exact HB.out | apply below_alloc | apply pw_below_drewN | apply below_drew1 | refine below_set ?_ (IsS60.ge HI0.out) | refine below_set ?_ GE141.out | refine below_set ?_ GE142.out) | exact HB.out), by repeat (first | (with_reducible first | exact HK.out | apply KeepBut.set_ | apply keep_drewN | apply keep_drew | apply keep_alloc | refine keep_far ?_ GW141.out _ | refine keep_far ?_ GW142.out _) | exact HK.out)⟩
                  ·rw [if_neg c272] at H
                   have c272b0 : decide (t154 < (-2147483647)) = false := decide_eq_false c272
                   clear c272
                   by_cases c277 : t154 > 2147483647
                   ·rw [if_pos c277] at H
                    have c277b0 : decide (2147483647 < t154) = true := decide_eq_true c277
                    clear c277
                    simp only [Option.some.injEq, Prod.mk.injEq] at H
                    obtain ⟨rfl, rfl, rfl⟩ := H
                    have hnb278 := NB142_141.out
                    have hnc278 := NB141_142.out
                    have hnb279 := NB142_0.out
                    have hnc279 := NB0_142.out
                    obtain ⟨hcz280_0, hcz280_1, hfz280_0, hfz280_1⟩ := bc2 BK142
                    go_wp2_with (first | ((with_reducible refine gate_callee (f := 41) rfl ?_); refine goesL_ (some 124) rfl rfl Tryd.func41 kx rfl #[.bool false] rfl aa ?_; (with_reducible refine (rule_boolean.calls false t154 _ A271.out).mono ?_); rintro e w' ⟨rfl, ⟨nd, rfl⟩⟩; refine ⟨_, rfl, ?_⟩; (try (rw [drewN_self wc]; generalize hq_ : World.drewN wc _ = wc; have n0_ : Aside0 (wc.heap[gb141]? = some (.cells #[.int .i64 a1_0, .int .i64 a1_1, .slice A1_2 l1_2.length c1_2] 24 (0, 0))) := ⟨by rw [← hq_]; exact (bk BK141)⟩; have n1_ : Aside0 (wc.heap[gb142]? = some (.cells #[.int .i64 x143000_1, .int .i64 x143001_1] 83 (0, 0))) := ⟨by rw [← hq_]; exact (bk BK142)⟩; have n2_ : Aside0 (IsS60 w0 wc g x1000_1 x1001_1) := ⟨by rw [← hq_]; exact (by repeat (first | (with_reducible first | exact HI0.out | apply IsS60.alloc | apply IsS60.drewN | apply IsS60.drew | apply IsS60.set_0 | apply IsS60.set_1 | refine IsS60.far ?_ NB0_141.out _ | refine IsS60.far ?_ NB0_142.out _) | exact HI0.out))⟩; have n3_ : Aside0 (KeepBut w wc g none) := ⟨by rw [← hq_]; exact (by repeat (first | (with_reducible first | exact HK.out | apply KeepBut.set_ | apply keep_drewN | apply keep_drew | apply keep_alloc | refine keep_far ?_ GW141.out _ | refine keep_far ?_ GW142.out _) | exact HK.out))⟩; have n4_ : Aside0 (Below w0.heap.size w0 wc) := ⟨by rw [← hq_]; exact (by repeat (first | (with_reducible first | exact HB.out | apply below_alloc | apply pw_below_drewN | apply below_drew1 | refine below_set ?_ (IsS60.ge HI0.out) | refine below_set ?_ GE141.out | refine below_set ?_ GE142.out) | exact HB.out))⟩; clear BK141 BK142 HI0 HK HB hq_; have BK141 := n0_; have BK142 := n1_; have HI0 := n2_; have HK := n3_; have HB := n4_; clear n0_ n1_ n2_ n3_ n4_)); obtain ⟨HGz281, hgz281⟩ := HI0.out; have hcz281_0 := cellS60_0 HGz281; have hcz281_1 := cellS60_1 HGz281; have hfz281_0 := blk_frozen HGz281 0; have hfz281_1 := blk_frozen HGz281 1; clear HGz281 hgz281))
                    go_ret
                    exact ⟨by first | rfl | (simp [errW_none, errW_some] <;> rfl) | (simp [*, errW_none, errW_some] <;> rfl), by repeat (first | (with_reducible first | exact HI0.out | apply IsS60.alloc | apply IsS60.drewN | apply IsS60.drew | apply IsS60.set_0 | apply IsS60.set_1 | refine IsS60.far ?_ NB0_141.out _ | refine IsS60.far ?_ NB0_142.out _) | exact HI0.out), by repeat (first | (with_reducible first | exact HB.out | apply below_alloc | apply pw_below_drewN | apply below_drew1 | refine below_set ?_ (IsS60.ge HI0.out) | refine below_set ?_ GE141.out | refine below_set ?_ GE142.out) | exact HB.out), by repeat (first | (with_reducible first | exact HK.out | apply KeepBut.set_ | apply keep_drewN | apply keep_drew | apply keep_alloc | refine keep_far ?_ GW141.out _ | refine keep_far ?_ GW142.out _) | exact HK.out)⟩
                   ·rw [if_neg c277] at H
                    have c277b0 : decide (2147483647 < t154) = false := decide_eq_false c277
                    clear c277
                    simp only [Option.some.injEq, Prod.mk.injEq] at H
                    obtain ⟨rfl, rfl, rfl⟩ := H
                    have hnb282 := NB142_141.out
                    have hnc282 := NB141_142.out
                    have hnb283 := NB142_0.out
                    have hnc283 := NB0_142.out
                    obtain ⟨hcz284_0, hcz284_1, hfz284_0, hfz284_1⟩ := bc2 BK142
                    go_wp2_with (first | ((with_reducible refine gate_callee (f := 41) rfl ?_); refine goesL_ (some 124) rfl rfl Tryd.func41 kx rfl #[.bool false] rfl aa ?_; (with_reducible refine (rule_boolean.calls false t154 _ A271.out).mono ?_); rintro e w' ⟨rfl, ⟨nd, rfl⟩⟩; refine ⟨_, rfl, ?_⟩))
                    go_ret
                    exact ⟨by first | rfl | (simp [errW_none, errW_some] <;> rfl) | (simp [*, errW_none, errW_some] <;> rfl), by repeat (first | (with_reducible first | exact HI0.out | apply IsS60.alloc | apply IsS60.drewN | apply IsS60.drew | apply IsS60.set_0 | apply IsS60.set_1 | refine IsS60.far ?_ NB0_141.out _ | refine IsS60.far ?_ NB0_142.out _) | exact HI0.out), by repeat (first | (with_reducible first | exact HB.out | apply below_alloc | apply pw_below_drewN | apply below_drew1 | refine below_set ?_ (IsS60.ge HI0.out) | refine below_set ?_ GE141.out | refine below_set ?_ GE142.out) | exact HB.out), by repeat (first | (with_reducible first | exact HK.out | apply KeepBut.set_ | apply keep_drewN | apply keep_drew | apply keep_alloc | refine keep_far ?_ GW141.out _ | refine keep_far ?_ GW142.out _) | exact HK.out)⟩
                 ·rw [if_neg c270] at H
                  have c270b0 : (x143000_1 == 0) = false := beq_eq_false_iff_ne.mpr c270
                  have c270b1 : (x143000_1 != 0) = true := bne_iff_ne.mpr c270
                  replace H := Option.bind_eq_some_iff.mp H
                  obtain ⟨t155, A2850, H⟩ := H
                  replace H : (if t155 < (-2147483647) then (some (0, x1000_1, 14)) else (if t155 > 2147483647 then (some (0, x1000_1, 14)) else (some (t155, x1000_1, x1001_1)))) = some (r1, r2, r3) := H
                  have A285 := Aside0.mk A2850
                  clear A2850
                  by_cases c286 : t155 < (-2147483647)
                  ·rw [if_pos c286] at H
                   have c286b0 : decide (t155 < (-2147483647)) = true := decide_eq_true c286
                   clear c286
                   simp only [Option.some.injEq, Prod.mk.injEq] at H
                   obtain ⟨rfl, rfl, rfl⟩ := H
                   have hnb287 := NB142_141.out
                   have hnc287 := NB141_142.out
                   have hnb288 := NB142_0.out
                   have hnc288 := NB0_142.out
                   obtain ⟨hcz289_0, hcz289_1, hfz289_0, hfz289_1⟩ := bc2 BK142
                   go_wp2_with (first | ((with_reducible refine gate_callee (f := 41) rfl ?_); refine goesL_ (some 124) rfl rfl Tryd.func41 kx rfl #[.bool (x143001_1 != 0)] rfl aa ?_; (with_reducible refine (rule_boolean.calls (x143001_1 != 0) t155 _ A285.out).mono ?_); rintro e w' ⟨rfl, ⟨nd, rfl⟩⟩; refine ⟨_, rfl, ?_⟩; (try (rw [drewN_self wc]; generalize hq_ : World.drewN wc _ = wc; have n0_ : Aside0 (wc.heap[gb141]? = some (.cells #[.int .i64 a1_0, .int .i64 a1_1, .slice A1_2 l1_2.length c1_2] 24 (0, 0))) := ⟨by rw [← hq_]; exact (bk BK141)⟩; have n1_ : Aside0 (wc.heap[gb142]? = some (.cells #[.int .i64 x143000_1, .int .i64 x143001_1] 83 (0, 0))) := ⟨by rw [← hq_]; exact (bk BK142)⟩; have n2_ : Aside0 (IsS60 w0 wc g x1000_1 x1001_1) := ⟨by rw [← hq_]; exact (by repeat (first | (with_reducible first | exact HI0.out | apply IsS60.alloc | apply IsS60.drewN | apply IsS60.drew | apply IsS60.set_0 | apply IsS60.set_1 | refine IsS60.far ?_ NB0_141.out _ | refine IsS60.far ?_ NB0_142.out _) | exact HI0.out))⟩; have n3_ : Aside0 (KeepBut w wc g none) := ⟨by rw [← hq_]; exact (by repeat (first | (with_reducible first | exact HK.out | apply KeepBut.set_ | apply keep_drewN | apply keep_drew | apply keep_alloc | refine keep_far ?_ GW141.out _ | refine keep_far ?_ GW142.out _) | exact HK.out))⟩; have n4_ : Aside0 (Below w0.heap.size w0 wc) := ⟨by rw [← hq_]; exact (by repeat (first | (with_reducible first | exact HB.out | apply below_alloc | apply pw_below_drewN | apply below_drew1 | refine below_set ?_ (IsS60.ge HI0.out) | refine below_set ?_ GE141.out | refine below_set ?_ GE142.out) | exact HB.out))⟩; clear BK141 BK142 HI0 HK HB hq_; have BK141 := n0_; have BK142 := n1_; have HI0 := n2_; have HK := n3_; have HB := n4_; clear n0_ n1_ n2_ n3_ n4_)); obtain ⟨HGz290, hgz290⟩ := HI0.out; have hcz290_0 := cellS60_0 HGz290; have hcz290_1 := cellS60_1 HGz290; have hfz290_0 := blk_frozen HGz290 0; have hfz290_1 := blk_frozen HGz290 1; clear HGz290 hgz290))
                   go_ret
                   exact ⟨by first | rfl | (simp [errW_none, errW_some] <;> rfl) | (simp [*, errW_none, errW_some] <;> rfl), by repeat (first | (with_reducible first | exact HI0.out | apply IsS60.alloc | apply IsS60.drewN | apply IsS60.drew | apply IsS60.set_0 | apply IsS60.set_1 | refine IsS60.far ?_ NB0_141.out _ | refine IsS60.far ?_ NB0_142.out _) | exact HI0.out), by repeat (first | (with_reducible first | exact HB.out | apply below_alloc | apply pw_below_drewN | apply below_drew1 | refine below_set ?_ (IsS60.ge HI0.out) | refine below_set ?_ GE141.out | refine below_set ?_ GE142.out) | exact HB.out), by repeat (first | (with_reducible first | exact HK.out | apply KeepBut.set_ | apply keep_drewN | apply keep_drew | apply keep_alloc | refine keep_far ?_ GW141.out _ | refine keep_far ?_ GW142.out _) | exact HK.out)⟩
                  ·rw [if_neg c286] at H
                   have c286b0 : decide (t155 < (-2147483647)) = false := decide_eq_false c286
                   clear c286
                   by_cases c291 : t155 > 2147483647
                   ·rw [if_pos c291] at H
                    have c291b0 : decide (2147483647 < t155) = true := decide_eq_true c291
                    clear c291
                    simp only [Option.some.injEq, Prod.mk.injEq] at H
                    obtain ⟨rfl, rfl, rfl⟩ := H
                    have hnb292 := NB142_141.out
                    have hnc292 := NB141_142.out
                    have hnb293 := NB142_0.out
                    have hnc293 := NB0_142.out
                    obtain ⟨hcz294_0, hcz294_1, hfz294_0, hfz294_1⟩ := bc2 BK142
                    go_wp2_with (first | ((with_reducible refine gate_callee (f := 41) rfl ?_); refine goesL_ (some 124) rfl rfl Tryd.func41 kx rfl #[.bool (x143001_1 != 0)] rfl aa ?_; (with_reducible refine (rule_boolean.calls (x143001_1 != 0) t155 _ A285.out).mono ?_); rintro e w' ⟨rfl, ⟨nd, rfl⟩⟩; refine ⟨_, rfl, ?_⟩; (try (rw [drewN_self wc]; generalize hq_ : World.drewN wc _ = wc; have n0_ : Aside0 (wc.heap[gb141]? = some (.cells #[.int .i64 a1_0, .int .i64 a1_1, .slice A1_2 l1_2.length c1_2] 24 (0, 0))) := ⟨by rw [← hq_]; exact (bk BK141)⟩; have n1_ : Aside0 (wc.heap[gb142]? = some (.cells #[.int .i64 x143000_1, .int .i64 x143001_1] 83 (0, 0))) := ⟨by rw [← hq_]; exact (bk BK142)⟩; have n2_ : Aside0 (IsS60 w0 wc g x1000_1 x1001_1) := ⟨by rw [← hq_]; exact (by repeat (first | (with_reducible first | exact HI0.out | apply IsS60.alloc | apply IsS60.drewN | apply IsS60.drew | apply IsS60.set_0 | apply IsS60.set_1 | refine IsS60.far ?_ NB0_141.out _ | refine IsS60.far ?_ NB0_142.out _) | exact HI0.out))⟩; have n3_ : Aside0 (KeepBut w wc g none) := ⟨by rw [← hq_]; exact (by repeat (first | (with_reducible first | exact HK.out | apply KeepBut.set_ | apply keep_drewN | apply keep_drew | apply keep_alloc | refine keep_far ?_ GW141.out _ | refine keep_far ?_ GW142.out _) | exact HK.out))⟩; have n4_ : Aside0 (Below w0.heap.size w0 wc) := ⟨by rw [← hq_]; exact (by repeat (first | (with_reducible first | exact HB.out | apply below_alloc | apply pw_below_drewN | apply below_drew1 | refine below_set ?_ (IsS60.ge HI0.out) | refine below_set ?_ GE141.out | refine below_set ?_ GE142.out) | exact HB.out))⟩; clear BK141 BK142 HI0 HK HB hq_; have BK141 := n0_; have BK142 := n1_; have HI0 := n2_; have HK := n3_; have HB := n4_; clear n0_ n1_ n2_ n3_ n4_)); obtain ⟨HGz295, hgz295⟩ := HI0.out; have hcz295_0 := cellS60_0 HGz295; have hcz295_1 := cellS60_1 HGz295; have hfz295_0 := blk_frozen HGz295 0; have hfz295_1 := blk_frozen HGz295 1; clear HGz295 hgz295))
                    go_ret
                    exact ⟨by first | rfl | (simp [errW_none, errW_some] <;> rfl) | (simp [*, errW_none, errW_some] <;> rfl), by repeat (first | (with_reducible first | exact HI0.out | apply IsS60.alloc | apply IsS60.drewN | apply IsS60.drew | apply IsS60.set_0 | apply IsS60.set_1 | refine IsS60.far ?_ NB0_141.out _ | refine IsS60.far ?_ NB0_142.out _) | exact HI0.out), by repeat (first | (with_reducible first | exact HB.out | apply below_alloc | apply pw_below_drewN | apply below_drew1 | refine below_set ?_ (IsS60.ge HI0.out) | refine below_set ?_ GE141.out | refine below_set ?_ GE142.out) | exact HB.out), by repeat (first | (with_reducible first | exact HK.out | apply KeepBut.set_ | apply keep_drewN | apply keep_drew | apply keep_alloc | refine keep_far ?_ GW141.out _ | refine keep_far ?_ GW142.out _) | exact HK.out)⟩
                   ·rw [if_neg c291] at H
                    have c291b0 : decide (2147483647 < t155) = false := decide_eq_false c291
                    clear c291
                    simp only [Option.some.injEq, Prod.mk.injEq] at H
                    obtain ⟨rfl, rfl, rfl⟩ := H
                    have hnb296 := NB142_141.out
                    have hnc296 := NB141_142.out
                    have hnb297 := NB142_0.out
                    have hnc297 := NB0_142.out
                    obtain ⟨hcz298_0, hcz298_1, hfz298_0, hfz298_1⟩ := bc2 BK142
                    go_wp2_with (first | ((with_reducible refine gate_callee (f := 41) rfl ?_); refine goesL_ (some 124) rfl rfl Tryd.func41 kx rfl #[.bool (x143001_1 != 0)] rfl aa ?_; (with_reducible refine (rule_boolean.calls (x143001_1 != 0) t155 _ A285.out).mono ?_); rintro e w' ⟨rfl, ⟨nd, rfl⟩⟩; refine ⟨_, rfl, ?_⟩))
                    go_ret
                    exact ⟨by first | rfl | (simp [errW_none, errW_some] <;> rfl) | (simp [*, errW_none, errW_some] <;> rfl), by repeat (first | (with_reducible first | exact HI0.out | apply IsS60.alloc | apply IsS60.drewN | apply IsS60.drew | apply IsS60.set_0 | apply IsS60.set_1 | refine IsS60.far ?_ NB0_141.out _ | refine IsS60.far ?_ NB0_142.out _) | exact HI0.out), by repeat (first | (with_reducible first | exact HB.out | apply below_alloc | apply pw_below_drewN | apply below_drew1 | refine below_set ?_ (IsS60.ge HI0.out) | refine below_set ?_ GE141.out | refine below_set ?_ GE142.out) | exact HB.out), by repeat (first | (with_reducible first | exact HK.out | apply KeepBut.set_ | apply keep_drewN | apply keep_drew | apply keep_alloc | refine keep_far ?_ GW141.out _ | refine keep_far ?_ GW142.out _) | exact HK.out)⟩
                ·rw [if_neg c269] at H
                 have c269b0 : (a1_0 == 12) = false := beq_eq_false_iff_ne.mpr c269
                 have c269b1 : (a1_0 != 12) = true := bne_iff_ne.mpr c269
                 by_cases c299 : a1_0 = 13
                 ·rw [if_pos c299] at H
                  have c299b0 : (a1_0 == 13) = true := beq_iff_eq.mpr c299
                  have c299b1 : (a1_0 != 13) = false := bne_eq_false_iff_eq.mpr c299
                  clear c299
                  by_cases c300 : x143000_1 = 0
                  ·rw [if_pos c300] at H
                   have c300b0 : (x143000_1 == 0) = true := beq_iff_eq.mpr c300
                   have c300b1 : (x143000_1 != 0) = false := bne_eq_false_iff_eq.mpr c300
                   clear c300
                   replace H := Option.bind_eq_some_iff.mp H
                   obtain ⟨t156, A3010, H⟩ := H
                   replace H : (if t156 < (-2147483647) then (some (0, x1000_1, 14)) else (if t156 > 2147483647 then (some (0, x1000_1, 14)) else (some (t156, x1000_1, x1001_1)))) = some (r1, r2, r3) := H
                   have A301 := Aside0.mk A3010
                   clear A3010
                   by_cases c302 : t156 < (-2147483647)
                   ·rw [if_pos c302] at H
                    have c302b0 : decide (t156 < (-2147483647)) = true := decide_eq_true c302
                    clear c302
                    simp only [Option.some.injEq, Prod.mk.injEq] at H
                    obtain ⟨rfl, rfl, rfl⟩ := H
                    have hnb303 := NB142_141.out
                    have hnc303 := NB141_142.out
                    have hnb304 := NB142_0.out
                    have hnc304 := NB0_142.out
                    obtain ⟨hcz305_0, hcz305_1, hfz305_0, hfz305_1⟩ := bc2 BK142
                    go_wp2_with (first | ((with_reducible refine gate_callee (f := 41) rfl ?_); refine goesL_ (some 135) rfl rfl Tryd.func41 kx rfl #[.bool (x143001_1 != 0)] rfl aa ?_; (with_reducible refine (rule_boolean.calls (x143001_1 != 0) t156 _ A301.out).mono ?_); rintro e w' ⟨rfl, ⟨nd, rfl⟩⟩; refine ⟨_, rfl, ?_⟩; (try (rw [drewN_self wc]; generalize hq_ : World.drewN wc _ = wc; have n0_ : Aside0 (wc.heap[gb141]? = some (.cells #[.int .i64 a1_0, .int .i64 a1_1, .slice A1_2 l1_2.length c1_2] 24 (0, 0))) := ⟨by rw [← hq_]; exact (bk BK141)⟩; have n1_ : Aside0 (wc.heap[gb142]? = some (.cells #[.int .i64 x143000_1, .int .i64 x143001_1] 83 (0, 0))) := ⟨by rw [← hq_]; exact (bk BK142)⟩; have n2_ : Aside0 (IsS60 w0 wc g x1000_1 x1001_1) := ⟨by rw [← hq_]; exact (by repeat (first | (with_reducible first | exact HI0.out | apply IsS60.alloc | apply IsS60.drewN | apply IsS60.drew | apply IsS60.set_0 | apply IsS60.set_1 | refine IsS60.far ?_ NB0_141.out _ | refine IsS60.far ?_ NB0_142.out _) | exact HI0.out))⟩; have n3_ : Aside0 (KeepBut w wc g none) := ⟨by rw [← hq_]; exact (by repeat (first | (with_reducible first | exact HK.out | apply KeepBut.set_ | apply keep_drewN | apply keep_drew | apply keep_alloc | refine keep_far ?_ GW141.out _ | refine keep_far ?_ GW142.out _) | exact HK.out))⟩; have n4_ : Aside0 (Below w0.heap.size w0 wc) := ⟨by rw [← hq_]; exact (by repeat (first | (with_reducible first | exact HB.out | apply below_alloc | apply pw_below_drewN | apply below_drew1 | refine below_set ?_ (IsS60.ge HI0.out) | refine below_set ?_ GE141.out | refine below_set ?_ GE142.out) | exact HB.out))⟩; clear BK141 BK142 HI0 HK HB hq_; have BK141 := n0_; have BK142 := n1_; have HI0 := n2_; have HK := n3_; have HB := n4_; clear n0_ n1_ n2_ n3_ n4_)); obtain ⟨HGz306, hgz306⟩ := HI0.out; have hcz306_0 := cellS60_0 HGz306; have hcz306_1 := cellS60_1 HGz306; have hfz306_0 := blk_frozen HGz306 0; have hfz306_1 := blk_frozen HGz306 1; clear HGz306 hgz306))
                    go_ret
                    exact ⟨by first | rfl | (simp [errW_none, errW_some] <;> rfl) | (simp [*, errW_none, errW_some] <;> rfl), by repeat (first | (with_reducible first | exact HI0.out | apply IsS60.alloc | apply IsS60.drewN | apply IsS60.drew | apply IsS60.set_0 | apply IsS60.set_1 | refine IsS60.far ?_ NB0_141.out _ | refine IsS60.far ?_ NB0_142.out _) | exact HI0.out), by repeat (first | (with_reducible first | exact HB.out | apply below_alloc | apply pw_below_drewN | apply below_drew1 | refine below_set ?_ (IsS60.ge HI0.out) | refine below_set ?_ GE141.out | refine below_set ?_ GE142.out) | exact HB.out), by repeat (first | (with_reducible first | exact HK.out | apply KeepBut.set_ | apply keep_drewN | apply keep_drew | apply keep_alloc | refine keep_far ?_ GW141.out _ | refine keep_far ?_ GW142.out _) | exact HK.out)⟩
                   ·rw [if_neg c302] at H
                    have c302b0 : decide (t156 < (-2147483647)) = false := decide_eq_false c302
                    clear c302
                    by_cases c307 : t156 > 2147483647
                    ·rw [if_pos c307] at H
                     have c307b0 : decide (2147483647 < t156) = true := decide_eq_true c307
                     clear c307
                     simp only [Option.some.injEq, Prod.mk.injEq] at H
                     obtain ⟨rfl, rfl, rfl⟩ := H
                     have hnb308 := NB142_141.out
                     have hnc308 := NB141_142.out
                     have hnb309 := NB142_0.out
                     have hnc309 := NB0_142.out
                     obtain ⟨hcz310_0, hcz310_1, hfz310_0, hfz310_1⟩ := bc2 BK142
                     go_wp2_with (first | ((with_reducible refine gate_callee (f := 41) rfl ?_); refine goesL_ (some 135) rfl rfl Tryd.func41 kx rfl #[.bool (x143001_1 != 0)] rfl aa ?_; (with_reducible refine (rule_boolean.calls (x143001_1 != 0) t156 _ A301.out).mono ?_); rintro e w' ⟨rfl, ⟨nd, rfl⟩⟩; refine ⟨_, rfl, ?_⟩; (try (rw [drewN_self wc]; generalize hq_ : World.drewN wc _ = wc; have n0_ : Aside0 (wc.heap[gb141]? = some (.cells #[.int .i64 a1_0, .int .i64 a1_1, .slice A1_2 l1_2.length c1_2] 24 (0, 0))) := ⟨by rw [← hq_]; exact (bk BK141)⟩; have n1_ : Aside0 (wc.heap[gb142]? = some (.cells #[.int .i64 x143000_1, .int .i64 x143001_1] 83 (0, 0))) := ⟨by rw [← hq_]; exact (bk BK142)⟩; have n2_ : Aside0 (IsS60 w0 wc g x1000_1 x1001_1) := ⟨by rw [← hq_]; exact (by repeat (first | (with_reducible first | exact HI0.out | apply IsS60.alloc | apply IsS60.drewN | apply IsS60.drew | apply IsS60.set_0 | apply IsS60.set_1 | refine IsS60.far ?_ NB0_141.out _ | refine IsS60.far ?_ NB0_142.out _) | exact HI0.out))⟩; have n3_ : Aside0 (KeepBut w wc g none) := ⟨by rw [← hq_]; exact (by repeat (first | (with_reducible first | exact HK.out | apply KeepBut.set_ | apply keep_drewN | apply keep_drew | apply keep_alloc | refine keep_far ?_ GW141.out _ | refine keep_far ?_ GW142.out _) | exact HK.out))⟩; have n4_ : Aside0 (Below w0.heap.size w0 wc) := ⟨by rw [← hq_]; exact (by repeat (first | (with_reducible first | exact HB.out | apply below_alloc | apply pw_below_drewN | apply below_drew1 | refine below_set ?_ (IsS60.ge HI0.out) | refine below_set ?_ GE141.out | refine below_set ?_ GE142.out) | exact HB.out))⟩; clear BK141 BK142 HI0 HK HB hq_; have BK141 := n0_; have BK142 := n1_; have HI0 := n2_; have HK := n3_; have HB := n4_; clear n0_ n1_ n2_ n3_ n4_)); obtain ⟨HGz311, hgz311⟩ := HI0.out; have hcz311_0 := cellS60_0 HGz311; have hcz311_1 := cellS60_1 HGz311; have hfz311_0 := blk_frozen HGz311 0; have hfz311_1 := blk_frozen HGz311 1; clear HGz311 hgz311))
                     go_ret
                     exact ⟨by first | rfl | (simp [errW_none, errW_some] <;> rfl) | (simp [*, errW_none, errW_some] <;> rfl), by repeat (first | (with_reducible first | exact HI0.out | apply IsS60.alloc | apply IsS60.drewN | apply IsS60.drew | apply IsS60.set_0 | apply IsS60.set_1 | refine IsS60.far ?_ NB0_141.out _ | refine IsS60.far ?_ NB0_142.out _) | exact HI0.out), by repeat (first | (with_reducible first | exact HB.out | apply below_alloc | apply pw_below_drewN | apply below_drew1 | refine below_set ?_ (IsS60.ge HI0.out) | refine below_set ?_ GE141.out | refine below_set ?_ GE142.out) | exact HB.out), by repeat (first | (with_reducible first | exact HK.out | apply KeepBut.set_ | apply keep_drewN | apply keep_drew | apply keep_alloc | refine keep_far ?_ GW141.out _ | refine keep_far ?_ GW142.out _) | exact HK.out)⟩
                    ·rw [if_neg c307] at H
                     have c307b0 : decide (2147483647 < t156) = false := decide_eq_false c307
                     clear c307
                     simp only [Option.some.injEq, Prod.mk.injEq] at H
                     obtain ⟨rfl, rfl, rfl⟩ := H
                     have hnb312 := NB142_141.out
                     have hnc312 := NB141_142.out
                     have hnb313 := NB142_0.out
                     have hnc313 := NB0_142.out
                     obtain ⟨hcz314_0, hcz314_1, hfz314_0, hfz314_1⟩ := bc2 BK142
                     go_wp2_with (first | ((with_reducible refine gate_callee (f := 41) rfl ?_); refine goesL_ (some 135) rfl rfl Tryd.func41 kx rfl #[.bool (x143001_1 != 0)] rfl aa ?_; (with_reducible refine (rule_boolean.calls (x143001_1 != 0) t156 _ A301.out).mono ?_); rintro e w' ⟨rfl, ⟨nd, rfl⟩⟩; refine ⟨_, rfl, ?_⟩))
                     go_ret
                     exact ⟨by first | rfl | (simp [errW_none, errW_some] <;> rfl) | (simp [*, errW_none, errW_some] <;> rfl), by repeat (first | (with_reducible first | exact HI0.out | apply IsS60.alloc | apply IsS60.drewN | apply IsS60.drew | apply IsS60.set_0 | apply IsS60.set_1 | refine IsS60.far ?_ NB0_141.out _ | refine IsS60.far ?_ NB0_142.out _) | exact HI0.out), by repeat (first | (with_reducible first | exact HB.out | apply below_alloc | apply pw_below_drewN | apply below_drew1 | refine below_set ?_ (IsS60.ge HI0.out) | refine below_set ?_ GE141.out | refine below_set ?_ GE142.out) | exact HB.out), by repeat (first | (with_reducible first | exact HK.out | apply KeepBut.set_ | apply keep_drewN | apply keep_drew | apply keep_alloc | refine keep_far ?_ GW141.out _ | refine keep_far ?_ GW142.out _) | exact HK.out)⟩
                  ·rw [if_neg c300] at H
                   have c300b0 : (x143000_1 == 0) = false := beq_eq_false_iff_ne.mpr c300
                   have c300b1 : (x143000_1 != 0) = true := bne_iff_ne.mpr c300
                   replace H := Option.bind_eq_some_iff.mp H
                   obtain ⟨t157, A3150, H⟩ := H
                   replace H : (if t157 < (-2147483647) then (some (0, x1000_1, 14)) else (if t157 > 2147483647 then (some (0, x1000_1, 14)) else (some (t157, x1000_1, x1001_1)))) = some (r1, r2, r3) := H
                   have A315 := Aside0.mk A3150
                   clear A3150
                   by_cases c316 : t157 < (-2147483647)
                   ·rw [if_pos c316] at H
                    have c316b0 : decide (t157 < (-2147483647)) = true := decide_eq_true c316
                    clear c316
                    simp only [Option.some.injEq, Prod.mk.injEq] at H
                    obtain ⟨rfl, rfl, rfl⟩ := H
                    have hnb317 := NB142_141.out
                    have hnc317 := NB141_142.out
                    have hnb318 := NB142_0.out
                    have hnc318 := NB0_142.out
                    obtain ⟨hcz319_0, hcz319_1, hfz319_0, hfz319_1⟩ := bc2 BK142
                    go_wp2_with (first | ((with_reducible refine gate_callee (f := 41) rfl ?_); refine goesL_ (some 135) rfl rfl Tryd.func41 kx rfl #[.bool true] rfl aa ?_; (with_reducible refine (rule_boolean.calls true t157 _ A315.out).mono ?_); rintro e w' ⟨rfl, ⟨nd, rfl⟩⟩; refine ⟨_, rfl, ?_⟩; (try (rw [drewN_self wc]; generalize hq_ : World.drewN wc _ = wc; have n0_ : Aside0 (wc.heap[gb141]? = some (.cells #[.int .i64 a1_0, .int .i64 a1_1, .slice A1_2 l1_2.length c1_2] 24 (0, 0))) := ⟨by rw [← hq_]; exact (bk BK141)⟩; have n1_ : Aside0 (wc.heap[gb142]? = some (.cells #[.int .i64 x143000_1, .int .i64 x143001_1] 83 (0, 0))) := ⟨by rw [← hq_]; exact (bk BK142)⟩; have n2_ : Aside0 (IsS60 w0 wc g x1000_1 x1001_1) := ⟨by rw [← hq_]; exact (by repeat (first | (with_reducible first | exact HI0.out | apply IsS60.alloc | apply IsS60.drewN | apply IsS60.drew | apply IsS60.set_0 | apply IsS60.set_1 | refine IsS60.far ?_ NB0_141.out _ | refine IsS60.far ?_ NB0_142.out _) | exact HI0.out))⟩; have n3_ : Aside0 (KeepBut w wc g none) := ⟨by rw [← hq_]; exact (by repeat (first | (with_reducible first | exact HK.out | apply KeepBut.set_ | apply keep_drewN | apply keep_drew | apply keep_alloc | refine keep_far ?_ GW141.out _ | refine keep_far ?_ GW142.out _) | exact HK.out))⟩; have n4_ : Aside0 (Below w0.heap.size w0 wc) := ⟨by rw [← hq_]; exact (by repeat (first | (with_reducible first | exact HB.out | apply below_alloc | apply pw_below_drewN | apply below_drew1 | refine below_set ?_ (IsS60.ge HI0.out) | refine below_set ?_ GE141.out | refine below_set ?_ GE142.out) | exact HB.out))⟩; clear BK141 BK142 HI0 HK HB hq_; have BK141 := n0_; have BK142 := n1_; have HI0 := n2_; have HK := n3_; have HB := n4_; clear n0_ n1_ n2_ n3_ n4_)); obtain ⟨HGz320, hgz320⟩ := HI0.out; have hcz320_0 := cellS60_0 HGz320; have hcz320_1 := cellS60_1 HGz320; have hfz320_0 := blk_frozen HGz320 0; have hfz320_1 := blk_frozen HGz320 1; clear HGz320 hgz320))
                    go_ret
                    exact ⟨by first | rfl | (simp [errW_none, errW_some] <;> rfl) | (simp [*, errW_none, errW_some] <;> rfl), by repeat (first | (with_reducible first | exact HI0.out | apply IsS60.alloc | apply IsS60.drewN | apply IsS60.drew | apply IsS60.set_0 | apply IsS60.set_1 | refine IsS60.far ?_ NB0_141.out _ | refine IsS60.far ?_ NB0_142.out _) | exact HI0.out), by repeat (first | (with_reducible first | exact HB.out | apply below_alloc | apply pw_below_drewN | apply below_drew1 | refine below_set ?_ (IsS60.ge HI0.out) | refine below_set ?_ GE141.out | refine below_set ?_ GE142.out) | exact HB.out), by repeat (first | (with_reducible first | exact HK.out | apply KeepBut.set_ | apply keep_drewN | apply keep_drew | apply keep_alloc | refine keep_far ?_ GW141.out _ | refine keep_far ?_ GW142.out _) | exact HK.out)⟩
                   ·rw [if_neg c316] at H
                    have c316b0 : decide (t157 < (-2147483647)) = false := decide_eq_false c316
                    clear c316
                    by_cases c321 : t157 > 2147483647
                    ·rw [if_pos c321] at H
                     have c321b0 : decide (2147483647 < t157) = true := decide_eq_true c321
                     clear c321
                     simp only [Option.some.injEq, Prod.mk.injEq] at H
                     obtain ⟨rfl, rfl, rfl⟩ := H
                     have hnb322 := NB142_141.out
                     have hnc322 := NB141_142.out
                     have hnb323 := NB142_0.out
                     have hnc323 := NB0_142.out
                     obtain ⟨hcz324_0, hcz324_1, hfz324_0, hfz324_1⟩ := bc2 BK142
                     go_wp2_with (first | ((with_reducible refine gate_callee (f := 41) rfl ?_); refine goesL_ (some 135) rfl rfl Tryd.func41 kx rfl #[.bool true] rfl aa ?_; (with_reducible refine (rule_boolean.calls true t157 _ A315.out).mono ?_); rintro e w' ⟨rfl, ⟨nd, rfl⟩⟩; refine ⟨_, rfl, ?_⟩; (try (rw [drewN_self wc]; generalize hq_ : World.drewN wc _ = wc; have n0_ : Aside0 (wc.heap[gb141]? = some (.cells #[.int .i64 a1_0, .int .i64 a1_1, .slice A1_2 l1_2.length c1_2] 24 (0, 0))) := ⟨by rw [← hq_]; exact (bk BK141)⟩; have n1_ : Aside0 (wc.heap[gb142]? = some (.cells #[.int .i64 x143000_1, .int .i64 x143001_1] 83 (0, 0))) := ⟨by rw [← hq_]; exact (bk BK142)⟩; have n2_ : Aside0 (IsS60 w0 wc g x1000_1 x1001_1) := ⟨by rw [← hq_]; exact (by repeat (first | (with_reducible first | exact HI0.out | apply IsS60.alloc | apply IsS60.drewN | apply IsS60.drew | apply IsS60.set_0 | apply IsS60.set_1 | refine IsS60.far ?_ NB0_141.out _ | refine IsS60.far ?_ NB0_142.out _) | exact HI0.out))⟩; have n3_ : Aside0 (KeepBut w wc g none) := ⟨by rw [← hq_]; exact (by repeat (first | (with_reducible first | exact HK.out | apply KeepBut.set_ | apply keep_drewN | apply keep_drew | apply keep_alloc | refine keep_far ?_ GW141.out _ | refine keep_far ?_ GW142.out _) | exact HK.out))⟩; have n4_ : Aside0 (Below w0.heap.size w0 wc) := ⟨by rw [← hq_]; exact (by repeat (first | (with_reducible first | exact HB.out | apply below_alloc | apply pw_below_drewN | apply below_drew1 | refine below_set ?_ (IsS60.ge HI0.out) | refine below_set ?_ GE141.out | refine below_set ?_ GE142.out) | exact HB.out))⟩; clear BK141 BK142 HI0 HK HB hq_; have BK141 := n0_; have BK142 := n1_; have HI0 := n2_; have HK := n3_; have HB := n4_; clear n0_ n1_ n2_ n3_ n4_)); obtain ⟨HGz325, hgz325⟩ := HI0.out; have hcz325_0 := cellS60_0 HGz325; have hcz325_1 := cellS60_1 HGz325; have hfz325_0 := blk_frozen HGz325 0; have hfz325_1 := blk_frozen HGz325 1; clear HGz325 hgz325))
                     go_ret
                     exact ⟨by first | rfl | (simp [errW_none, errW_some] <;> rfl) | (simp [*, errW_none, errW_some] <;> rfl), by repeat (first | (with_reducible first | exact HI0.out | apply IsS60.alloc | apply IsS60.drewN | apply IsS60.drew | apply IsS60.set_0 | apply IsS60.set_1 | refine IsS60.far ?_ NB0_141.out _ | refine IsS60.far ?_ NB0_142.out _) | exact HI0.out), by repeat (first | (with_reducible first | exact HB.out | apply below_alloc | apply pw_below_drewN | apply below_drew1 | refine below_set ?_ (IsS60.ge HI0.out) | refine below_set ?_ GE141.out | refine below_set ?_ GE142.out) | exact HB.out), by repeat (first | (with_reducible first | exact HK.out | apply KeepBut.set_ | apply keep_drewN | apply keep_drew | apply keep_alloc | refine keep_far ?_ GW141.out _ | refine keep_far ?_ GW142.out _) | exact HK.out)⟩
                    ·rw [if_neg c321] at H
                     have c321b0 : decide (2147483647 < t157) = false := decide_eq_false c321
                     clear c321
                     simp only [Option.some.injEq, Prod.mk.injEq] at H
                     obtain ⟨rfl, rfl, rfl⟩ := H
                     have hnb326 := NB142_141.out
                     have hnc326 := NB141_142.out
                     have hnb327 := NB142_0.out
                     have hnc327 := NB0_142.out
                     obtain ⟨hcz328_0, hcz328_1, hfz328_0, hfz328_1⟩ := bc2 BK142
                     go_wp2_with (first | ((with_reducible refine gate_callee (f := 41) rfl ?_); refine goesL_ (some 135) rfl rfl Tryd.func41 kx rfl #[.bool true] rfl aa ?_; (with_reducible refine (rule_boolean.calls true t157 _ A315.out).mono ?_); rintro e w' ⟨rfl, ⟨nd, rfl⟩⟩; refine ⟨_, rfl, ?_⟩))
                     go_ret
                     exact ⟨by first | rfl | (simp [errW_none, errW_some] <;> rfl) | (simp [*, errW_none, errW_some] <;> rfl), by repeat (first | (with_reducible first | exact HI0.out | apply IsS60.alloc | apply IsS60.drewN | apply IsS60.drew | apply IsS60.set_0 | apply IsS60.set_1 | refine IsS60.far ?_ NB0_141.out _ | refine IsS60.far ?_ NB0_142.out _) | exact HI0.out), by repeat (first | (with_reducible first | exact HB.out | apply below_alloc | apply pw_below_drewN | apply below_drew1 | refine below_set ?_ (IsS60.ge HI0.out) | refine below_set ?_ GE141.out | refine below_set ?_ GE142.out) | exact HB.out), by repeat (first | (with_reducible first | exact HK.out | apply KeepBut.set_ | apply keep_drewN | apply keep_drew | apply keep_alloc | refine keep_far ?_ GW141.out _ | refine keep_far ?_ GW142.out _) | exact HK.out)⟩
                 ·rw [if_neg c299] at H
                  have c299b0 : (a1_0 == 13) = false := beq_eq_false_iff_ne.mpr c299
                  have c299b1 : (a1_0 != 13) = true := bne_iff_ne.mpr c299
                  by_cases c329 : 0 < (-2147483647)
                  ·rw [if_pos c329] at H
                   have c329b0 : decide (0 < (-2147483647)) = true := decide_eq_true c329
                   exact absurd c329b0 (by decide)
                  ·rw [if_neg c329] at H
                   have c329b0 : decide (0 < (-2147483647)) = false := decide_eq_false c329
                   clear c329
                   by_cases c331 : 0 > 2147483647
                   ·rw [if_pos c331] at H
                    have c331b0 : decide (2147483647 < 0) = true := decide_eq_true c331
                    exact absurd c331b0 (by decide)
                   ·rw [if_neg c331] at H
                    have c331b0 : decide (2147483647 < 0) = false := decide_eq_false c331
                    clear c331
                    simp only [Option.some.injEq, Prod.mk.injEq] at H
                    obtain ⟨rfl, rfl, rfl⟩ := H
                    go_wp2
                    go_ret
                    exact ⟨by first | rfl | (simp [errW_none, errW_some] <;> rfl) | (simp [*, errW_none, errW_some] <;> rfl), by repeat (first | (with_reducible first | exact HI0.out | apply IsS60.alloc | apply IsS60.drewN | apply IsS60.drew | apply IsS60.set_0 | apply IsS60.set_1 | refine IsS60.far ?_ NB0_141.out _ | refine IsS60.far ?_ NB0_142.out _) | exact HI0.out), by repeat (first | (with_reducible first | exact HB.out | apply below_alloc | apply pw_below_drewN | apply below_drew1 | refine below_set ?_ (IsS60.ge HI0.out) | refine below_set ?_ GE141.out | refine below_set ?_ GE142.out) | exact HB.out), by repeat (first | (with_reducible first | exact HK.out | apply KeepBut.set_ | apply keep_drewN | apply keep_drew | apply keep_alloc | refine keep_far ?_ GW141.out _ | refine keep_far ?_ GW142.out _) | exact HK.out)⟩

end Go.Proofs.YtgcmclnjnimolaaDoor.PCompileCompiles
