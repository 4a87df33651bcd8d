/- The walks of the functions of this part. The proof of arith_Later, ephemerislaw1_small (in part), ephemerislaw1_four (in part) is written by hand; the other ones are as the kit's print tells them. -/
-- The walks of the law's functions, told by a program.
import Derived.Test.YtlfammlboncmeaaY
import Derived.Test.YtlfammlboncmeaaPArithLatersx0
import Derived.Test.YtlfammlboncmeaaPArithLatersx1
import Derived.Test.YtlfammlboncmeaaPArithLatersx3
import Derived.Test.YtlfammlboncmeaaPArithLatersx4
namespace Go.Proofs.Ytlfammlboncmeaa.PArithLaters
open Go.RowKit Go.Proofs.YtlfammlboncmeaaW.PrintWords Go.Proofs.YtlfammlboncmeaaW.PrintLast Go.Proofs.YtlfammlboncmeaaW.PrintMore Go.Proofs.Ytlfammlboncmeaa.Y
attribute [local go_sem] max2_int min2_int max_two min_two max_three min_three max_four min_four   -- for this text's walks alone
set_option linter.unusedVariables false
set_option linter.unusedSimpArgs false

/-! ### arith_Later: function 19 -/
def IsD107 (w0 W : World) (g : Nat) (f0 : Int) (f1 : Int) (f2 : Int) : Prop := W.heap[g]? = some (.cells #[.int .i64 f0, .int .i64 f1, .int .i64 f2] 107 (0, 0)) ∧ w0.heap.size ≤ g
theorem IsD107.grown {w0 W : World} {g : Nat} {f0 : Int} {f1 : Int} {f2 : Int} {W1 : World} {row : Option Nat} (h : IsD107 w0 W g f0 f1 f2) (hw : W.grownBy W1 row) (hne : some g ≠ row) : IsD107 w0 W1 g f0 f1 f2 := by
 obtain ⟨hb, hg⟩ := h
 exact ⟨blk_grown hb hw hne, hg⟩
theorem IsD107.own_neN {w0 W : World} {g : Nat} {f0 : Int} {f1 : Int} {f2 : Int} {α : Type} {d : Kd α} {e : Nat} {base : Nat} {ok : Nat → Prop} {v : Value} {xs : List α} (h : IsD107 w0 W g f0 f1 f2) (ho : Kd.N d e W base ok v xs) (ht : e ≠ 107) : some g ≠ v.ownBlock := by
 obtain ⟨hb, hg⟩ := h
 exact Kd.N_ne ho hb ht
theorem IsD107.fresh {w0 W : World} {g : Nat} {f0 : Int} {f1 : Int} {f2 : Int} (h : IsD107 w0 W g f0 f1 f2) : ∀ k, W.heap.size ≤ k → k ≠ g := by
 obtain ⟨hb, hg⟩ := h
 exact Kd.freshB hb
theorem IsD107.kept {w0 W : World} {g : Nat} {f0 : Int} {f1 : Int} {f2 : Int} {W1 : World} {S : Nat → Prop} (h : IsD107 w0 W g f0 f1 f2) (hk : Kept W W1 S) (hne : ¬ S g) : IsD107 w0 W1 g f0 f1 f2 := by
 obtain ⟨hb, hg⟩ := h
 exact ⟨blk_kept hb hk hne, hg⟩
theorem IsD107.below {w0 W : World} {g : Nat} {f0 : Int} {f1 : Int} {f2 : Int} {W1 : World} (h : IsD107 w0 W g f0 f1 f2) (hw : Below W.heap.size W W1) : IsD107 w0 W1 g f0 f1 f2 := h.grown (grown_of_below hw none) (by simp)
theorem IsD107.alloc {w0 W : World} {g : Nat} {f0 : Int} {f1 : Int} {f2 : Int} (h : IsD107 w0 W g f0 f1 f2) (o : Obj) : IsD107 w0 (W.alloc o) g f0 f1 f2 := h.below (below_alloc (Below.refl _ _) o)
theorem IsD107.drewN {w0 W : World} {g : Nat} {f0 : Int} {f1 : Int} {f2 : Int} (h : IsD107 w0 W g f0 f1 f2) (m : Nat) : IsD107 w0 (W.drewN m) g f0 f1 f2 := h
theorem IsD107.drew {w0 W : World} {g : Nat} {f0 : Int} {f1 : Int} {f2 : Int} (h : IsD107 w0 W g f0 f1 f2) : IsD107 w0 W.drew g f0 f1 f2 := h
theorem IsD107.at_ {w0 W : World} {g : Nat} {f0 : Int} {f1 : Int} {f2 : Int} {w' : World} {m : Nat} (hq : W.drewN m = w') (h : IsD107 w0 W g f0 f1 f2) : IsD107 w0 w' g f0 f1 f2 := by subst hq; exact IsD107.drewN h m
theorem IsD107.apart {w0 W : World} {g : Nat} {f0 : Int} {f1 : Int} {f2 : Int} {α : Type} {d : Kd α} {e : Nat} {base : Nat} {ok : Nat → Prop} {v : Value} {xs : List α} (h : IsD107 w0 W g f0 f1 f2) (ho : d.R e W base ok v xs) (ht : ∀ q, q ∈ e :: d.E → q ≠ 107) : d.R e W base (fun k => ok k ∧ k ≠ g) v xs := by
 obtain ⟨hb, hg⟩ := h
 exact Kd.R_types ho hb ht
theorem IsD107.own_ne {w0 W : World} {g : Nat} {f0 : Int} {f1 : Int} {f2 : Int} {α : Type} {d : Kd α} {e : Nat} {base : Nat} {ok : Nat → Prop} {v : Value} {xs : List α} (h : IsD107 w0 W g f0 f1 f2) (ho : d.R e W base ok v xs) (ht : e ≠ 107) : some g ≠ v.ownBlock := by
 obtain ⟨hb, hg⟩ := h
 exact Kd.R_ne ho hb ht
theorem IsD107.apartQ {w0 W : World} {g : Nat} {f0 : Int} {f1 : Int} {f2 : Int} {α : Type} {d : Kd α} {e : Nat} {base : Nat} {ok : Nat → Prop} {v : Value} {xs : List α} (h : IsD107 w0 W g f0 f1 f2) (ho : d.Q e W base ok v xs) (ht : ∀ q, q ∈ e :: d.E → q ≠ 107) : d.Q e W base (fun k => ok k ∧ k ≠ g) v xs := by
 obtain ⟨hb, hg⟩ := h
 exact Kd.Q_types ho hb ht
theorem IsD107.own_neQ {w0 W : World} {g : Nat} {f0 : Int} {f1 : Int} {f2 : Int} {α : Type} {d : Kd α} {e : Nat} {base : Nat} {ok : Nat → Prop} {v : Value} {xs : List α} (h : IsD107 w0 W g f0 f1 f2) (ho : d.Q e W base ok v xs) (ht : e ≠ 107) : some g ≠ v.ownBlock := by
 obtain ⟨hb, hg⟩ := h
 exact Kd.Q_ne ho hb ht
theorem IsD107.apartS {w0 W : World} {g : Nat} {f0 : Int} {f1 : Int} {f2 : Int} {α : Type} {d : Kd α} {e : Nat} {base : Nat} {ok : Nat → Prop} {v : Value} {xs : List α} (h : IsD107 w0 W g f0 f1 f2) (ho : d.S e W base ok v xs) (ht : ∀ q, q ∈ e :: d.E → q ≠ 107) : d.S e W base (fun k => ok k ∧ k ≠ g) v xs := by
 obtain ⟨hb, hg⟩ := h
 exact Kd.S_types ho hb ht
theorem IsD107.own_neS {w0 W : World} {g : Nat} {f0 : Int} {f1 : Int} {f2 : Int} {α : Type} {d : Kd α} {e : Nat} {base : Nat} {ok : Nat → Prop} {v : Value} {xs : List α} (h : IsD107 w0 W g f0 f1 f2) (ho : d.S e W base ok v xs) (ht : e ≠ 107) : some g ≠ v.ownBlock := by
 obtain ⟨hb, hg⟩ := h
 exact Kd.S_ne ho hb ht
theorem IsD107.lt {w0 W : World} {g : Nat} {f0 : Int} {f1 : Int} {f2 : Int} (h : IsD107 w0 W g f0 f1 f2) : g < W.heap.size := by
 obtain ⟨hb, hg⟩ := h
 exact blk_lt hb
theorem IsD107.ge {w0 W : World} {g : Nat} {f0 : Int} {f1 : Int} {f2 : Int} (h : IsD107 w0 W g f0 f1 f2) : w0.heap.size ≤ g := by
 obtain ⟨hb, hg⟩ := h
 exact hg
theorem IsD107.ne_blk {w0 W : World} {g : Nat} {f0 : Int} {f1 : Int} {f2 : Int} {a : Nat} {cs : Array Value} {t : TypeId} {fr : Nat × Nat} (h : IsD107 w0 W g f0 f1 f2) (hb2 : W.heap[a]? = some (.cells cs t fr)) (ht : t ≠ 107) : g ≠ a := by
 obtain ⟨hb, hg⟩ := h
 rintro rfl
 rw [hb] at hb2
 injection hb2 with hb2
 injection hb2 with _ ht2
 exact ht ht2.symm
theorem IsD107.far {w0 W : World} {g : Nat} {f0 : Int} {f1 : Int} {f2 : Int} {p : Addr} (h : IsD107 w0 W g f0 f1 f2) (hne : g ≠ p.block) (u : Value) : IsD107 w0 (W.setCell p u) g f0 f1 f2 := by
 obtain ⟨hb, hg⟩ := h
 exact ⟨blk_far hb hne u, hg⟩
theorem cellD107_0 {W : World} {g : Nat} {f0 : Int} {f1 : Int} {f2 : Int} (h : W.heap[g]? = some (.cells #[.int .i64 f0, .int .i64 f1, .int .i64 f2] 107 (0, 0))) : W.cell? ⟨g, 0, none⟩ = some (.int .i64 f0) := (blk_cell h 0).trans rfl
theorem IsD107.set_0 {w0 W : World} {g : Nat} {f0 : Int} {f1 : Int} {f2 : Int} (h : IsD107 w0 W g f0 f1 f2) (x : Int) : IsD107 w0 (W.setCell ⟨g, 0, none⟩ (.int .i64 x)) g x f1 f2 := by
 obtain ⟨hb, hg⟩ := h
 exact ⟨by simpa using blk_set hb 0 (.int .i64 x), hg⟩
theorem cellD107_1 {W : World} {g : Nat} {f0 : Int} {f1 : Int} {f2 : Int} (h : W.heap[g]? = some (.cells #[.int .i64 f0, .int .i64 f1, .int .i64 f2] 107 (0, 0))) : W.cell? ⟨g, 1, none⟩ = some (.int .i64 f1) := (blk_cell h 1).trans rfl
theorem IsD107.set_1 {w0 W : World} {g : Nat} {f0 : Int} {f1 : Int} {f2 : Int} (h : IsD107 w0 W g f0 f1 f2) (x : Int) : IsD107 w0 (W.setCell ⟨g, 1, none⟩ (.int .i64 x)) g f0 x f2 := by
 obtain ⟨hb, hg⟩ := h
 exact ⟨by simpa using blk_set hb 1 (.int .i64 x), hg⟩
theorem cellD107_2 {W : World} {g : Nat} {f0 : Int} {f1 : Int} {f2 : Int} (h : W.heap[g]? = some (.cells #[.int .i64 f0, .int .i64 f1, .int .i64 f2] 107 (0, 0))) : W.cell? ⟨g, 2, none⟩ = some (.int .i64 f2) := (blk_cell h 2).trans rfl
theorem IsD107.set_2 {w0 W : World} {g : Nat} {f0 : Int} {f1 : Int} {f2 : Int} (h : IsD107 w0 W g f0 f1 f2) (x : Int) : IsD107 w0 (W.setCell ⟨g, 2, none⟩ (.int .i64 x)) g f0 f1 x := by
 obtain ⟨hb, hg⟩ := h
 exact ⟨by simpa using blk_set hb 2 (.int .i64 x), hg⟩
theorem IsD107.new (w0 W : World) (f0 : Int) (f1 : Int) (f2 : Int) (hB : Below w0.heap.size w0 W) : IsD107 w0 (W.alloc (.cells #[.int .i64 f0, .int .i64 f1, .int .i64 f2] 107)) W.heap.size f0 f1 f2 := ⟨by simpa using heap_alloc_new W _, hB.size⟩
/-- One step by a month. -/
def arith_Later.turn (n y m b : Int) : Int × Int :=
 if wrap64 (m + b) > n then (wrap64 (y + 1), 1) else (if wrap64 (m + b) < 1 then (wrap64 (y - 1), n) else (y, wrap64 (m + b)))
def arith_Later.bad (y : Int) : Bool := decide (y < -10000) || decide (y > 10000)
def arith_Later.cond (nm : ByteArray) (ep cy : Int) (ms : List S125) (ls : List Int) (y m : Int) : Option Bool :=
 if arith_Later.bad y = true then some false else (arith_month.f nm ep cy ms ls y m).bind fun q => some (decide (q = 0))
def arith_Later.fin (k : Nat) (nm : ByteArray) (ep cy : Int) (ms : List S125) (ls : List Int) (y m d : Int) : Option (Int × Int) :=
 if arith_Later.bad y = true then some (0, 3) else (arith_month.f nm ep cy ms ls y m).bind fun q => (arith_ToDay.f k nm ep cy ms ls y m (mn d q)).bind fun t => some (t.1, t.2)
mutual
def arith_Later.l1 : Nat → ByteArray → Int → Int → List S125 → List Int → Int → Int → Int → Int → Int → Option (Int × Int)
 | 0, _, _, _, _, _, _, _, _, _, _ => none
 | k + 1, nm, ep, cy, ms, ls, mon, n, y, m, d => if n = mon then arith_Later.fin k nm ep cy ms ls y m d else (if arith_Later.bad y = true then arith_Later.fin k nm ep cy ms ls y m d else
   arith_Later.l2 k nm ep cy ms ls mon n (if mon < 0 then -1 else 1) (arith_Later.turn ms.length y m (if mon < 0 then -1 else 1)).1 (arith_Later.turn ms.length y m (if mon < 0 then -1 else 1)).2 d)
def arith_Later.l2 : Nat → ByteArray → Int → Int → List S125 → List Int → Int → Int → Int → Int → Int → Int → Option (Int × Int)
 | 0, _, _, _, _, _, _, _, _, _, _, _ => none
 | k + 1, nm, ep, cy, ms, ls, mon, n, b, y, m, d => (arith_Later.cond nm ep cy ms ls y m).bind fun t => (if t = true then arith_Later.l2 k nm ep cy ms ls mon n b (arith_Later.turn ms.length y m b).1 (arith_Later.turn ms.length y m b).2 d else arith_Later.l1 k nm ep cy ms ls mon (wrap64 (n + b)) y m d)
end
def arith_Later.l0 : Nat → ByteArray → Int → Int → List S125 → List Int → Int → Int → Int → Int → Option (Int × Int)
 | 0, _, _, _, _, _, _, _, _, _ => none
 | k + 1, nm, ep, cy, ms, ls, mon, y, m, d => (arith_Later.cond nm ep cy ms ls y m).bind fun t => (if t = true then arith_Later.l0 k nm ep cy ms ls mon (arith_Later.turn ms.length y m 1).1 (arith_Later.turn ms.length y m 1).2 d else arith_Later.l1 k nm ep cy ms ls mon 0 y m d)
def arith_Later.f (k : Nat) (nm : ByteArray) (ep : Int) (cy : Int) (ms : List (S125)) (ls : List Int) (day : Int) (yrs : Int) (mon : Int) : Option (Int × Int) :=
 (arith_FromDay.f k nm ep cy ms ls day).bind fun t => (if t.2.2.2 = 0 then (if yrs < -10000 then some (0, 1) else (if yrs > 10000 then some (0, 1) else (if mon < -10000 then some (0, 1) else (if mon > 10000 then some (0, 1) else
  arith_Later.l0 k nm ep cy ms ls mon (wrap64 (t.1 + yrs)) t.2.1 t.2.2.1)))) else some (0, t.2.2.2))
theorem arith_Later.mono_f : ∀ a1 a2 a3 a4 a5 a6 a7 a8 k, LeO (arith_Later.fin k a1 a2 a3 a4 a5 a6 a7 a8) (arith_Later.fin (k + 1) a1 a2 a3 a4 a5 a6 a7 a8) := by
 intro a1 a2 a3 a4 a5 a6 a7 a8 k
 unfold arith_Later.fin
 repeat' first
   | (with_reducible exact arith_ToDay.mono _ _ _ _ _ _ _ _ _)
   | (with_reducible exact LeO.refl _)
   | (with_reducible refine LeO.ite ?_ ?_)
   | (with_reducible refine LeO.bind ?_ (fun _ => ?_))
   | exact arith_ToDay.mono _ _ _ _ _ _ _ _ _
theorem arith_Later.mono_l : ∀ k, (∀ a1 a2 a3 a4 a5 a6 a7 a8 a9 a10, LeO (arith_Later.l1 k a1 a2 a3 a4 a5 a6 a7 a8 a9 a10) (arith_Later.l1 (k + 1) a1 a2 a3 a4 a5 a6 a7 a8 a9 a10)) ∧ (∀ a1 a2 a3 a4 a5 a6 a7 a8 a9 a10 a11, LeO (arith_Later.l2 k a1 a2 a3 a4 a5 a6 a7 a8 a9 a10 a11) (arith_Later.l2 (k + 1) a1 a2 a3 a4 a5 a6 a7 a8 a9 a10 a11))
 | 0 => ⟨fun _ _ _ _ _ _ _ _ _ _ r h => by simp [arith_Later.l1] at h, fun _ _ _ _ _ _ _ _ _ _ _ r h => by simp [arith_Later.l2] at h⟩
 | k + 1 => by
  obtain ⟨i1, i2⟩ := arith_Later.mono_l k
  constructor
  ·intro a1 a2 a3 a4 a5 a6 a7 a8 a9 a10
   unfold arith_Later.l1
   exact LeO.ite (arith_Later.mono_f _ _ _ _ _ _ _ _ _) (LeO.ite (arith_Later.mono_f _ _ _ _ _ _ _ _ _) (i2 _ _ _ _ _ _ _ _ _ _ _))
  ·intro a1 a2 a3 a4 a5 a6 a7 a8 a9 a10 a11
   unfold arith_Later.l2
   exact LeO.bind (LeO.refl _) (fun _ => LeO.ite (i2 _ _ _ _ _ _ _ _ _ _ _) (i1 _ _ _ _ _ _ _ _ _ _))
theorem arith_Later.mono_0 : ∀ k, ∀ a1 a2 a3 a4 a5 a6 a7 a8 a9, LeO (arith_Later.l0 k a1 a2 a3 a4 a5 a6 a7 a8 a9) (arith_Later.l0 (k + 1) a1 a2 a3 a4 a5 a6 a7 a8 a9)
 | 0 => fun _ _ _ _ _ _ _ _ _ r h => by simp [arith_Later.l0] at h
 | k + 1 => fun a1 a2 a3 a4 a5 a6 a7 a8 a9 => by
  have i0 := arith_Later.mono_0 k
  unfold arith_Later.l0
  exact LeO.bind (LeO.refl _) (fun _ => LeO.ite (i0 _ _ _ _ _ _ _ _ _) ((arith_Later.mono_l k).1 _ _ _ _ _ _ _ _ _ _))
theorem arith_Later.mono : ∀ a0 a1 a2 a3 a4 a5 a6 a7 k, LeO (arith_Later.f k a0 a1 a2 a3 a4 a5 a6 a7) (arith_Later.f (k + 1) a0 a1 a2 a3 a4 a5 a6 a7) := by
 intro a0 a1 a2 a3 a4 a5 a6 a7 k
 unfold arith_Later.f
 exact LeO.bind (arith_FromDay.mono _ _ _ _ _ _ _) (fun _ => LeO.ite (LeO.ite (LeO.refl _) (LeO.ite (LeO.refl _) (LeO.ite (LeO.refl _) (LeO.ite (LeO.refl _) (arith_Later.mono_0 _ _ _ _ _ _ _ _ _ _))))) (LeO.refl _))
theorem arith_Later.cells {w0 w : World} {g : Nat} {y m d : Int} (h : IsD107 w0 w g y m d) : (w.cell? ⟨g, 0, none⟩ = some (.int .i64 y) ∧ w.cell? ⟨g, 1, none⟩ = some (.int .i64 m) ∧ w.cell? ⟨g, 2, none⟩ = some (.int .i64 d)) ∧ w.frozen? ⟨g, 0, none⟩ = false ∧ w.frozen? ⟨g, 1, none⟩ = false ∧ w.frozen? ⟨g, 2, none⟩ = false :=
 ⟨⟨(blk_cell h.1 0).trans rfl, (blk_cell h.1 1).trans rfl, (blk_cell h.1 2).trans rfl⟩, blk_frozen h.1 0, blk_frozen h.1 1, blk_frozen h.1 2⟩
theorem arith_Later.cal {w : World} {g : Nat} {s : ByteArray} {a b : Int} {u v : Value} (h : w.heap[g]? = some (.cells #[.string s, .int .i64 a, .int .i64 b, u, v] 44 (0, 0))) : (w.cell? ⟨g, 0, none⟩ = some (.string s) ∧ w.cell? ⟨g, 1, none⟩ = some (.int .i64 a) ∧ w.cell? ⟨g, 2, none⟩ = some (.int .i64 b) ∧ w.cell? ⟨g, 3, none⟩ = some u ∧ w.cell? ⟨g, 4, none⟩ = some v) ∧ w.frozen? ⟨g, 0, none⟩ = false ∧ w.frozen? ⟨g, 1, none⟩ = false ∧ w.frozen? ⟨g, 2, none⟩ = false ∧ w.frozen? ⟨g, 3, none⟩ = false ∧ w.frozen? ⟨g, 4, none⟩ = false :=
 ⟨⟨(blk_cell h 0).trans rfl, (blk_cell h 1).trans rfl, (blk_cell h 2).trans rfl, (blk_cell h 3).trans rfl, (blk_cell h 4).trans rfl⟩, blk_frozen h 0, blk_frozen h 1, blk_frozen h 2, blk_frozen h 3, blk_frozen h 4⟩
set_option maxHeartbeats 4000000 in
set_option maxRecDepth 100000 in
theorem arith_Later.turns (b y m d : Int) (s : ByteArray) (ep cy : Int) (A3 : Option Addr) (n3 c3 : Nat) (u : Value) (gd gc : Nat) (w0 w : World) (hI : IsD107 w0 w gd y m d) (hB : Below w0.heap.size w0 w)
  (hc : w.heap[gc]? = some (.cells #[.string s, .int .i64 ep, .int .i64 cy, .slice A3 n3 c3, u] 44 (0, 0))) :
  Calls Try.prog 62 #[.int .i64 b, .pointer (some ⟨gd, 0, none⟩), .pointer (some ⟨gc, 0, none⟩)] w fun e w' => e = .returned (.tuple #[]) ∧ IsD107 w0 w' gd (arith_Later.turn n3 y m b).1 (arith_Later.turn n3 y m b).2 d ∧ Below w0.heap.size w0 w' ∧ KeepBut w w' gd none := by
 have HI := Aside0.mk hI
 have HB := Aside0.mk hB
 have hne : gd ≠ gc := hI.ne_blk hc (by decide)
 have hne' : gc ≠ gd := hne.symm
 obtain ⟨⟨h0, h1, h2⟩, f0, f1, f2⟩ := arith_Later.cells hI
 obtain ⟨⟨k0, k1, k2, k3, k4⟩, q0, q1, q2, q3, q4⟩ := arith_Later.cal hc
 have GE := hI.ge
 clear hI hB hc
 obtain ⟨m', hm'⟩ : ∃ m', m' = wrap64 (m + b) := ⟨_, rfl⟩
 have HM := Aside0.mk hm'
 have hw : IntKind.i64.wrap (m + b) = m' := by rw [hm']; exact i64_w _
 clear hm'
 have ht : arith_Later.turn n3 y m b = if m' > n3 then (wrap64 (y + 1), 1) else (if m' < 1 then (wrap64 (y - 1), (n3 : Int)) else (y, m')) := by unfold arith_Later.turn; rw [← HM.out]
 have HT := Aside0.mk ht
 clear ht
 by_cases c1 : m' > n3
 ·have d1 : decide ((n3 : Int) < m') = true := decide_eq_true c1
  go_enter Try.func62, Try.ntmps62
  go_wp2
  go_end0
  exact ⟨rfl, by rw [HT.out, if_pos (by omega)]; exact ((HI.out.set_1 _).set_1 _).set_0 _, ((HB.out.setCell GE _).setCell GE _).setCell GE _, (((KeepBut.refl _ _ _).set_ 1 _).set_ 1 _).set_ 0 _⟩
 ·by_cases c2 : m' < 1
  ·have d1 : decide ((n3 : Int) < m') = false := decide_eq_false c1
   have d2 : decide (m' < 1) = true := decide_eq_true c2
   go_enter Try.func62, Try.ntmps62
   go_wp2
   go_end0
   exact ⟨rfl, by rw [HT.out, if_neg (by omega), if_pos (by omega)]; exact ((HI.out.set_1 _).set_1 _).set_0 _, ((HB.out.setCell GE _).setCell GE _).setCell GE _, (((KeepBut.refl _ _ _).set_ 1 _).set_ 1 _).set_ 0 _⟩
  ·have d1 : decide ((n3 : Int) < m') = false := decide_eq_false c1
   have d2 : decide (m' < 1) = false := decide_eq_false c2
   go_enter Try.func62, Try.ntmps62
   go_wp2
   go_end0
   exact ⟨rfl, by rw [HT.out, if_neg (by omega), if_neg (by omega)]; exact HI.out.set_1 _, HB.out.setCell GE _, (KeepBut.refl _ _ _).set_ 1 _⟩
set_option maxHeartbeats 4000000 in
set_option maxRecDepth 100000 in
theorem arith_Later.bads (y m d : Int) (gd : Nat) (w0 w : World) (b : Bool) (hb : arith_Later.bad y = b) (hI : IsD107 w0 w gd y m d) : Calls Try.prog 63 #[.pointer (some ⟨gd, 0, none⟩)] w fun e w' => e = .returned (.bool b) ∧ w' = w := by
 obtain ⟨⟨h0, h1, h2⟩, f0, f1, f2⟩ := arith_Later.cells hI
 clear hI
 subst hb
 unfold arith_Later.bad
 by_cases c1 : y < -10000
 ·have d1 : decide (y < -10000) = true := decide_eq_true c1
  go_enter Try.func63, Try.ntmps63
  go_wp2
  go_ret
  exact ⟨by simp [d1], rfl⟩
 ·have d1 : decide (y < -10000) = false := decide_eq_false c1
  by_cases c2 : y > 10000
  ·have d2 : decide (10000 < y) = true := decide_eq_true c2
   go_enter Try.func63, Try.ntmps63
   go_wp2
   go_ret
   exact ⟨by simp [d1, d2], rfl⟩
  ·have d2 : decide (10000 < y) = false := decide_eq_false c2
   go_enter Try.func63, Try.ntmps63
   go_wp2
   go_ret
   exact ⟨by simp [d1, d2], rfl⟩
def arith_Later.T22 : Bool × List (List Nat × List Nat) := (true, [([], []), ([0], [0]), ([], []), ([], []), ([3], [3]), ([], []), ([5], [5]), ([2, 4, 6], [2, 4, 6]), ([1, 7], [1, 7]), ([0, 1, 2, 3, 4, 5, 6, 7, 8], []), ([9, 8, 7, 0, 1, 2, 3, 4, 5, 6, 7, 8], [8, 9])])
def arith_Later.B22 : List Nat := [0, 1, 0, 0, 8, 0, 32, 124, 255, 511, 1023]
theorem arith_Later.tab22 : rtab .any (opsOf Try.f19 22) = arith_Later.T22 := by kernel_rfl
theorem arith_Later.bits22 : waitsOk arith_Later.T22.2 arith_Later.B22 = true := by kernel_rfl
set_option maxHeartbeats 16000000 in
set_option maxRecDepth 100000 in
theorem arith_Later.calls (k : Nat) (a0_0 : ByteArray) (a0_1 : Int) (a0_2 : Int) (A0_3 : Option Addr) (c0_3 : Nat) (l0_3 : List (S125)) (A0_4 : Option Addr) (c0_4 : Nat) (l0_4 : List Int) (a1 : Int) (a2 : Int) (a3 : Int) (r1 : Int) (r2 : Int) (w : World) (hr0_3 : Kd.C k125 w A0_3 l0_3.length l0_3) (hc0_3 : l0_3.length ≤ c0_3) (hr0_4 : Kd.C (Kd.int .i64) w A0_4 l0_4.length l0_4) (hc0_4 : l0_4.length ≤ c0_4) (h : arith_Later.f k a0_0 a0_1 a0_2 l0_3 l0_4 a1 a2 a3 = some (r1, r2)) :
  Calls Try.prog 19 #[.agg #[.string a0_0, .int .i64 a0_1, .int .i64 a0_2, .slice A0_3 l0_3.length c0_3, .slice A0_4 l0_4.length c0_4], .int .i64 a1, .int .i64 a2, .int .i64 a3] w fun e w' => e = .returned (.tuple #[.int .i64 r1, .int .i64 r2]) ∧ Below w.heap.size w w' := by
 have hu44 := Try.underlying44
 have hu107 := Try.underlying107
 have HR0_3 := Aside0.mk hr0_3
 have HC0_3 := Aside0.mk hc0_3
 clear hr0_3 hc0_3
 have HR0_4 := Aside0.mk hr0_4
 have HC0_4 := Aside0.mk hc0_4
 clear hr0_4 hc0_4
 have HB := Aside0.mk (Below.refl w.heap.size w)
 have hmf : ∀ (fn : Fn) (first cap : Array Value) (w : World), (Instr.makeFunc fn first cap).run Try.prog w = .ok (.func fn first cap) w := fun _ _ _ _ => rfl
 unfold arith_Later.f at h
 obtain ⟨⟨t159, t160, t161, t162⟩, A50, H⟩ := Option.bind_eq_some_iff.mp h
 have A5 := Aside0.mk A50
 clear A50 h
 have H' := Aside0.mk H
 clear H
 go_enter Try.func19, Try.ntmps19
 go_upto_region 2 with (first | ((with_reducible refine gate_dst (N := 4) rfl ?_); refine box_event ?hg (N := 4) ?hd (cs := #[.string a0_0, .int .i64 a0_1, .int .i64 a0_2, .slice A0_3 l0_3.length c0_3, .slice A0_4 l0_4.length c0_4]) (t := 44) ?hr ?_; (case hd => rfl); (case hg => rfl); (case hr => first | (go_simp; done) | (go_simp; rfl)); intro gb158 hg w9 hbox hb; have n0_ := Aside0.mk (below_step be hb); have n1_ := Aside0.mk (hbox); have n2_ := gs hg HB; have n3_ := n2_; clear HB; have HB := n0_; have BK158 := n1_; have GW158 := n2_; have GE158 := n3_; clear n0_ n1_ n2_ n3_; clear hb hbox hg; obtain ⟨hcz10_0, hcz10_1, hcz10_2, hcz10_3, hcz10_4, hfz10_0, hfz10_1, hfz10_2, hfz10_3, hfz10_4⟩ := bc5 BK158) | ((with_reducible refine gate_callee (f := 61) rfl ?_); refine goesL_ (some 19) rfl rfl Try.func61 kx rfl #[.agg #[.string a0_0, .int .i64 a0_1, .int .i64 a0_2, .slice A0_3 l0_3.length c0_3, .slice A0_4 l0_4.length c0_4], .int .i64 a1] rfl aa ?_; (with_reducible refine (arith_FromDay.calls k a0_0 a0_1 a0_2 _ _ l0_3 _ _ l0_4 a1 t159 t160 t161 t162 _ ?side1 ?side2 ?side3 ?side4 A5.out).mono ?_); (case side1 => exact kc (Kd.C_below HR0_3.out HB.out)); (case side2 => exact HC0_3.out); (case side3 => exact kc (Kd.C_below HR0_4.out HB.out)); (case side4 => exact HC0_4.out); rintro e w11 ⟨rfl, hb⟩; refine ⟨_, rfl, ?_⟩; have n0_ := bb BK158 hb; have n1_ := Aside0.mk (below_step be hb); clear BK158; clear HB; have BK158 := n0_; have HB := n1_; clear n0_ n1_; (try clear hb); (try clear hb2); (try clear hk); (try clear hi)) | ((with_reducible refine gate_dst (N := 10) rfl ?_); refine box_event ?hg (N := 10) ?hd (cs := #[.int .i64 0, .int .i64 0, .int .i64 0]) (t := 107) ?hr ?_; (case hd => rfl); (case hg => rfl); (case hr => first | (go_simp; done) | (go_simp; rfl)); intro gb163 hg w12 hbox hb; have n0_ := bb BK158 hb; have n1_ := Aside0.mk (below_step be hb); have n2_ := Aside0.mk (hbox); have n3_ := gs hg HB; have n4_ := n3_; have n5_ := nl BK158 hg; have n6_ := ns n5_; clear BK158; clear HB; have BK158 := n0_; have HB := n1_; have BK163 := n2_; have GW163 := n3_; have GE163 := n4_; have NB158_163 := n5_; have NB163_158 := n6_; clear n0_ n1_ n2_ n3_ n4_ n5_ n6_; clear hb hbox hg; have hnb13 := NB163_158.out; have hnc13 := NB158_163.out; obtain ⟨hcz14_0, hcz14_1, hcz14_2, hfz14_0, hfz14_1, hfz14_2⟩ := bc3 BK163))
 have n0_ : Aside0 ((((w12.setCell ⟨gb163, 0, none⟩ (.int .i64 t159)).setCell ⟨gb163, 1, none⟩ (.int .i64 t160)).setCell ⟨gb163, 2, none⟩ (.int .i64 t161)).heap[gb158]? = some (.cells #[.string a0_0, .int .i64 a0_1, .int .i64 a0_2, .slice A0_3 l0_3.length c0_3, .slice A0_4 l0_4.length c0_4] 44 (0, 0))) := ⟨bk BK158⟩
 have n1_ : Aside0 ((((w12.setCell ⟨gb163, 0, none⟩ (.int .i64 t159)).setCell ⟨gb163, 1, none⟩ (.int .i64 t160)).setCell ⟨gb163, 2, none⟩ (.int .i64 t161)).heap[gb163]? = some (.cells #[.int .i64 t159, .int .i64 t160, .int .i64 t161] 107 (0, 0))) := ⟨bk BK163⟩
 have n2_ : Aside0 (Below w.heap.size w (((w12.setCell ⟨gb163, 0, none⟩ (.int .i64 t159)).setCell ⟨gb163, 1, none⟩ (.int .i64 t160)).setCell ⟨gb163, 2, none⟩ (.int .i64 t161))) := ⟨be⟩
 (try clear BK158)
 (try clear BK163)
 (try clear HB)
 generalize (((w12.setCell ⟨gb163, 0, none⟩ (.int .i64 t159)).setCell ⟨gb163, 1, none⟩ (.int .i64 t160)).setCell ⟨gb163, 2, none⟩ (.int .i64 t161)) = w15 at n0_ n1_ n2_ ⊢
 have BK158 := n0_
 have BK163 := n1_
 have HB := n2_
 clear n0_ n1_ n2_
 have HI := Aside0.mk (show IsD107 w w15 gb163 t159 t160 t161 from ⟨BK163.out, GE163.out⟩)
 clear BK163
 obtain ⟨⟨h0, h1, h2⟩, f0, f1, f2⟩ := arith_Later.cells HI.out
 obtain ⟨⟨k0, k1, k2, k3, k4⟩, q0, q1, q2, q3, q4⟩ := arith_Later.cal BK158.out
 have H := H'.out
 simp only at H
 by_cases cE : t162 = 0
 rotate_left
 ·rw [if_neg cE] at H
  simp only [Option.some.injEq, Prod.mk.injEq] at H
  obtain ⟨rfl, rfl⟩ := H
  have e1 : (t162 != 0) = true := bne_iff_ne.mpr cE
  have e2 : decide (t162 = 0) = false := decide_eq_false cE
  clear H'
  go_wp2
  go_ret2
  exact ⟨rfl, HB.out⟩
 rw [if_pos cE] at H
 subst cE
 by_cases cA : a2 < -10000
 ·rw [if_pos cA] at H
  simp only [Option.some.injEq, Prod.mk.injEq] at H
  obtain ⟨rfl, rfl⟩ := H
  have e2 : decide (a2 < -10000) = true := decide_eq_true cA
  clear H'
  go_wp2
  go_ret2
  exact ⟨rfl, HB.out⟩
 rw [if_neg cA] at H
 by_cases cB : a2 > 10000
 ·rw [if_pos cB] at H
  simp only [Option.some.injEq, Prod.mk.injEq] at H
  obtain ⟨rfl, rfl⟩ := H
  have e1 : decide (a2 < -10000) = false := decide_eq_false cA
  have e2 : decide (10000 < a2) = true := decide_eq_true cB
  clear H'
  go_wp2
  go_ret2
  exact ⟨rfl, HB.out⟩
 rw [if_neg cB] at H
 by_cases cC : a3 < -10000
 ·rw [if_pos cC] at H
  simp only [Option.some.injEq, Prod.mk.injEq] at H
  obtain ⟨rfl, rfl⟩ := H
  have e1 : decide (a2 < -10000) = false := decide_eq_false cA
  have e2 : decide (10000 < a2) = false := decide_eq_false cB
  have e3 : decide (a3 < -10000) = true := decide_eq_true cC
  clear H'
  go_wp2
  go_ret2
  exact ⟨rfl, HB.out⟩
 rw [if_neg cC] at H
 by_cases cD : a3 > 10000
 ·rw [if_pos cD] at H
  simp only [Option.some.injEq, Prod.mk.injEq] at H
  obtain ⟨rfl, rfl⟩ := H
  have e1 : decide (a2 < -10000) = false := decide_eq_false cA
  have e2 : decide (10000 < a2) = false := decide_eq_false cB
  have e3 : decide (a3 < -10000) = false := decide_eq_false cC
  have e4 : decide (10000 < a3) = true := decide_eq_true cD
  clear H'
  go_wp2
  go_ret2
  exact ⟨rfl, HB.out⟩
 rw [if_neg cD] at H
 have e1 : decide (a2 < -10000) = false := decide_eq_false cA
 have e2 : decide (10000 < a2) = false := decide_eq_false cB
 have e3 : decide (a3 < -10000) = false := decide_eq_false cC
 have e4 : decide (10000 < a3) = false := decide_eq_false cD
 clear H' cA cB cC cD
 have H0 := Aside0.mk H
 clear H
 go_wp2
 go_loopg [] k (fun kq w' => ∃ (y_ m_ : Int), Aside0 (arith_Later.l0 kq a0_0 a0_1 a0_2 l0_3 l0_4 a3 y_ m_ t161 = some (r1, r2)) ∧ Aside0 (kq ≤ k) ∧ Aside0 (IsD107 w w' gb163 y_ m_ t161) ∧ Aside0 (w'.heap[gb158]? = some (.cells #[.string a0_0, .int .i64 a0_1, .int .i64 a0_2, .slice A0_3 l0_3.length c0_3, .slice A0_4 l0_4.length c0_4] 44 (0, 0))) ∧ Aside0 (Below w.heap.size w w'))
 case atStart => exact ⟨_, _, H0, ⟨Nat.le_refl _⟩, ⟨HI.out.set_0 _⟩, ⟨blk_far BK158.out NB158_163.out _⟩, ⟨HB.out.setCell GE163.out _⟩⟩
 case round =>
  clear h0 h1 h2 f0 f1 f2 k0 k1 k2 k3 k4 q0 q1 q2 q3 q4 H0 HI BK158 HB e1 e2 e3 e4
  obtain ⟨y_, m_, HA, HK1, HI, BK158, HB⟩ := hrel
  cases gk with
  | zero => exact absurd HA.out (by simp [arith_Later.l0])
  | succ k1 =>
   have H := HA.out
   clear HA
   simp only [arith_Later.l0] at H
   obtain ⟨b_, hb0_, H⟩ := Option.bind_eq_some_iff.mp H
   have HC_ := Aside0.mk hb0_
   have H' := Aside0.mk H
   clear hb0_ H
   go_upto_region 9 with (fail)
   go_cut [57] (fun v57 wc => v57 = .bool b_ ∧ Aside0 (IsD107 w wc gb163 y_ m_ t161) ∧ Aside0 (wc.heap[gb158]? = some (.cells #[.string a0_0, .int .i64 a0_1, .int .i64 a0_2, .slice A0_3 l0_3.length c0_3, .slice A0_4 l0_4.length c0_4] 44 (0, 0))) ∧ Aside0 (Below w.heap.size w wc))
   case first =>
    have hcd_ := HC_.out
    by_cases hbad : arith_Later.bad y_ = true
    ·have hb_ : b_ = false := by unfold arith_Later.cond at hcd_; rw [if_pos hbad] at hcd_; exact (Option.some.inj hcd_).symm
     subst hb_
     clear hcd_ HC_
     obtain ⟨⟨h0, h1, h2⟩, f0, f1, f2⟩ := arith_Later.cells HI.out
     obtain ⟨⟨k0, k1_, k2, k3, k4⟩, q0, q1, q2, q3, q4⟩ := arith_Later.cal BK158.out
     go_wp2_with (go_at_call 63; refine (arith_Later.bads y_ m_ t161 gb163 w _ true hbad HI.out).mono ?_; rintro e w' ⟨rfl, rfl⟩)
     go_meet
     case rel => exact ⟨rfl, HI, BK158, HB⟩
    ·have hbad2 : arith_Later.bad y_ = false := Bool.eq_false_iff.2 hbad
     unfold arith_Later.cond at hcd_
     rw [if_neg hbad] at hcd_
     obtain ⟨q_, hq0_, hqb_⟩ := Option.bind_eq_some_iff.mp hcd_
     have HQ_ := Aside0.mk hq0_
     have HQB_ := Aside0.mk (Option.some.inj hqb_)
     clear hcd_ HC_ hq0_ hqb_ hbad
     obtain ⟨⟨h0, h1, h2⟩, f0, f1, f2⟩ := arith_Later.cells HI.out
     obtain ⟨⟨k0, k1_, k2, k3, k4⟩, q0, q1, q2, q3, q4⟩ := arith_Later.cal BK158.out
     have HB2_ := Aside0.mk hbad2
     clear hbad2
     by_cases hqz : q_ = 0
     ·have hb_ : b_ = true := by rw [← HQB_.out]; exact decide_eq_true hqz
      subst hb_
      have e5 : decide (q_ = 0) = true := decide_eq_true hqz
      have e6 : (q_ == 0) = true := beq_iff_eq.mpr hqz
      clear hqz
      go_wp2_with (first | (go_at_call 63; refine (arith_Later.bads y_ m_ t161 gb163 w _ false HB2_.out HI.out).mono ?_; rintro e w' ⟨rfl, rfl⟩) | (go_at_call 64; refine (arith_month.calls a0_0 a0_1 a0_2 _ _ l0_3 _ _ l0_4 y_ m_ q_ _ (Kd.C_below HR0_3.out HB.out) HC0_3.out (Kd.C_below HR0_4.out HB.out) HC0_4.out HQ_.out).mono ?_; rintro e w2_ ⟨rfl, hb2_⟩))
      go_meet
      case rel => exact ⟨by first | rfl | (simp; done) | (simp [*]; done), ⟨HI.out.below (by assumption)⟩, ⟨blk_below BK158.out (by assumption)⟩, ⟨below_step HB.out (by assumption)⟩⟩
     ·have hb_ : b_ = false := by rw [← HQB_.out]; exact decide_eq_false hqz
      subst hb_
      have e5 : decide (q_ = 0) = false := decide_eq_false hqz
      have e6 : (q_ == 0) = false := beq_eq_false_iff_ne.mpr hqz
      clear hqz
      go_wp2_with (first | (go_at_call 63; refine (arith_Later.bads y_ m_ t161 gb163 w _ false HB2_.out HI.out).mono ?_; rintro e w' ⟨rfl, rfl⟩) | (go_at_call 64; refine (arith_month.calls a0_0 a0_1 a0_2 _ _ l0_3 _ _ l0_4 y_ m_ q_ _ (Kd.C_below HR0_3.out HB.out) HC0_3.out (Kd.C_below HR0_4.out HB.out) HC0_4.out HQ_.out).mono ?_; rintro e w2_ ⟨rfl, hb2_⟩))
      go_meet
      case rel => exact ⟨by first | rfl | (simp; done) | (simp [*]; done), ⟨HI.out.below (by assumption)⟩, ⟨blk_below BK158.out (by assumption)⟩, ⟨below_step HB.out (by assumption)⟩⟩
   case rest =>
    clear HI BK158 HB
    obtain ⟨rfl, HI, BK158, HB⟩ := hcut
    cases b_ with
    | true =>
     obtain ⟨⟨h0, h1, h2⟩, f0, f1, f2⟩ := arith_Later.cells HI.out
     obtain ⟨⟨k0, k1_, k2, k3, k4⟩, q0, q1, q2, q3, q4⟩ := arith_Later.cal BK158.out
     go_wp2_with (go_at_call 62; refine (arith_Later.turns 1 y_ m_ t161 a0_0 a0_1 a0_2 A0_3 l0_3.length c0_3 _ gb163 gb158 w _ HI.out HB.out BK158.out).mono ?_; rintro e w3_ ⟨rfl, hI3_, hB3_, hK3_⟩)
     go_roundg k1
     case measure => have := HK1.out; omega
     case rel => exact ⟨_, _, ⟨H'.out⟩, ⟨by have := HK1.out; omega⟩, ⟨by assumption⟩, ⟨KeepBut.blk (by assumption) BK158.out NB158_163.out (by simp)⟩, ⟨by assumption⟩⟩
    | false =>
     obtain ⟨⟨h0, h1, h2⟩, f0, f1, f2⟩ := arith_Later.cells HI.out
     obtain ⟨⟨k0, k1_, k2, k3, k4⟩, q0, q1, q2, q3, q4⟩ := arith_Later.cal BK158.out
     have H1 := Aside0.mk (show arith_Later.l1 k1 a0_0 a0_1 a0_2 l0_3 l0_4 a3 0 y_ m_ t161 = some (r1, r2) from by simpa using H'.out)
     clear H' HC_
     go_wp2
     go_loopg [14] k1 (fun kq v14 w' => ∃ (n_ y_ m_ : Int), v14 = .int .i64 n_ ∧ Aside0 (arith_Later.l1 kq a0_0 a0_1 a0_2 l0_3 l0_4 a3 n_ y_ m_ t161 = some (r1, r2)) ∧ Aside0 (kq ≤ k1) ∧ Aside0 (IsD107 w w' gb163 y_ m_ t161) ∧ Aside0 (w'.heap[gb158]? = some (.cells #[.string a0_0, .int .i64 a0_1, .int .i64 a0_2, .slice A0_3 l0_3.length c0_3, .slice A0_4 l0_4.length c0_4] 44 (0, 0))) ∧ Aside0 (Below w.heap.size w w'))
     case atStart => exact ⟨0, _, _, rfl, H1, ⟨Nat.le_refl _⟩, HI, BK158, HB⟩
     case round =>
      clear h0 h1 h2 f0 f1 f2 k0 k1_ k2 k3 k4 q0 q1 q2 q3 q4 H1 HI BK158 HB
      obtain ⟨n_, y_, m_, rfl, HA, HK2, HI, BK158, HB⟩ := hrel
      cases gk with
      | zero => exact absurd HA.out (by simp [arith_Later.l1])
      | succ k2 =>
       have H := HA.out
       clear HA
       simp only [arith_Later.l1] at H
       have H' := Aside0.mk H
       clear H
       go_upto_region 12 with (fail)
       go_cut [67] (fun v67 wc => ∃ (b2_ : Bool), v67 = .bool b2_ ∧ Aside0 (b2_ = decide (¬ (n_ = a3) ∧ arith_Later.bad y_ = false)) ∧ Aside0 (IsD107 w wc gb163 y_ m_ t161) ∧ Aside0 (wc.heap[gb158]? = some (.cells #[.string a0_0, .int .i64 a0_1, .int .i64 a0_2, .slice A0_3 l0_3.length c0_3, .slice A0_4 l0_4.length c0_4] 44 (0, 0))) ∧ Aside0 (Below w.heap.size w wc))
       case first =>
        obtain ⟨⟨h0, h1, h2⟩, f0, f1, f2⟩ := arith_Later.cells HI.out
        by_cases hn : n_ = a3
        ·have e5 : decide (n_ = a3) = true := decide_eq_true hn
         have e6 : (n_ != a3) = false := bne_eq_false_iff_eq.mpr hn
         have HN_ := Aside0.mk (show false = decide (¬ (n_ = a3) ∧ arith_Later.bad y_ = false) from (decide_eq_false (fun h => h.1 hn)).symm)
         clear hn
         go_wp2
         go_meet
         case rel => exact ⟨false, by first | rfl | (simp; done) | (simp [*]; done), HN_, HI, BK158, HB⟩
        ·have e5 : decide (n_ = a3) = false := decide_eq_false hn
         have e6 : (n_ != a3) = true := bne_iff_ne.mpr hn
         obtain ⟨b3_, hb3_⟩ : ∃ b, arith_Later.bad y_ = b := ⟨_, rfl⟩
         have HN_ := Aside0.mk (show (!b3_) = decide (¬ (n_ = a3) ∧ arith_Later.bad y_ = false) from by rw [hb3_]; cases b3_ <;> simp [hn])
         have HB3_ := Aside0.mk hb3_
         clear hn hb3_
         cases b3_ with
         | true =>
          go_wp2_with (go_at_call 63; refine (arith_Later.bads y_ m_ t161 gb163 w _ true HB3_.out HI.out).mono ?_; rintro e w' ⟨rfl, rfl⟩)
          go_meet
          case rel => exact ⟨_, by first | rfl | (simp; done) | (simp [*]; done), HN_, HI, BK158, HB⟩
         | false =>
          go_wp2_with (go_at_call 63; refine (arith_Later.bads y_ m_ t161 gb163 w _ false HB3_.out HI.out).mono ?_; rintro e w' ⟨rfl, rfl⟩)
          go_meet
          case rel => exact ⟨_, by first | rfl | (simp; done) | (simp [*]; done), HN_, HI, BK158, HB⟩
       case rest =>
        clear HI BK158 HB
        obtain ⟨b2_, rfl, HN_, HI, BK158, HB⟩ := hcut
        cases b2_ with
        | true =>
         have hN_ := of_decide_eq_true HN_.out.symm
         have H2 := Aside0.mk (show arith_Later.l2 k2 a0_0 a0_1 a0_2 l0_3 l0_4 a3 n_ (if a3 < 0 then -1 else 1) (arith_Later.turn l0_3.length y_ m_ (if a3 < 0 then -1 else 1)).1 (arith_Later.turn l0_3.length y_ m_ (if a3 < 0 then -1 else 1)).2 t161 = some (r1, r2) from by
          have h_ := H'.out
          rw [if_neg hN_.1, if_neg (by rw [hN_.2]; decide)] at h_
          exact h_)
         clear H' HN_ hN_
         obtain ⟨b4_, hb4_⟩ : ∃ b, (if a3 < 0 then (-1 : Int) else 1) = b := ⟨_, rfl⟩
         have HB4_ := Aside0.mk hb4_
         have H3 := Aside0.mk (show arith_Later.l2 k2 a0_0 a0_1 a0_2 l0_3 l0_4 a3 n_ b4_ (arith_Later.turn l0_3.length y_ m_ b4_).1 (arith_Later.turn l0_3.length y_ m_ b4_).2 t161 = some (r1, r2) from by rw [← hb4_]; exact H2.out)
         clear H2 hb4_
         go_upto_if 69 with (fail)
         go_cut [15] (fun v15 wc => v15 = .int .i64 b4_ ∧ Aside0 (IsD107 w wc gb163 y_ m_ t161) ∧ Aside0 (wc.heap[gb158]? = some (.cells #[.string a0_0, .int .i64 a0_1, .int .i64 a0_2, .slice A0_3 l0_3.length c0_3, .slice A0_4 l0_4.length c0_4] 44 (0, 0))) ∧ Aside0 (Below w.heap.size w wc))
         case first =>
          have hb4_ := HB4_.out
          by_cases hn : a3 < 0
          ·rw [if_pos hn] at hb4_
           subst hb4_
           have e5 : decide (a3 < 0) = true := decide_eq_true hn
           have e7 : (a3 < 0) = True := eq_true hn
           go_wp2
           go_meet
           case rel => exact ⟨rfl, HI, BK158, HB⟩
          ·rw [if_neg hn] at hb4_
           subst hb4_
           have e5 : decide (a3 < 0) = false := decide_eq_false hn
           have e7 : (a3 < 0) = False := eq_false hn
           go_wp2
           go_meet
           case rel => exact ⟨rfl, HI, BK158, HB⟩
         case rest =>
          clear HI BK158 HB
          obtain ⟨rfl, HI, BK158, HB⟩ := hcut
          obtain ⟨⟨h0, h1, h2⟩, f0, f1, f2⟩ := arith_Later.cells HI.out
          obtain ⟨⟨k0, k1_, k2_, k3, k4⟩, q0, q1, q2, q3, q4⟩ := arith_Later.cal BK158.out
          go_wp2_with (go_at_call 62; refine (arith_Later.turns b4_ y_ m_ t161 a0_0 a0_1 a0_2 A0_3 l0_3.length c0_3 _ gb163 gb158 w _ HI.out HB.out BK158.out).mono ?_; rintro e w3_ ⟨rfl, hI3_, hB3_, hK3_⟩)
          go_loopg [] k2 (fun kq w' => ∃ (y_ m_ : Int), Aside0 (arith_Later.l2 kq a0_0 a0_1 a0_2 l0_3 l0_4 a3 n_ b4_ y_ m_ t161 = some (r1, r2)) ∧ Aside0 (kq ≤ k2) ∧ Aside0 (IsD107 w w' gb163 y_ m_ t161) ∧ Aside0 (w'.heap[gb158]? = some (.cells #[.string a0_0, .int .i64 a0_1, .int .i64 a0_2, .slice A0_3 l0_3.length c0_3, .slice A0_4 l0_4.length c0_4] 44 (0, 0))) ∧ Aside0 (Below w.heap.size w w'))
          case atStart => exact ⟨_, _, H3, ⟨Nat.le_refl _⟩, ⟨by assumption⟩, ⟨KeepBut.blk (by assumption) BK158.out NB158_163.out (by simp)⟩, ⟨by assumption⟩⟩
          case round =>
           clear h0 h1 h2 f0 f1 f2 k0 k1_ k2_ k3 k4 q0 q1 q2 q3 q4 H3 HI BK158 HB
           obtain ⟨y_, m_, HA, HK3, HI, BK158, HB⟩ := hrel
           cases gk with
           | zero => exact absurd HA.out (by simp [arith_Later.l2])
           | succ k3 =>
            have H := HA.out
            clear HA
            simp only [arith_Later.l2] at H
            obtain ⟨b_, hb0_, H⟩ := Option.bind_eq_some_iff.mp H
            have HC_ := Aside0.mk hb0_
            have H' := Aside0.mk H
            clear hb0_ H
            go_upto_region 17 with (fail)
            go_cut [84] (fun v84 wc => v84 = .bool b_ ∧ Aside0 (IsD107 w wc gb163 y_ m_ t161) ∧ Aside0 (wc.heap[gb158]? = some (.cells #[.string a0_0, .int .i64 a0_1, .int .i64 a0_2, .slice A0_3 l0_3.length c0_3, .slice A0_4 l0_4.length c0_4] 44 (0, 0))) ∧ Aside0 (Below w.heap.size w wc))
            case first =>
             have hcd_ := HC_.out
             by_cases hbad : arith_Later.bad y_ = true
             ·have hb_ : b_ = false := by unfold arith_Later.cond at hcd_; rw [if_pos hbad] at hcd_; exact (Option.some.inj hcd_).symm
              subst hb_
              clear hcd_ HC_
              obtain ⟨⟨h0, h1, h2⟩, f0, f1, f2⟩ := arith_Later.cells HI.out
              obtain ⟨⟨k0, k1_, k2, k3, k4⟩, q0, q1, q2, q3, q4⟩ := arith_Later.cal BK158.out
              go_wp2_with (go_at_call 63; refine (arith_Later.bads y_ m_ t161 gb163 w _ true hbad HI.out).mono ?_; rintro e w' ⟨rfl, rfl⟩)
              go_meet
              case rel => exact ⟨rfl, HI, BK158, HB⟩
             ·have hbad2 : arith_Later.bad y_ = false := Bool.eq_false_iff.2 hbad
              unfold arith_Later.cond at hcd_
              rw [if_neg hbad] at hcd_
              obtain ⟨q_, hq0_, hqb_⟩ := Option.bind_eq_some_iff.mp hcd_
              have HQ_ := Aside0.mk hq0_
              have HQB_ := Aside0.mk (Option.some.inj hqb_)
              clear hcd_ HC_ hq0_ hqb_ hbad
              obtain ⟨⟨h0, h1, h2⟩, f0, f1, f2⟩ := arith_Later.cells HI.out
              obtain ⟨⟨k0, k1_, k2, k3, k4⟩, q0, q1, q2, q3, q4⟩ := arith_Later.cal BK158.out
              have HB2_ := Aside0.mk hbad2
              clear hbad2
              by_cases hqz : q_ = 0
              ·have hb_ : b_ = true := by rw [← HQB_.out]; exact decide_eq_true hqz
               subst hb_
               have e5 : decide (q_ = 0) = true := decide_eq_true hqz
               have e6 : (q_ == 0) = true := beq_iff_eq.mpr hqz
               clear hqz
               go_wp2_with (first | (go_at_call 63; refine (arith_Later.bads y_ m_ t161 gb163 w _ false HB2_.out HI.out).mono ?_; rintro e w' ⟨rfl, rfl⟩) | (go_at_call 64; refine (arith_month.calls a0_0 a0_1 a0_2 _ _ l0_3 _ _ l0_4 y_ m_ q_ _ (Kd.C_below HR0_3.out HB.out) HC0_3.out (Kd.C_below HR0_4.out HB.out) HC0_4.out HQ_.out).mono ?_; rintro e w2_ ⟨rfl, hb2_⟩))
               go_meet
               case rel => exact ⟨by first | rfl | (simp; done) | (simp [*]; done), ⟨HI.out.below (by assumption)⟩, ⟨blk_below BK158.out (by assumption)⟩, ⟨below_step HB.out (by assumption)⟩⟩
              ·have hb_ : b_ = false := by rw [← HQB_.out]; exact decide_eq_false hqz
               subst hb_
               have e5 : decide (q_ = 0) = false := decide_eq_false hqz
               have e6 : (q_ == 0) = false := beq_eq_false_iff_ne.mpr hqz
               clear hqz
               go_wp2_with (first | (go_at_call 63; refine (arith_Later.bads y_ m_ t161 gb163 w _ false HB2_.out HI.out).mono ?_; rintro e w' ⟨rfl, rfl⟩) | (go_at_call 64; refine (arith_month.calls a0_0 a0_1 a0_2 _ _ l0_3 _ _ l0_4 y_ m_ q_ _ (Kd.C_below HR0_3.out HB.out) HC0_3.out (Kd.C_below HR0_4.out HB.out) HC0_4.out HQ_.out).mono ?_; rintro e w2_ ⟨rfl, hb2_⟩))
               go_meet
               case rel => exact ⟨by first | rfl | (simp; done) | (simp [*]; done), ⟨HI.out.below (by assumption)⟩, ⟨blk_below BK158.out (by assumption)⟩, ⟨below_step HB.out (by assumption)⟩⟩
            case rest =>
             clear HI BK158 HB
             obtain ⟨rfl, HI, BK158, HB⟩ := hcut
             obtain ⟨⟨h0, h1, h2⟩, f0, f1, f2⟩ := arith_Later.cells HI.out
             obtain ⟨⟨k0, k1_, k2_, k3_, k4⟩, q0, q1, q2, q3, q4⟩ := arith_Later.cal BK158.out
             cases b_ with
             | true =>
              go_wp2_with (go_at_call 62; refine (arith_Later.turns b4_ y_ m_ t161 a0_0 a0_1 a0_2 A0_3 l0_3.length c0_3 _ gb163 gb158 w _ HI.out HB.out BK158.out).mono ?_; rintro e w3_ ⟨rfl, hI3_, hB3_, hK3_⟩)
              go_roundg k3
              case measure => have := HK3.out; omega
              case rel => exact ⟨_, _, ⟨by simpa using H'.out⟩, ⟨by have := HK3.out; omega⟩, ⟨by assumption⟩, ⟨KeepBut.blk (by assumption) BK158.out NB158_163.out (by simp)⟩, ⟨by assumption⟩⟩
             | false =>
              go_wp2
              go_roundg k3
              case measure => have := HK3.out; have := HK2.out; omega
              case rel => exact ⟨wrap64 (n_ + b4_), _, _, by first | rfl | (simp; done) | (simp [*]; done) | (simp [i64_w]; done), ⟨by simpa using H'.out⟩, ⟨by have := HK3.out; have := HK2.out; omega⟩, HI, BK158, HB⟩
        | false =>
         have HF := Aside0.mk (show arith_Later.fin k2 a0_0 a0_1 a0_2 l0_3 l0_4 y_ m_ t161 = some (r1, r2) from by
          have h_ := H'.out
          by_cases hn : n_ = a3
          ·rw [if_pos hn] at h_; exact h_
          ·rw [if_neg hn] at h_
           by_cases hb : arith_Later.bad y_ = true
           ·rw [if_pos hb] at h_; exact h_
           ·have := of_decide_eq_false HN_.out.symm
            exact absurd ⟨hn, Bool.eq_false_iff.2 hb⟩ this)
         clear H' HN_
         obtain ⟨⟨h0, h1, h2⟩, f0, f1, f2⟩ := arith_Later.cells HI.out
         obtain ⟨⟨k0, k1_, k2_, k3, k4⟩, q0, q1, q2, q3, q4⟩ := arith_Later.cal BK158.out
         have hF := HF.out
         unfold arith_Later.fin at hF
         by_cases hbad : arith_Later.bad y_ = true
         ·rw [if_pos hbad] at hF
          simp only [Option.some.injEq, Prod.mk.injEq] at hF
          obtain ⟨rfl, rfl⟩ := hF
          go_wp2_with (go_at_call 63; refine (arith_Later.bads y_ m_ t161 gb163 w _ true hbad HI.out).mono ?_; rintro e w' ⟨rfl, rfl⟩)
          go_ret2
          exact ⟨rfl, HB.out⟩
         ·rw [if_neg hbad] at hF
          obtain ⟨q_, A60, H⟩ := Option.bind_eq_some_iff.mp hF
          have A6 := Aside0.mk A60
          clear A60 hF HF
          obtain ⟨ji7, hji7⟩ : ∃ j_ : Int, mn t161 q_ = j_ := ⟨_, rfl⟩
          rw [hji7] at H
          have hji7_ : (if q_ < t161 then q_ else t161) = ji7 := hji7
          obtain ⟨⟨t165, t166⟩, A80, H⟩ := Option.bind_eq_some_iff.mp H
          have A8 := Aside0.mk A80
          clear A80
          simp only [Option.some.injEq, Prod.mk.injEq] at H
          obtain ⟨rfl, rfl⟩ := H
          have HB2_ := Aside0.mk (Bool.eq_false_iff.2 hbad)
          clear hbad
          go_upto_region 22 with (go_at_call 63; refine (arith_Later.bads y_ m_ t161 gb163 w _ false HB2_.out HI.out).mono ?_; rintro e w' ⟨rfl, rfl⟩)
          clear h0 h1 h2 f0 f1 f2 k0 k1_ k2_ k3 k4 q0 q1 q2 q3 q4
          have BK163 := Aside0.mk HI.out.1
          have n0_ := Aside0.mk (blk_drew BK158.out)
          have n1_ := Aside0.mk (blk_drew BK163.out)
          have n2_ := Aside0.mk (below_drew1 HB.out)
          clear BK158
          clear BK163
          clear HB
          have BK158 := n0_
          have BK163 := n1_
          have HB := n2_
          clear n0_ n1_ n2_
          refine start_ (n := 11) (S := fun w' => w'.cell? ⟨gb163, 0, none⟩ = some (.int .i64 y_) ∧ w'.cell? ⟨gb163, 1, none⟩ = some (.int .i64 m_) ∧ w'.cell? ⟨gb163, 2, none⟩ = some (.int .i64 t161) ∧ w'.cell? ⟨gb158, 0, none⟩ = some (.string a0_0) ∧ w'.cell? ⟨gb158, 1, none⟩ = some (.int .i64 a0_1) ∧ w'.cell? ⟨gb158, 2, none⟩ = some (.int .i64 a0_2) ∧ w'.cell? ⟨gb158, 3, none⟩ = some (.slice A0_3 l0_3.length c0_3) ∧ w'.cell? ⟨gb158, 4, none⟩ = some (.slice A0_4 l0_4.length c0_4)) (ds := [10]) #[false, false, false, false, false, false, false, false, false, false, false] kx rfl rfl ⟨(blk_cell BK163.out 0).trans rfl, (blk_cell BK163.out 1).trans rfl, (blk_cell BK163.out 2).trans rfl, (blk_cell BK158.out 0).trans rfl, (blk_cell BK158.out 1).trans rfl, (blk_cell BK158.out 2).trans rfl, (blk_cell BK158.out 3).trans rfl, (blk_cell BK158.out 4).trans rfl⟩ (fun hHeld => ?_); refine with_tabW arith_Later.tab22 arith_Later.bits22 (fun HT_ HW_ => ?_)
          generalize wc.drew = w16 at BK158 BK163 HB hHeld ⊢
          refine pure_ (i := 0) (N := some 93) (v := ?_) (a' := ?_) #[true, false, false, false, false, false, false, false, false, false, false] rfl rfl (any_of HT_.out kx) (fun _ _ _ h => h) (Or.inl ⟨by rfl, ?_⟩) ?_ ?_
          rotate_left
          ·intro w'
           go_simp
           with_reducible rfl
          rotate_left
          ·simp only [Act.put, List.setIfInBounds_toArray, List.set_cons_zero, List.set_cons_succ, i64_w, i32_w]
           rfl
          refine pure_ (i := 3) (N := some 96) (v := ?_) (a' := ?_) #[true, false, false, true, false, false, false, false, false, false, false] rfl rfl (any_of HT_.out kx) (fun _ _ _ h => h) (Or.inl ⟨by rfl, ?_⟩) ?_ ?_
          rotate_left
          ·intro w'
           go_simp
           with_reducible rfl
          rotate_left
          ·simp only [Act.put, List.setIfInBounds_toArray, List.set_cons_zero, List.set_cons_succ, i64_w, i32_w]
           rfl
          refine pure_ (i := 5) (N := some 98) (v := ?_) (a' := ?_) #[true, false, false, true, false, true, false, false, false, false, false] rfl rfl (any_of HT_.out kx) (fun _ _ _ h => h) (Or.inl ⟨by rfl, ?_⟩) ?_ ?_
          rotate_left
          ·intro w'
           go_simp
           with_reducible rfl
          rotate_left
          ·simp only [Act.put, List.setIfInBounds_toArray, List.set_cons_zero, List.set_cons_succ, i64_w, i32_w]
           rfl
          refine take_ (i := 1) (N := some 94) (v := ?_) (a' := ?_) #[true, true, false, true, false, true, false, false, false, false, false] rfl rfl (take_ofW HT_.out HW_.out kx) (fun _ _ _ h => h) (Or.inl ⟨by rfl, ?_⟩) hHeld ?_ ?_
          rotate_left
          ·rintro w' ⟨s0, s1, s2, s3, s4, s5, s6, s7⟩
           go_simp
           with_reducible rfl
          rotate_left
          ·simp only [Act.put, List.setIfInBounds_toArray, List.set_cons_zero, List.set_cons_succ, i64_w, i32_w]
           rfl
          refine take_ (i := 2) (N := some 95) (v := ?_) (a' := ?_) #[true, true, true, true, false, true, false, false, false, false, false] rfl rfl (take_ofW HT_.out HW_.out kx) (fun _ _ _ h => h) (Or.inl ⟨by rfl, ?_⟩) hHeld ?_ ?_
          rotate_left
          ·rintro w' ⟨s0, s1, s2, s3, s4, s5, s6, s7⟩
           go_simp
           with_reducible rfl
          rotate_left
          ·simp only [Act.put, List.setIfInBounds_toArray, List.set_cons_zero, List.set_cons_succ, i64_w, i32_w]
           rfl
          refine take_ (i := 4) (N := some 97) (v := ?_) (a' := ?_) #[true, true, true, true, true, true, false, false, false, false, false] rfl rfl (take_ofW HT_.out HW_.out kx) (fun _ _ _ h => h) (Or.inl ⟨by rfl, ?_⟩) hHeld ?_ ?_
          rotate_left
          ·rintro w' ⟨s0, s1, s2, s3, s4, s5, s6, s7⟩
           go_simp
           with_reducible rfl
          rotate_left
          ·simp only [Act.put, List.setIfInBounds_toArray, List.set_cons_zero, List.set_cons_succ, i64_w, i32_w]
           rfl
          refine take_ (i := 6) (N := some 99) (v := ?_) (a' := ?_) #[true, true, true, true, true, true, true, false, false, false, false] rfl rfl (take_ofW HT_.out HW_.out kx) (fun _ _ _ h => h) (Or.inl ⟨by rfl, ?_⟩) hHeld ?_ ?_
          rotate_left
          ·rintro w' ⟨s0, s1, s2, s3, s4, s5, s6, s7⟩
           go_simp
           with_reducible rfl
          rotate_left
          ·simp only [Act.put, List.setIfInBounds_toArray, List.set_cons_zero, List.set_cons_succ, i64_w, i32_w]
           rfl
          refine one_ (i := 7) (N := some 100) #[true, true, true, true, true, true, true, true, false, false, false] rfl rfl (one_of HT_.out kx) (by decide) (fun K hK => ?_)
          refine goes_ Try.func64 kx rfl #[.agg #[.string a0_0, .int .i64 a0_1, .int .i64 a0_2, .slice A0_3 l0_3.length c0_3, .slice A0_4 l0_4.length c0_4], .int .i64 y_, .int .i64 m_] (by rfl) rfl rfl aa ?_
          with_reducible refine (arith_month.calls a0_0 a0_1 a0_2 _ _ l0_3 _ _ l0_4 y_ m_ q_ _ ?side1 ?side2 ?side3 ?side4 A6.out).mono ?_
          (case side1 => exact kc (Kd.C_below HR0_3.out HB.out))
          (case side2 => exact HC0_3.out)
          (case side3 => exact kc (Kd.C_below HR0_4.out HB.out))
          (case side4 => exact HC0_4.out)
          rintro e w17 ⟨rfl, hb⟩
          refine ⟨_, rfl, ?_⟩
          have n0_ := bb BK158 hb
          have n1_ := bb BK163 hb
          have n2_ := Aside0.mk (below_step be hb)
          clear BK158
          clear BK163
          clear HB
          have BK158 := n0_
          have BK163 := n1_
          have HB := n2_
          clear n0_ n1_ n2_
          (try clear hb)
          (try clear hb2)
          (try clear hk)
          (try clear hi)
          refine hK.out _ _ ⟨(blk_cell BK163.out 0).trans rfl, (blk_cell BK163.out 1).trans rfl, (blk_cell BK163.out 2).trans rfl, (blk_cell BK158.out 0).trans rfl, (blk_cell BK158.out 1).trans rfl, (blk_cell BK158.out 2).trans rfl, (blk_cell BK158.out 3).trans rfl, (blk_cell BK158.out 4).trans rfl⟩ (fun hHeld => ?_)
          clear hK K
          refine norm_ (a' := ?_) ?_ ?_
          rotate_left
          ·show Act.put _ (some 100) _ = _
           simp only [Act.put, List.setIfInBounds_toArray, List.set_cons_zero, List.set_cons_succ, i64_w, i32_w]
           rfl
          refine pure_ (i := 8) (N := some 101) (v := ?_) (a' := ?_) #[true, true, true, true, true, true, true, true, true, false, false] rfl rfl (any_of HT_.out kx) (fun _ _ _ h => h) (Or.inl ⟨by rfl, ?_⟩) ?_ ?_
          rotate_left
          ·intro w'
           go_simp
           with_reducible rfl
          rotate_left
          ·simp only [Act.put, List.setIfInBounds_toArray, List.set_cons_zero, List.set_cons_succ, i64_w, i32_w]
           rfl
          refine pure_ (i := 9) (N := some 102) (v := ?_) (a' := ?_) #[true, true, true, true, true, true, true, true, true, true, false] rfl rfl (any_of HT_.out kx) (fun _ _ _ h => h) (Or.inl ⟨by rfl, ?_⟩) ?_ ?_
          rotate_left
          ·intro w'
           go_simp
           with_reducible rfl
          rotate_left
          ·simp only [Act.put, List.setIfInBounds_toArray, List.set_cons_zero, List.set_cons_succ, i64_w, i32_w]
           rfl
          refine last_ (i := 10) (N := none) #[true, true, true, true, true, true, true, true, true, true, true] rfl rfl (one_of HT_.out kx) (by decide) (fun K hK => ?_)
          have hs18 : w17.cell? ⟨gb163, 2, none⟩ = some (.int .i64 t161) := (blk_cell BK163.out 2).trans rfl
          have hfs18 := blk_frozen BK163.out 2
          have hns18_0 := NB158_163.out
          have hms18_0 := NB163_158.out
          refine skip_ (w1 := ?_) (by rfl) rfl ?_ ?_
          rotate_left
          ·go_simp
           rfl
          refine hK.out _ _ ?_
          clear hK K
          refine done_ (done_of HT_.out kx) ?_
          obtain ⟨hcz19_0, hcz19_1, hcz19_2, hcz19_3, hcz19_4, hfz19_0, hfz19_1, hfz19_2, hfz19_3, hfz19_4⟩ := bc5 BK158
          obtain ⟨hcz20_0, hcz20_1, hcz20_2, hfz20_0, hfz20_1, hfz20_2⟩ := bc3 BK163
          try go_wp2_with (first | ((with_reducible refine gate_callee (f := 65) rfl ?_); refine goesL_ (some 105) rfl rfl Try.func65 kx rfl #[.agg #[.string a0_0, .int .i64 a0_1, .int .i64 a0_2, .slice A0_3 l0_3.length c0_3, .slice A0_4 l0_4.length c0_4], .agg #[.int .i64 y_, .int .i64 m_, .int .i64 ji7]] rfl (by (try simp only [List.map_toArray, List.map_cons, List.map_nil]); first | done | (simp only [hji7]; rfl) | rfl | (simp only [List.length_drop, List.length_take]; rfl)) ?_; (with_reducible refine (arith_ToDay.calls k2 a0_0 a0_1 a0_2 _ _ l0_3 _ _ l0_4 y_ m_ ji7 t165 t166 _ ?side1 ?side2 ?side3 ?side4 A8.out).mono ?_); (case side1 => exact Kd.C_below HR0_3.out be); (case side2 => exact HC0_3.out); (case side3 => exact Kd.C_below HR0_4.out be); (case side4 => exact HC0_4.out); rintro e w21 ⟨rfl, hb⟩; refine ⟨_, rfl, ?_⟩; have n0_ := bb BK158 hb; have n1_ := Aside0.mk (blk_below (g := gb163) (o := .cells #[.int .i64 y_, .int .i64 m_, .int .i64 ji7] 107 (0, 0)) (bk BK163) hb); have n2_ := Aside0.mk (below_step be hb); clear BK158; clear BK163; clear HB; have BK158 := n0_; have BK163 := n1_; have HB := n2_; clear n0_ n1_ n2_; (try clear hb); (try clear hb2); (try clear hk); (try clear hi)))
          go_ret2
          exact ⟨by first | rfl | (simp [errW_none, errW_some] <;> rfl) | (simp only [← hji7]; first | rfl | (simp [errW_none, errW_some] <;> rfl)) | (simp [*, errW_none, errW_some] <;> rfl), be⟩

/-! ### ephemerislaw1_small: function 66 -/
def ephemerislaw1_small.f  : Option (ByteArray × Int × Int × Int × Int × (List (S119)) × (List (S125))) := some ((⟨#[115, 109, 97, 108, 108]⟩ : ByteArray), 1, 8, 10, 0, (([(⟨8, 0, (([(⟨2, 0, ([] : List (S119))⟩ : S119), (⟨1, 4, ([] : List (S119))⟩ : S119)] : List (S119)))⟩ : S119), (⟨1, 0, ([] : List (S119))⟩ : S119)] : List (S119))), (([(⟨(⟨#[111, 110, 101]⟩ : ByteArray), 31, 31⟩ : S125), (⟨(⟨#[116, 119, 111]⟩ : ByteArray), 28, 29⟩ : S125)] : List (S125))))
set_option maxHeartbeats 8000000 in
set_option maxRecDepth 100000 in
theorem ephemerislaw1_small.calls  (r1 : ByteArray) (r2 : Int) (r3 : Int) (r4 : Int) (r5 : Int) (r6 : List (S119)) (r7 : List (S125)) (w : World) (h : ephemerislaw1_small.f  = some (r1, r2, r3, r4, r5, r6, r7)) :
  Calls Try.prog 66 #[] w fun e w' => ∃ v5_ v6_ : Value, e = .returned (.agg #[.string r1, .int .i64 r2, .int .i64 r3, .int .i64 r4, .int .i64 r5, v5_, v6_]) ∧ Kd.N k119 119 w' w.heap.size (fun k_ => (w.heap.size ≤ k_) ∧ some k_ ≠ (v6_ : Value).ownBlock) v5_ r6 ∧ Kd.R k125 125 w' w.heap.size (fun k_ => (w.heap.size ≤ k_)) v6_ r7 ∧ Below w.heap.size w w' := by
 have hu121 := Try.underlying121
 have hu119 := Try.underlying119
 have hu125 := Try.underlying125
 have HB := Aside0.mk (Below.refl w.heap.size w)
 have H : (some ((⟨#[115, 109, 97, 108, 108]⟩ : ByteArray), 1, 8, 10, 0, (([(⟨8, 0, (([(⟨2, 0, ([] : List (S119))⟩ : S119), (⟨1, 4, ([] : List (S119))⟩ : S119)] : List (S119)))⟩ : S119), (⟨1, 0, ([] : List (S119))⟩ : S119)] : List (S119))), (([(⟨(⟨#[111, 110, 101]⟩ : ByteArray), 31, 31⟩ : S125), (⟨(⟨#[116, 119, 111]⟩ : ByteArray), 28, 29⟩ : S125)] : List (S125))))) = some (r1, r2, r3, r4, r5, r6, r7) := h
 clear h
 obtain ⟨y171, hy171⟩ : ∃ y_ : List (S119), y_ = (([(⟨2, 0, ([] : List (S119))⟩ : S119), (⟨1, 4, ([] : List (S119))⟩ : S119)] : List (S119))) := ⟨_, rfl⟩
 replace H : (some ((⟨#[115, 109, 97, 108, 108]⟩ : ByteArray), 1, 8, 10, 0, (([(⟨8, 0, y171⟩ : S119), (⟨1, 0, ([] : List (S119))⟩ : S119)] : List (S119))), (([(⟨(⟨#[111, 110, 101]⟩ : ByteArray), 31, 31⟩ : S125), (⟨(⟨#[116, 119, 111]⟩ : ByteArray), 28, 29⟩ : S125)] : List (S125))))) = some (r1, r2, r3, r4, r5, r6, r7) := rp hy171 H
 have Ny171 := Aside0.mk hy171
 clear hy171
 obtain ⟨y174, hy174⟩ : ∃ y_ : List (S119), y_ = (([(⟨8, 0, y171⟩ : S119), (⟨1, 0, ([] : List (S119))⟩ : S119)] : List (S119))) := ⟨_, rfl⟩
 replace H : (some ((⟨#[115, 109, 97, 108, 108]⟩ : ByteArray), 1, 8, 10, 0, y174, (([(⟨(⟨#[111, 110, 101]⟩ : ByteArray), 31, 31⟩ : S125), (⟨(⟨#[116, 119, 111]⟩ : ByteArray), 28, 29⟩ : S125)] : List (S125))))) = some (r1, r2, r3, r4, r5, r6, r7) := rp hy174 H
 have Ny174 := Aside0.mk hy174
 clear hy174
 obtain ⟨y178, hy178⟩ : ∃ y_ : List (S125), y_ = (([(⟨(⟨#[111, 110, 101]⟩ : ByteArray), 31, 31⟩ : S125), (⟨(⟨#[116, 119, 111]⟩ : ByteArray), 28, 29⟩ : S125)] : List (S125))) := ⟨_, rfl⟩
 replace H : (some ((⟨#[115, 109, 97, 108, 108]⟩ : ByteArray), 1, 8, 10, 0, y174, y178)) = some (r1, r2, r3, r4, r5, r6, r7) := rp hy178 H
 have Ny178 := Aside0.mk hy178
 clear hy178
 simp only [Option.some.injEq, Prod.mk.injEq] at H
 obtain ⟨rfl, rfl, rfl, rfl, rfl, rfl, rfl⟩ := H
 go_enter Try.func66, Try.ntmps66
 go_wp2_with (first | ((with_reducible refine gate_dst (N := 0) rfl ?_); refine box_event ?hg (N := 0) ?hd (cs := #[.string (⟨#[]⟩ : ByteArray), .int .i64 0, .int .i64 0, .int .i64 0, .int .i64 0, .slice none 0 0, .slice none 0 0]) (t := 121) ?hr ?_; (case hd => rfl); (case hg => rfl); (case hr => first | (go_simp; done) | (go_simp; rfl)); intro gb167 hg w1 hbox hb; have n0_ := Aside0.mk (below_step be hb); have n1_ := Aside0.mk (hbox); have n2_ := gs hg HB; have n3_ := n2_; clear HB; have HB := n0_; have BK167 := n1_; have GW167 := n2_; have GE167 := n3_; clear n0_ n1_ n2_ n3_; clear hb hbox hg) | ((with_reducible refine gate_dst (N := 1) rfl ?_); refine box_event ?hg (N := 1) ?hd (cs := #[.int .i64 0, .int .i64 0, .slice none 0 0]) (t := 119) ?hr ?_; (case hd => rfl); (case hg => rfl); (case hr => first | (go_simp; done) | (go_simp; rfl)); intro gb168 hg w2 hbox hb; have n0_ := bb BK167 hb; have n1_ := Aside0.mk (below_step be hb); have n2_ := Aside0.mk (hbox); have n3_ := gs hg HB; have n4_ := n3_; have n5_ := nl BK167 hg; have n6_ := ns n5_; clear BK167; clear HB; have BK167 := n0_; have HB := n1_; have BK168 := n2_; have GW168 := n3_; have GE168 := n4_; have NB167_168 := n5_; have NB168_167 := n6_; clear n0_ n1_ n2_ n3_ n4_ n5_ n6_; clear hb hbox hg; have hnb3 := NB168_167.out; have hnc3 := NB167_168.out; obtain ⟨hcz4_0, hcz4_1, hcz4_2, hfz4_0, hfz4_1, hfz4_2⟩ := bc3 BK168) | ((with_reducible refine gate_dst (N := 2) rfl ?_); refine box_event ?hg (N := 2) ?hd (cs := #[.int .i64 0, .int .i64 0, .slice none 0 0]) (t := 119) ?hr ?_; (case hd => rfl); (case hg => rfl); (case hr => first | (go_simp; done) | (go_simp; rfl)); intro gb169 hg w5 hbox hb; have n0_ := bb BK167 hb; have n1_ := Aside0.mk (blk_below (g := gb168) (o := .cells #[.int .i64 2, .int .i64 0, .slice none 0 0] 119 (0, 0)) (bk BK168) hb); have n2_ := Aside0.mk (below_step be hb); have n3_ := Aside0.mk (hbox); have n4_ := gs hg HB; have n5_ := n4_; have n6_ := nl BK167 hg; have n7_ := ns n6_; have n8_ := Aside0.mk ((by rw [hg]; exact Nat.ne_of_lt (blk_lt (g := gb168) (o := .cells #[.int .i64 2, .int .i64 0, .slice none 0 0] 119 (0, 0)) (bk BK168)) : gb168 ≠ gb169)); have n9_ := Aside0.mk ((by rw [hg]; exact Nat.ne_of_gt (blk_lt (g := gb168) (o := .cells #[.int .i64 2, .int .i64 0, .slice none 0 0] 119 (0, 0)) (bk BK168)) : gb169 ≠ gb168)); clear BK167; clear BK168; clear HB; have BK167 := n0_; have BK168 := n1_; have HB := n2_; have BK169 := n3_; have GW169 := n4_; have GE169 := n5_; have NB167_169 := n6_; have NB169_167 := n7_; have NB168_169 := n8_; have NB169_168 := n9_; clear n0_ n1_ n2_ n3_ n4_ n5_ n6_ n7_ n8_ n9_; clear hb hbox hg; have hnb6 := NB169_167.out; have hnc6 := NB167_169.out; have hnb7 := NB169_168.out; have hnc7 := NB168_169.out; obtain ⟨hcz8_0, hcz8_1, hcz8_2, hfz8_0, hfz8_1, hfz8_2⟩ := bc3 BK169) | ((with_reducible refine gate_dst (N := 3) rfl ?_); refine box_event ?hg (N := 3) ?hd (cs := #[.int .i64 0, .int .i64 0, .slice none 0 0]) (t := 119) ?hr ?_; (case hd => rfl); (case hg => rfl); (case hr => first | (go_simp; done) | (go_simp; rfl)); intro gb170 hg w9 hbox hb; have n0_ := bb BK167 hb; have n1_ := bb BK168 hb; have n2_ := Aside0.mk (blk_below (g := gb169) (o := .cells #[.int .i64 1, .int .i64 4, .slice none 0 0] 119 (0, 0)) (bk BK169) hb); have n3_ := Aside0.mk (below_step be hb); have n4_ := Aside0.mk (hbox); have n5_ := gs hg HB; have n6_ := n5_; have n7_ := nl BK167 hg; have n8_ := ns n7_; have n9_ := nl BK168 hg; have n10_ := ns n9_; have n11_ := Aside0.mk ((by rw [hg]; exact Nat.ne_of_lt (blk_lt (g := gb169) (o := .cells #[.int .i64 1, .int .i64 4, .slice none 0 0] 119 (0, 0)) (bk BK169)) : gb169 ≠ gb170)); have n12_ := Aside0.mk ((by rw [hg]; exact Nat.ne_of_gt (blk_lt (g := gb169) (o := .cells #[.int .i64 1, .int .i64 4, .slice none 0 0] 119 (0, 0)) (bk BK169)) : gb170 ≠ gb169)); clear BK167; clear BK168; clear BK169; clear HB; have BK167 := n0_; have BK168 := n1_; have BK169 := n2_; have HB := n3_; have BK170 := n4_; have GW170 := n5_; have GE170 := n6_; have NB167_170 := n7_; have NB170_167 := n8_; have NB168_170 := n9_; have NB170_168 := n10_; have NB169_170 := n11_; have NB170_169 := n12_; clear n0_ n1_ n2_ n3_ n4_ n5_ n6_ n7_ n8_ n9_ n10_ n11_ n12_; clear hb hbox hg; have hnb10 := NB170_167.out; have hnc10 := NB167_170.out; have hnb11 := NB170_168.out; have hnc11 := NB168_170.out; have hnb12 := NB170_169.out; have hnc12 := NB169_170.out; obtain ⟨hcz13_0, hcz13_1, hcz13_2, hfz13_0, hfz13_1, hfz13_2⟩ := bc3 BK170; obtain ⟨hcz14_0, hcz14_1, hcz14_2, hfz14_0, hfz14_1, hfz14_2⟩ := bc3 BK168; obtain ⟨hcz15_0, hcz15_1, hcz15_2, hfz15_0, hfz15_1, hfz15_2⟩ := bc3 BK169) | ((with_reducible refine gate_dst (N := 10) rfl ?_); refine Kd.N_lit k119 _ 119 ?hg (N' := 10) ?hd (xs := ([(⟨2, 0, ([] : List (S119))⟩ : S119), (⟨1, 4, ([] : List (S119))⟩ : S119)] : List (S119))) (inner := [.int .i64 2, .int .i64 0, .slice none 0 0, .int .i64 1, .int .i64 4, .slice none 0 0]) (ok := (fun k_ => (w.heap.size ≤ k_) ∧ k_ ≠ gb167 ∧ k_ ≠ gb168 ∧ k_ ≠ gb169 ∧ k_ ≠ gb170)) (okp := (fun k_ => (w.heap.size ≤ k_) ∧ k_ ≠ gb167 ∧ k_ ≠ gb168 ∧ k_ ≠ gb169 ∧ k_ ≠ gb170)) ?hr ?hp (fun _ hk => hk) ?hf (Below.refl _ _) (Nat.le_refl _) (by simp) ?_; (case hf => exact ⟨(Nat.le_trans (below_size be) (Nat.le_refl _)), Kd.freshB (g := gb167) (o := .cells #[.string (⟨#[]⟩ : ByteArray), .int .i64 0, .int .i64 0, .int .i64 0, .int .i64 0, .slice none 0 0, .slice none 0 0] 121 (0, 0)) (bk BK167) _ (Nat.le_refl _), Kd.freshB (g := gb168) (o := .cells #[.int .i64 2, .int .i64 0, .slice none 0 0] 119 (0, 0)) (bk BK168) _ (Nat.le_refl _), Kd.freshB (g := gb169) (o := .cells #[.int .i64 1, .int .i64 4, .slice none 0 0] 119 (0, 0)) (bk BK169) _ (Nat.le_refl _), Kd.freshB (g := gb170) (o := .cells #[.int .i64 1, .int .i64 0, .slice none 0 0] 119 (0, 0)) (bk BK170) _ (Nat.le_refl _)⟩); (case hd => rfl); (case hg => rfl); (case hr => first | (go_simp; done) | (go_simp; rfl)); (case hp => exact (Reps.c3 (show Kd.FK k119 _ _ (⟨2, 0, ([] : List (S119))⟩ : S119) [.int .i64 2, .int .i64 0, .slice none 0 0] from (k119_mkF _ _ (⟨2, 0, ([] : List (S119))⟩ : S119) (Nat.le_refl _) (Kd.F_nil _ _ _))) (Reps.c3 (show Kd.FK k119 _ _ (⟨1, 4, ([] : List (S119))⟩ : S119) [.int .i64 1, .int .i64 4, .slice none 0 0] from (k119_mkF _ _ (⟨1, 4, ([] : List (S119))⟩ : S119) (Nat.le_refl _) (Kd.F_nil _ _ _))) (Reps.none _ _)))); intro v172 w16 ho17 hb hg_ hnew_; clear hg_ hnew_; (first | rw [← Ny171.out] at ho17 | (simp only [Int.reduceToNat] at ho17; rw [← Ny171.out] at ho17)); have n0_ := Aside0.mk (Kd.N_lower ho17 (below_size be)); have n1_ := bb BK167 hb; have n2_ := bb BK168 hb; have n3_ := bb BK169 hb; have n4_ := Aside0.mk (blk_below (g := gb170) (o := .cells #[.int .i64 1, .int .i64 0, .slice none 0 0] 119 (0, 0)) (bk BK170) hb); have n5_ := Aside0.mk (below_step be hb); clear BK167; clear BK168; clear BK169; clear BK170; clear HB; have HO173 := n0_; have BK167 := n1_; have BK168 := n2_; have BK169 := n3_; have BK170 := n4_; have HB := n5_; clear n0_ n1_ n2_ n3_ n4_ n5_; clear hb ho17; obtain ⟨Ao18, co18, eo18⟩ := Kd.N_slice HO173.out; subst eo18; obtain ⟨hcz19_0, hcz19_1, hcz19_2, hfz19_0, hfz19_1, hfz19_2⟩ := bc3 BK170) | ((with_reducible refine gate_dst (N := 13) rfl ?_); refine Kd.N_lit k119 _ 119 ?hg (N' := 13) ?hd (xs := ([(⟨8, 0, y171⟩ : S119), (⟨1, 0, ([] : List (S119))⟩ : S119)] : List (S119))) (inner := [.int .i64 8, .int .i64 0, .slice Ao18 y171.length co18, .int .i64 1, .int .i64 0, .slice none 0 0]) (ok := (fun k_ => (w.heap.size ≤ k_) ∧ k_ ≠ gb167 ∧ k_ ≠ gb168 ∧ k_ ≠ gb169 ∧ k_ ≠ gb170)) (okp := (fun k_ => (w.heap.size ≤ k_) ∧ k_ ≠ gb167 ∧ k_ ≠ gb168 ∧ k_ ≠ gb169 ∧ k_ ≠ gb170)) ?hr ?hp (fun _ hk => hk) ?hf (Below.refl _ _) (Nat.le_refl _) (by simp) ?_; (case hf => exact ⟨(Nat.le_trans (below_size be) (Nat.le_refl _)), Kd.freshB (g := gb167) (o := .cells #[.string (⟨#[]⟩ : ByteArray), .int .i64 0, .int .i64 0, .int .i64 0, .int .i64 0, .slice none 0 0, .slice none 0 0] 121 (0, 0)) (bk BK167) _ (Nat.le_refl _), Kd.freshB (g := gb168) (o := .cells #[.int .i64 2, .int .i64 0, .slice none 0 0] 119 (0, 0)) (bk BK168) _ (Nat.le_refl _), Kd.freshB (g := gb169) (o := .cells #[.int .i64 1, .int .i64 4, .slice none 0 0] 119 (0, 0)) (bk BK169) _ (Nat.le_refl _), Kd.freshB (g := gb170) (o := .cells #[.int .i64 1, .int .i64 0, .slice none 0 0] 119 (0, 0)) (bk BK170) _ (Nat.le_refl _)⟩); (case hd => rfl); (case hg => rfl); (case hr => first | (go_simp; done) | (go_simp; rfl)); (case hp => exact (Reps.c3 (show Kd.FK k119 _ _ (⟨8, 0, y171⟩ : S119) [.int .i64 8, .int .i64 0, .slice Ao18 y171.length co18] from (k119_mkF _ _ (⟨8, 0, y171⟩ : S119) (Kd.N_reads' (Kd.N_mono (ok' := (fun k_ => (w.heap.size ≤ k_) ∧ k_ ≠ gb167 ∧ k_ ≠ gb168 ∧ k_ ≠ gb169 ∧ k_ ≠ gb170)) (HO173.out) (fun k_ hk => ⟨hk.1, ⟨hk.2.1, ⟨hk.2.2.1, ⟨hk.2.2.2.1, hk.2.2.2.2⟩⟩⟩⟩))).2.1 (Kd.N_F (Kd.N_mono (ok' := (fun k_ => (w.heap.size ≤ k_) ∧ k_ ≠ gb167 ∧ k_ ≠ gb168 ∧ k_ ≠ gb169 ∧ k_ ≠ gb170)) (HO173.out) (fun k_ hk => ⟨hk.1, ⟨hk.2.1, ⟨hk.2.2.1, ⟨hk.2.2.2.1, hk.2.2.2.2⟩⟩⟩⟩))))) (Reps.c3 (show Kd.FK k119 _ _ (⟨1, 0, ([] : List (S119))⟩ : S119) [.int .i64 1, .int .i64 0, .slice none 0 0] from (k119_mkF _ _ (⟨1, 0, ([] : List (S119))⟩ : S119) (Nat.le_refl _) (Kd.F_nil _ _ _))) (Reps.none _ _)))); intro v175 w20 ho21 hb hg_ hnew_; clear hg_ hnew_; (first | rw [← Ny174.out] at ho21 | (simp only [Int.reduceToNat] at ho21; rw [← Ny174.out] at ho21)); have n0_ := Aside0.mk (Kd.N_lower ho21 (below_size be)); have n1_ := bb BK167 hb; have n2_ := bb BK168 hb; have n3_ := bb BK169 hb; have n4_ := bb BK170 hb; have n5_ := Aside0.mk (below_step be hb); clear BK167; clear BK168; clear BK169; clear BK170; clear HB; clear HO173; have HO176 := n0_; have BK167 := n1_; have BK168 := n2_; have BK169 := n3_; have BK170 := n4_; have HB := n5_; clear n0_ n1_ n2_ n3_ n4_ n5_; clear hb ho21; obtain ⟨Ao22, co22, eo22⟩ := Kd.N_slice HO176.out; subst eo22) | ((with_reducible refine gate_dst (N := 4) rfl ?_); refine box_event ?hg (N := 4) ?hd (cs := #[.int .i64 0, .int .i64 0, .slice none 0 0]) (t := 119) ?hr ?_; (case hd => rfl); (case hg => rfl); (case hr => first | (go_simp; done) | (go_simp; rfl)); intro gb177 hg w23 hbox hb; have n0_ := Aside0.mk (Kd.N_below (Kd.N_elderB (by (with_reducible repeat (first | apply Kd.N_alloc | apply Kd.N_drewN | apply Kd.N_drew)); exact HO176.out) gb177 (Nat.le_of_eq hg.symm)) hb); have n1_ := bb BK167 hb; have n2_ := bb BK168 hb; have n3_ := bb BK169 hb; have n4_ := bb BK170 hb; have n5_ := Aside0.mk (below_step be hb); have n6_ := Aside0.mk (hbox); have n7_ := gs hg HB; have n8_ := n7_; have n9_ := nl BK167 hg; have n10_ := ns n9_; have n11_ := nl BK168 hg; have n12_ := ns n11_; have n13_ := nl BK169 hg; have n14_ := ns n13_; have n15_ := nl BK170 hg; have n16_ := ns n15_; clear HO176; clear BK167; clear BK168; clear BK169; clear BK170; clear HB; have HO176 := n0_; have BK167 := n1_; have BK168 := n2_; have BK169 := n3_; have BK170 := n4_; have HB := n5_; have BK177 := n6_; have GW177 := n7_; have GE177 := n8_; have NB167_177 := n9_; have NB177_167 := n10_; have NB168_177 := n11_; have NB177_168 := n12_; have NB169_177 := n13_; have NB177_169 := n14_; have NB170_177 := n15_; have NB177_170 := n16_; clear n0_ n1_ n2_ n3_ n4_ n5_ n6_ n7_ n8_ n9_ n10_ n11_ n12_ n13_ n14_ n15_ n16_; clear hb hbox hg; have hnb24 := NB177_167.out; have hnc24 := NB167_177.out; have hnb25 := NB177_168.out; have hnc25 := NB168_177.out; have hnb26 := NB177_169.out; have hnc26 := NB169_177.out; have hnb27 := NB177_170.out; have hnc27 := NB170_177.out; obtain ⟨hcz28_0, hcz28_1, hcz28_2, hfz28_0, hfz28_1, hfz28_2⟩ := bc3 BK177) | ((with_reducible refine gate_dst (N := 18) rfl ?_); refine Kd.R_lit k125 _ 125 ?hg (N := 18) ?hd (xs := ([(⟨(⟨#[111, 110, 101]⟩ : ByteArray), 31, 31⟩ : S125), (⟨(⟨#[116, 119, 111]⟩ : ByteArray), 28, 29⟩ : S125)] : List (S125))) (inner := [.string (⟨#[111, 110, 101]⟩ : ByteArray), .int .i64 31, .int .i64 31, .string (⟨#[116, 119, 111]⟩ : ByteArray), .int .i64 28, .int .i64 29]) (ok := fun _ => True) (okp := fun _ => True) ?hr ?hp (fun _ hk => hk) trivial (Below.refl _ _) (Nat.le_refl _) (by simp) ?_; (case hd => rfl); (case hg => rfl); (case hr => first | (go_simp; done) | (go_simp; rfl)); (case hp => exact (Reps.c3 (show Kd.M k125 _ _ _ (⟨(⟨#[111, 110, 101]⟩ : ByteArray), 31, 31⟩ : S125) [.string (⟨#[111, 110, 101]⟩ : ByteArray), .int .i64 31, .int .i64 31] from (k125_mkM _ _ _ (⟨(⟨#[111, 110, 101]⟩ : ByteArray), 31, 31⟩ : S125) )) (Reps.c3 (show Kd.M k125 _ _ _ (⟨(⟨#[116, 119, 111]⟩ : ByteArray), 28, 29⟩ : S125) [.string (⟨#[116, 119, 111]⟩ : ByteArray), .int .i64 28, .int .i64 29] from (k125_mkM _ _ _ (⟨(⟨#[116, 119, 111]⟩ : ByteArray), 28, 29⟩ : S125) )) (Reps.none _ _)))); intro v179 w29 ho30 hb hg_ hnew_; clear hg_ hnew_; (first | rw [← Ny178.out] at ho30 | (simp only [Int.reduceToNat] at ho30; rw [← Ny178.out] at ho30)); have n0_ := Aside0.mk (Kd.N_elder' (by (with_reducible repeat (first | apply Kd.N_alloc | apply Kd.N_drewN | apply Kd.N_drew)); exact (Kd.N_mono (Kd.N_far (p := ⟨gb177, 2, none⟩) (Kd.N_far (p := ⟨gb177, 1, none⟩) (Kd.N_far (p := ⟨gb177, 0, none⟩) (Kd.N_mono HO176.out (fun k_ hk => (⟨hk, hk.2⟩ : _ ∧ k_ ≠ gb177))) (fun _ hk => hk.2) (.int .i64 10)) (fun _ hk => hk.2) (.int .i64 0)) (fun _ hk => hk.2) (.slice Ao22 y174.length co22)) (fun _ h_ => h_.1))) (Kd.R_base ho30) hb); have n1_ := Aside0.mk (Kd.R_lower (Kd.R_newM (M := fun k_ => (w.heap.size ≤ k_)) ho30 (below_size be) (fun k_ h_ => h_)) (below_size be)); have n2_ := bb BK167 hb; have n3_ := bb BK168 hb; have n4_ := bb BK169 hb; have n5_ := bb BK170 hb; have n6_ := Aside0.mk (blk_below (g := gb177) (o := .cells #[.int .i64 10, .int .i64 0, .slice Ao22 y174.length co22] 119 (0, 0)) (bk BK177) hb); have n7_ := Aside0.mk (below_step be hb); clear HO176; clear BK167; clear BK168; clear BK169; clear BK170; clear BK177; clear HB; have HO176 := n0_; have HO180 := n1_; have BK167 := n2_; have BK168 := n3_; have BK169 := n4_; have BK170 := n5_; have BK177 := n6_; have HB := n7_; clear n0_ n1_ n2_ n3_ n4_ n5_ n6_ n7_; clear hb ho30; obtain ⟨Ao31, co31, eo31⟩ := Kd.R_slice HO180.out; subst eo31; obtain ⟨hcz32_0, hcz32_1, hcz32_2, hcz32_3, hcz32_4, hcz32_5, hcz32_6, hfz32_0, hfz32_1, hfz32_2, hfz32_3, hfz32_4, hfz32_5, hfz32_6⟩ := bc7 BK167))
 refine bodyPost_ret (results_cell_row rfl _ _ gb167 121 #[.string (⟨#[115, 109, 97, 108, 108]⟩ : ByteArray), .int .i64 1, .int .i64 8, .int .i64 10, .int .i64 0, .slice Ao22 y174.length co22, .slice Ao31 y178.length co31] (0, 0) _ rfl (bk BK167) Try.underlying121 rfl kx) rfl ?_
 exact ⟨_, _, by first | rfl | (simp [errW_none, errW_some] <;> rfl) | (simp [*, errW_none, errW_some] <;> rfl), by (with_reducible repeat (first | apply Kd.N_alloc | apply Kd.N_drewN | apply Kd.N_drew)); exact Kd.N_mono (Kd.N_far (p := ⟨gb167, 6, none⟩) (Kd.N_far (p := ⟨gb167, 5, none⟩) (Kd.N_far (p := ⟨gb167, 4, none⟩) (Kd.N_far (p := ⟨gb167, 3, none⟩) (Kd.N_far (p := ⟨gb167, 2, none⟩) (Kd.N_far (p := ⟨gb167, 1, none⟩) (Kd.N_far (p := ⟨gb167, 0, none⟩) (Kd.N_mono HO176.out (fun k_ hk => (⟨hk, hk.1.1.2.1⟩ : _ ∧ k_ ≠ gb167))) (fun _ hk => hk.2) (.string (⟨#[115, 109, 97, 108, 108]⟩ : ByteArray))) (fun _ hk => hk.2) (.int .i64 1)) (fun _ hk => hk.2) (.int .i64 8)) (fun _ hk => hk.2) (.int .i64 10)) (fun _ hk => hk.2) (.int .i64 0)) (fun _ hk => hk.2) (.slice Ao22 y174.length co22)) (fun _ hk => hk.2) (.slice Ao31 y178.length co31)) (fun _ hk => ⟨hk.1.1.1.1, hk.1.2⟩), by (with_reducible repeat (first | apply Kd.R_alloc | apply Kd.R_drewN | apply Kd.R_drew)); exact Kd.R_mono (Kd.R_far (p := ⟨gb167, 6, none⟩) (Kd.R_far (p := ⟨gb167, 5, none⟩) (Kd.R_far (p := ⟨gb167, 4, none⟩) (Kd.R_far (p := ⟨gb167, 3, none⟩) (Kd.R_far (p := ⟨gb167, 2, none⟩) (Kd.R_far (p := ⟨gb167, 1, none⟩) (Kd.R_far (p := ⟨gb167, 0, none⟩) (Kd.R_types HO180.out BK167.out (by decide)) (fun _ hk => hk.2) (.string (⟨#[115, 109, 97, 108, 108]⟩ : ByteArray))) (fun _ hk => hk.2) (.int .i64 1)) (fun _ hk => hk.2) (.int .i64 8)) (fun _ hk => hk.2) (.int .i64 10)) (fun _ hk => hk.2) (.int .i64 0)) (fun _ hk => hk.2) (.slice Ao22 y174.length co22)) (fun _ hk => hk.2) (.slice Ao31 y178.length co31)) (fun _ hk => hk.1.1), be⟩

/-! ### ephemerislaw1_four: function 20 -/
def ephemerislaw1_four.f  : Option (ByteArray × Int × Int × (List (S125)) × List Int) := (ephemerislaw1_small.f).bind fun bt182 => (some ((⟨#[115, 109, 97, 108, 108]⟩ : ByteArray), 1, 4, bt182.2.2.2.2.2.2, (([4] : List Int))))
set_option maxHeartbeats 8000000 in
set_option maxRecDepth 100000 in
theorem ephemerislaw1_four.calls  (r1 : ByteArray) (r2 : Int) (r3 : Int) (r4 : List (S125)) (r5 : List Int) (w : World) (h : ephemerislaw1_four.f  = some (r1, r2, r3, r4, r5)) :
  Calls Try.prog 20 #[] w fun e w' => ∃ v3_ v4_ : Value, e = .returned (.agg #[.string r1, .int .i64 r2, .int .i64 r3, v3_, v4_]) ∧ Kd.R k125 125 w' w.heap.size (fun _ => True) v3_ r4 ∧ Kd.R (Kd.int .i64) 3 w' w.heap.size (fun _ => True) v4_ r5 ∧ Below w.heap.size w w' := by
 have hfd : ∀ (s : ByteArray) (a b c d : Int) (u v : Value) (w_ : World), (Instr.field 121 (.agg #[.string s, .int .i64 a, .int .i64 b, .int .i64 c, .int .i64 d, u, v]) 4).run Try.prog w_ = .ok v w_ := fun _ _ _ _ _ _ _ _ => by kernel_rfl
 have hu44 := Try.underlying44
 have HB := Aside0.mk (Below.refl w.heap.size w)
 have H : ((ephemerislaw1_small.f).bind fun bt182 => (some ((⟨#[115, 109, 97, 108, 108]⟩ : ByteArray), 1, 4, bt182.2.2.2.2.2.2, (([4] : List Int))))) = some (r1, r2, r3, r4, r5) := h
 clear h
 replace H := Option.bind_eq_some_iff.mp H
 obtain ⟨⟨t182, t183, t184, t185, t186, t187, t190⟩, A10, H⟩ := H
 replace H : (some ((⟨#[115, 109, 97, 108, 108]⟩ : ByteArray), 1, 4, t190, (([4] : List Int)))) = some (r1, r2, r3, r4, r5) := H
 have A1 := Aside0.mk A10
 clear A10
 obtain ⟨y193, hy193⟩ : ∃ y_ : List Int, y_ = (([4] : List Int)) := ⟨_, rfl⟩
 replace H : (some ((⟨#[115, 109, 97, 108, 108]⟩ : ByteArray), 1, 4, t190, y193)) = some (r1, r2, r3, r4, r5) := rp hy193 H
 have Ny193 := Aside0.mk hy193
 clear hy193
 simp only [Option.some.injEq, Prod.mk.injEq] at H
 obtain ⟨rfl, rfl, rfl, rfl, rfl⟩ := H
 go_enter Try.func20, Try.ntmps20
 go_wp2_with (first | ((with_reducible refine gate_dst (N := 0) rfl ?_); refine box_event ?hg (N := 0) ?hd (cs := #[.string (⟨#[]⟩ : ByteArray), .int .i64 0, .int .i64 0, .slice none 0 0, .slice none 0 0]) (t := 44) ?hr ?_; (case hd => rfl); (case hg => rfl); (case hr => first | (go_simp; done) | (go_simp; rfl)); intro gb181 hg w2 hbox hb; have n0_ := Aside0.mk (below_step be hb); have n1_ := Aside0.mk (hbox); have n2_ := gs hg HB; have n3_ := n2_; clear HB; have HB := n0_; have BK181 := n1_; have GW181 := n2_; have GE181 := n3_; clear n0_ n1_ n2_ n3_; clear hb hbox hg) | ((with_reducible refine gate_callee (f := 66) rfl ?_); refine goesL_ (some 1) rfl rfl Try.func66 kx rfl #[] rfl aa ?_; (with_reducible refine (ephemerislaw1_small.calls  t182 t183 t184 t185 t186 t187 t190 _ A1.out).mono ?_); rintro e w3 ⟨v188, v191, rfl, ho0, ho1, hb⟩; refine ⟨_, rfl, ?_⟩; have n0_ := Aside0.mk (Kd.N_lower (Kd.N_mono (ok' := fun k_ => some k_ ≠ (v191 : Value).ownBlock ∧ k_ ≠ gb181) ho0 (fun k_ hk_ => ⟨hk_.2, (Kd.freshB (g := gb181) (o := .cells #[.string (⟨#[]⟩ : ByteArray), .int .i64 0, .int .i64 0, .slice none 0 0, .slice none 0 0] 44 (0, 0)) (bk BK181) k_ hk_.1)⟩)) (below_size be)); have n1_ := Aside0.mk (Kd.R_lower (Kd.R_mono (ok' := fun k_ => True) ho1 (fun _ hk_ => trivial)) (below_size be)); have n2_ := bb BK181 hb; have n3_ := Aside0.mk (below_step be hb); clear BK181; clear HB; have HO189 := n0_; have HO192 := n1_; have BK181 := n2_; have HB := n3_; clear n0_ n1_ n2_ n3_; (try clear hb); (try clear hb2); (try clear hk); (try clear hi); (try clear ho0); (try clear ho1)) | ((with_reducible refine gate_dst (N := 3) rfl ?_); refine Kd.R_lit (Kd.int .i64) _ 3 ?hg (N := 3) ?hd (xs := ([4] : List Int)) (inner := [.int .i64 4]) (ok := fun _ => True) (okp := fun _ => True) ?hr ?hp (fun _ hk => hk) trivial (Below.refl _ _) (Nat.le_refl _) (by simp) ?_; (case hd => rfl); (case hg => rfl); (case hr => first | (go_simp; done) | (go_simp; rfl)); (case hp => exact (Reps.one (show Kd.M (Kd.int .i64) _ _ _ 4 [.int .i64 4] from rfl) (Reps.none _ _))); intro v194 w4 ho5 hb hg_ hnew_; clear hg_ hnew_; (first | rw [← Ny193.out] at ho5 | (simp only [Int.reduceToNat] at ho5; rw [← Ny193.out] at ho5)); have n0_ := Aside0.mk (Kd.N_elder' (by (with_reducible repeat (first | apply Kd.N_alloc | apply Kd.N_drewN | apply Kd.N_drew)); exact HO189.out) (Kd.R_base ho5) hb); have n1_ := Aside0.mk (Kd.R_below (by (with_reducible repeat (first | apply Kd.R_alloc | apply Kd.R_drewN | apply Kd.R_drew)); exact HO192.out) hb); have n2_ := Aside0.mk (Kd.R_lower ho5 (below_size be)); have n3_ := bb BK181 hb; have n4_ := Aside0.mk (below_step be hb); clear HO189; clear HO192; clear BK181; clear HB; have HO189 := n0_; have HO192 := n1_; have HO195 := n2_; have BK181 := n3_; have HB := n4_; clear n0_ n1_ n2_ n3_ n4_; clear hb ho5; obtain ⟨Ao6, co6, eo6⟩ := Kd.R_slice HO195.out; subst eo6; obtain ⟨Ao7, co7, eo7⟩ := Kd.R_slice HO192.out; subst eo7; obtain ⟨hcz8_0, hcz8_1, hcz8_2, hcz8_3, hcz8_4, hfz8_0, hfz8_1, hfz8_2, hfz8_3, hfz8_4⟩ := bc5 BK181))
 refine bodyPost_ret (results_cell_row rfl _ _ gb181 44 #[.string (⟨#[115, 109, 97, 108, 108]⟩ : ByteArray), .int .i64 1, .int .i64 4, .slice Ao7 t190.length co7, .slice Ao6 y193.length co6] (0, 0) _ rfl (bk BK181) Try.underlying44 rfl kx) rfl ?_
 exact ⟨_, _, by first | rfl | (simp [errW_none, errW_some] <;> rfl) | (simp [*, errW_none, errW_some] <;> rfl), by (with_reducible repeat (first | apply Kd.R_alloc | apply Kd.R_drewN | apply Kd.R_drew)); exact Kd.R_mono (Kd.R_far (p := ⟨gb181, 4, none⟩) (Kd.R_far (p := ⟨gb181, 3, none⟩) (Kd.R_far (p := ⟨gb181, 2, none⟩) (Kd.R_far (p := ⟨gb181, 1, none⟩) (Kd.R_far (p := ⟨gb181, 0, none⟩) (Kd.R_types HO192.out BK181.out (by decide)) (fun _ hk => hk.2) (.string (⟨#[115, 109, 97, 108, 108]⟩ : ByteArray))) (fun _ hk => hk.2) (.int .i64 1)) (fun _ hk => hk.2) (.int .i64 4)) (fun _ hk => hk.2) (.slice Ao7 t190.length co7)) (fun _ hk => hk.2) (.slice Ao6 y193.length co6)) (fun _ hk => trivial), by (with_reducible repeat (first | apply Kd.R_alloc | apply Kd.R_drewN | apply Kd.R_drew)); exact Kd.R_mono (Kd.R_far (p := ⟨gb181, 4, none⟩) (Kd.R_far (p := ⟨gb181, 3, none⟩) (Kd.R_far (p := ⟨gb181, 2, none⟩) (Kd.R_far (p := ⟨gb181, 1, none⟩) (Kd.R_far (p := ⟨gb181, 0, none⟩) (Kd.R_types HO195.out BK181.out (by decide)) (fun _ hk => hk.2) (.string (⟨#[115, 109, 97, 108, 108]⟩ : ByteArray))) (fun _ hk => hk.2) (.int .i64 1)) (fun _ hk => hk.2) (.int .i64 4)) (fun _ hk => hk.2) (.slice Ao7 t190.length co7)) (fun _ hk => hk.2) (.slice Ao6 y193.length co6)) (fun _ hk => trivial), be⟩

/-! ### ephemerisref1_In: function 21 -/
def ephemerisref1_In.f (a0 : Int) (a1 : Int) (a2 : Int) : Option (Bool) := if a0 ≥ a1 then (some (decide (a0 ≤ a2))) else (some false)
set_option maxHeartbeats 8000000 in
set_option maxRecDepth 100000 in
theorem ephemerisref1_In.calls (a0 : Int) (a1 : Int) (a2 : Int) (r : Bool) (w : World) (h : ephemerisref1_In.f a0 a1 a2 = some r) :
  Calls Try.prog 21 #[.int .i64 a0, .int .i64 a1, .int .i64 a2] w fun e w' => e = .returned (.bool r) ∧ Drawn0 w w' := by
 have H : (if a0 ≥ a1 then (some (decide (a0 ≤ a2))) else (some false)) = some r := h
 clear h
 by_cases c4 : a0 ≥ a1
 ·rw [if_pos c4] at H
  have c4b0 : decide (a1 ≤ a0) = true := decide_eq_true c4
  clear c4
  obtain rfl := Option.some.inj H
  go_enter Try.func21, Try.ntmps21
  go_wp2
  go_ret
  exact ⟨by first | rfl | (simp; done) | (simp [*]; done), by repeat (first | exact Drawn0.refl _ | apply Drawn0.step)⟩
 ·rw [if_neg c4] at H
  have c4b0 : decide (a1 ≤ a0) = false := decide_eq_false c4
  clear c4
  obtain rfl := Option.some.inj H
  go_enter Try.func21, Try.ntmps21
  go_wp2
  go_ret
  exact ⟨by first | rfl | (simp; done) | (simp [*]; done), by repeat (first | exact Drawn0.refl _ | apply Drawn0.step)⟩

/-! ### ephemerisref1_Day: function 30 -/
def ephemerisref1_Day.f (a0 : Int) : Option (Bool) := (ephemerisref1_In.f a0 (-4000000) 4000000).bind fun t196 => (some t196)
set_option maxHeartbeats 8000000 in
set_option maxRecDepth 100000 in
theorem ephemerisref1_Day.calls (a0 : Int) (r : Bool) (w : World) (h : ephemerisref1_Day.f a0 = some r) :
  Calls Try.prog 30 #[.int .i64 a0] w fun e w' => e = .returned (.bool r) ∧ Drawn0 w w' := by
 have H : ((ephemerisref1_In.f a0 (-4000000) 4000000).bind fun t196 => (some t196)) = some r := h
 clear h
 replace H := Option.bind_eq_some_iff.mp H
 obtain ⟨t196, A20, H⟩ := H
 replace H : (some t196) = some r := H
 have A2 := Aside0.mk A20
 clear A20
 obtain rfl := Option.some.inj H
 go_enter Try.func30, Try.ntmps30
 go_wp2_with (first | ((with_reducible refine gate_callee (f := 21) rfl ?_); refine goesL_ (some 4) rfl rfl Try.func21 kx rfl #[.int .i64 a0, .int .i64 (-4000000), .int .i64 4000000] rfl aa ?_; (with_reducible refine (ephemerisref1_In.calls a0 (-4000000) 4000000 t196 _ A2.out).mono ?_); rintro e w' ⟨rfl, ⟨nd, rfl⟩⟩; refine ⟨_, rfl, ?_⟩))
 go_ret
 exact ⟨by first | rfl | (simp; done) | (simp [*]; done), by repeat (first | exact Drawn0.refl _ | apply Drawn0.step)⟩

/-! ### ephemerisref1_Name: function 36 -/
mutual
def ephemerisref1_Name.j0 : Nat → ByteArray → Bool → Option (Bool)
 | 0, _, _ => none
 | k + 1, x0, x10 => if x10 = true then (some false) else (ephemerisref1_Name.l0 k x0 (x0.size : Int) 0)
def ephemerisref1_Name.l0 : Nat → ByteArray → Int → Int → Option (Bool)
 | 0, _, _, _ => none
 | k + 1, x0, x12, x13 => if x13 < x12 then (if 0 ≤ x13 then (if x13 < (x0.size : Int) then (if (bt x0 x13) < 97 then (some false) else (if (bt x0 x13) > 122 then (some false) else (ephemerisref1_Name.l0 k x0 x12 (wrap64 (x13 + 1))))) else (none)) else (none)) else (if x0.toList = ([121] : List UInt8) then (some false) else (if x0.toList = ([97, 110, 100] : List UInt8) then (some false) else (if x0.toList = ([111, 114] : List UInt8) then (some false) else (some (x0.toList != ([110, 111, 116] : List UInt8))))))
end
def ephemerisref1_Name.f (k : Nat) (a0 : ByteArray) : Option (Bool) := if a0.toList = ([] : List UInt8) then (ephemerisref1_Name.j0 k a0 true) else (ephemerisref1_Name.j0 k a0 (decide ((a0.size : Int) > 12)))
theorem ephemerisref1_Name.mono_l : ∀ k, (∀ y0 y1, LeO (ephemerisref1_Name.j0 k y0 y1) (ephemerisref1_Name.j0 (k + 1) y0 y1)) ∧ (∀ y0 y1 y2, LeO (ephemerisref1_Name.l0 k y0 y1 y2) (ephemerisref1_Name.l0 (k + 1) y0 y1 y2))
 | 0 => ⟨fun _ _ r h => by simp [ephemerisref1_Name.j0] at h, fun _ _ _ r h => by simp [ephemerisref1_Name.l0] at h⟩
 | k + 1 => by
  obtain ⟨ih0, ih1⟩ := ephemerisref1_Name.mono_l k
  refine ⟨?_, ?_⟩
  ·intro y0 y1
   unfold ephemerisref1_Name.j0
   repeat' first
   | (with_reducible exact ih0 _ _)
   | (with_reducible exact ih1 _ _ _)
   | (with_reducible exact LeO.refl _)
   | (with_reducible exact LeO.none _)
   | (with_reducible refine LeO.ite ?_ ?_)
   | (with_reducible refine LeO.bind ?_ (fun _ => ?_))
   | exact ih0 _ _
   | exact ih1 _ _ _
   | exact LeO.none _
   | refine LeO.ite ?_ ?_
   | refine LeO.bind ?_ (fun _ => ?_)
  ·intro y0 y1 y2
   unfold ephemerisref1_Name.l0
   repeat' first
   | (with_reducible exact ih0 _ _)
   | (with_reducible exact ih1 _ _ _)
   | (with_reducible exact LeO.refl _)
   | (with_reducible exact LeO.none _)
   | (with_reducible refine LeO.ite ?_ ?_)
   | (with_reducible refine LeO.bind ?_ (fun _ => ?_))
   | exact ih0 _ _
   | exact ih1 _ _ _
   | exact LeO.none _
   | refine LeO.ite ?_ ?_
   | refine LeO.bind ?_ (fun _ => ?_)
theorem ephemerisref1_Name.mono : ∀ a0 k, LeO (ephemerisref1_Name.f k a0) (ephemerisref1_Name.f (k + 1) a0) := by
 intro a0 k
 obtain ⟨ih0, ih1⟩ := ephemerisref1_Name.mono_l k
 unfold ephemerisref1_Name.f
 repeat' first
   | (with_reducible exact ih0 _ _)
   | (with_reducible exact ih1 _ _ _)
   | (with_reducible exact LeO.refl _)
   | (with_reducible exact LeO.none _)
   | (with_reducible refine LeO.ite ?_ ?_)
   | (with_reducible refine LeO.bind ?_ (fun _ => ?_))
   | exact ih0 _ _
   | exact ih1 _ _ _
   | exact LeO.none _
   | refine LeO.ite ?_ ?_
   | refine LeO.bind ?_ (fun _ => ?_)
set_option maxHeartbeats 8000000 in
set_option maxRecDepth 100000 in
theorem ephemerisref1_Name.calls (k : Nat) (a0 : ByteArray) (r : Bool) (w : World) (h : ephemerisref1_Name.f k a0 = some r) :
  Calls Try.prog 36 #[.string a0] w fun e w' => e = .returned (.bool r) ∧ Drawn0 w w' := by
 have H : (if a0.toList = ([] : List UInt8) then (ephemerisref1_Name.j0 k a0 true) else (ephemerisref1_Name.j0 k a0 (decide ((a0.size : Int) > 12)))) = some r := h
 clear h
 have HC2 := Aside0.mk H
 clear H
 go_enter Try.func36, Try.ntmps36
 go_upto_region 1 with (fail)
 go_cut [10] (fun v10 wc => ∃ (kq : Nat) (x10_1 : Bool), v10 = .bool x10_1 ∧ Aside0 (ephemerisref1_Name.j0 kq a0 x10_1 = some r) ∧ Aside0 (kq ≤ k) ∧ Drawn0 w wc)
 case first =>
  have H := HC2.out
  clear HC2
  by_cases c3 : a0.toList = ([] : List UInt8)
  ·rw [if_pos c3] at H
   have c3b0 : (a0.toList == ([] : List UInt8)) = true := beq_iff_eq.mpr c3
   have c3b1 : (a0.toList != ([] : List UInt8)) = false := bne_eq_false_iff_eq.mpr c3
   clear c3
   (first | rw [c3b0] | (simp only [i64_w, i32_w]; rw [c3b0]) | skip)
   have H' := Aside0.mk H
   clear H
   go_wp2
   go_meet
   case rel => exact ⟨_, (true), rs, H', ⟨by first | omega | exact Nat.le_refl _⟩, by repeat (first | exact Drawn0.refl _ | apply Drawn0.step)⟩
  ·rw [if_neg c3] at H
   have c3b0 : (a0.toList == ([] : List UInt8)) = false := beq_eq_false_iff_ne.mpr c3
   have c3b1 : (a0.toList != ([] : List UInt8)) = true := bne_iff_ne.mpr c3
   (first | rw [c3b0] | (simp only [i64_w, i32_w]; rw [c3b0]) | skip)
   have H' := Aside0.mk H
   clear H
   go_wp2
   go_meet
   case rel => exact ⟨_, (decide ((a0.size : Int) > 12)), rs, H', ⟨by first | omega | exact Nat.le_refl _⟩, by repeat (first | exact Drawn0.refl _ | apply Drawn0.step)⟩
 case rest =>
  clear HC2
  (try clear p2); (try clear c3); (try clear c3b0); (try clear c3b1)
  obtain ⟨kq, x10_1, rfl, HA, HJ1, ⟨mc1, rfl⟩⟩ := hcut
  cases kq with
  | zero => exact absurd HA.out (by simp [ephemerisref1_Name.j0])
  | succ kj1 =>
   have H := HA.out
   clear HA
   simp only [ephemerisref1_Name.j0] at H
   by_cases c4 : x10_1 = true
   ·subst c4
    have H1 : (some false) = some r := by rw [if_pos rfl] at H; exact H
    clear H
    have H := H1
    clear H1
    obtain rfl := Option.some.inj H
    go_wp2
    go_ret
    exact ⟨by first | rfl | (simp; done) | (simp [*]; done), by repeat (first | exact Drawn0.refl _ | apply Drawn0.step)⟩
   ·replace c4 := Bool.eq_false_iff.mpr c4
    subst c4
    have H1 : (ephemerisref1_Name.l0 kj1 a0 (a0.size : Int) 0) = some r := by rw [if_neg (show ¬ (false = true) by decide)] at H; exact H
    clear H
    have H := H1
    clear H1
    have H' := Aside0.mk H
    clear H
    go_wp2
    go_loopg [13] kj1 (fun kq v13 w' => ∃ (x13_2 : Int), v13 = .int .i64 x13_2 ∧ Aside0 (ephemerisref1_Name.l0 kq a0 (a0.size : Int) x13_2 = some r) ∧ Aside0 (kq ≤ kj1) ∧ Drawn0 w w')
    case atStart => exact ⟨(0), rs, H', ⟨Nat.le_refl _⟩, by repeat (first | exact Drawn0.refl _ | apply Drawn0.step)⟩
    case round =>
     clear H'
     (try clear c1); (try clear p2); (try clear c3); (try clear c3b0); (try clear c3b1); (try clear c4); (try clear p2)
     obtain ⟨x13_2, rfl, HA, HK2, ⟨m2, rfl⟩⟩ := hrel
     cases gk with
     | zero => exact absurd HA.out (by simp [ephemerisref1_Name.l0])
     | succ k2 =>
      have H := HA.out
      clear HA
      simp only [ephemerisref1_Name.l0] at H
      by_cases c5 : x13_2 < (a0.size : Int)
      ·rw [if_pos c5] at H
       have c5b0 : decide (x13_2 < (a0.size : Int)) = true := decide_eq_true c5
       clear c5
       by_cases c6 : 0 ≤ x13_2
       ·rw [if_pos c6] at H
        have c6b0 : decide (0 ≤ x13_2) = true := decide_eq_true c6
        clear c6
        by_cases c7 : x13_2 < (a0.size : Int)
        ·rw [if_pos c7] at H
         have c7b0 : decide (x13_2 < (a0.size : Int)) = true := decide_eq_true c7
         clear c7
         by_cases c9 : (bt a0 x13_2) < 97
         ·rw [if_pos c9] at H
          have c9b0 : decide ((bt a0 x13_2) < 97) = true := decide_eq_true c9
          clear c9
          obtain rfl := Option.some.inj H
          have p8 : 0 ≤ (x13_2 : Int) := of_decide_eq_true ka
          have q8 : x13_2 < (a0.size : Int) := of_decide_eq_true ka
          have hx8 := bt_at a0 x13_2
          replace p8 := eq_true p8
          replace q8 := eq_true q8
          go_wp2
          go_ret
          exact ⟨by first | rfl | (simp; done) | (simp [*]; done), by repeat (first | exact Drawn0.refl _ | apply Drawn0.step)⟩
         ·rw [if_neg c9] at H
          have c9b0 : decide ((bt a0 x13_2) < 97) = false := decide_eq_false c9
          clear c9
          by_cases c11 : (bt a0 x13_2) > 122
          ·rw [if_pos c11] at H
           have c11b0 : decide (122 < (bt a0 x13_2)) = true := decide_eq_true c11
           clear c11
           obtain rfl := Option.some.inj H
           have p8 : 0 ≤ (x13_2 : Int) := of_decide_eq_true ka
           have q8 : x13_2 < (a0.size : Int) := of_decide_eq_true ka
           have hx8 := bt_at a0 x13_2
           replace p8 := eq_true p8
           replace q8 := eq_true q8
           have p10 : 0 ≤ (x13_2 : Int) := of_decide_eq_true ka
           have q10 : x13_2 < (a0.size : Int) := of_decide_eq_true ka
           have hx10 := bt_at a0 x13_2
           replace p10 := eq_true p10
           replace q10 := eq_true q10
           go_wp2
           go_ret
           exact ⟨by first | rfl | (simp; done) | (simp [*]; done), by repeat (first | exact Drawn0.refl _ | apply Drawn0.step)⟩
          ·rw [if_neg c11] at H
           have c11b0 : decide (122 < (bt a0 x13_2)) = false := decide_eq_false c11
           clear c11
           have H' := Aside0.mk H
           clear H
           have p8 : 0 ≤ (x13_2 : Int) := of_decide_eq_true ka
           have q8 : x13_2 < (a0.size : Int) := of_decide_eq_true ka
           have hx8 := bt_at a0 x13_2
           replace p8 := eq_true p8
           replace q8 := eq_true q8
           have p10 : 0 ≤ (x13_2 : Int) := of_decide_eq_true ka
           have q10 : x13_2 < (a0.size : Int) := of_decide_eq_true ka
           have hx10 := bt_at a0 x13_2
           replace p10 := eq_true p10
           replace q10 := eq_true q10
           go_wp2
           go_roundg k2
           case measure => have := HJ1.out; have := HK2.out; omega
           case rel => exact ⟨(wrap64 (x13_2 + 1)), rs, H', ⟨by have := HJ1.out; have := HK2.out; omega⟩, by repeat (first | exact Drawn0.refl _ | apply Drawn0.step)⟩
        ·rw [if_neg c7] at H
         exact absurd H (by simp)
       ·rw [if_neg c6] at H
        exact absurd H (by simp)
      ·rw [if_neg c5] at H
       have c5b0 : decide (x13_2 < (a0.size : Int)) = false := decide_eq_false c5
       clear c5
       by_cases c12 : a0.toList = ([121] : List UInt8)
       ·rw [if_pos c12] at H
        have c12b0 : (a0.toList == ([121] : List UInt8)) = true := beq_iff_eq.mpr c12
        have c12b1 : (a0.toList != ([121] : List UInt8)) = false := bne_eq_false_iff_eq.mpr c12
        clear c12
        obtain rfl := Option.some.inj H
        go_wp2
        go_ret
        exact ⟨by first | rfl | (simp; done) | (simp [*]; done), by repeat (first | exact Drawn0.refl _ | apply Drawn0.step)⟩
       ·rw [if_neg c12] at H
        have c12b0 : (a0.toList == ([121] : List UInt8)) = false := beq_eq_false_iff_ne.mpr c12
        have c12b1 : (a0.toList != ([121] : List UInt8)) = true := bne_iff_ne.mpr c12
        by_cases c13 : a0.toList = ([97, 110, 100] : List UInt8)
        ·rw [if_pos c13] at H
         have c13b0 : (a0.toList == ([97, 110, 100] : List UInt8)) = true := beq_iff_eq.mpr c13
         have c13b1 : (a0.toList != ([97, 110, 100] : List UInt8)) = false := bne_eq_false_iff_eq.mpr c13
         clear c13
         obtain rfl := Option.some.inj H
         go_wp2
         go_ret
         exact ⟨by first | rfl | (simp; done) | (simp [*]; done), by repeat (first | exact Drawn0.refl _ | apply Drawn0.step)⟩
        ·rw [if_neg c13] at H
         have c13b0 : (a0.toList == ([97, 110, 100] : List UInt8)) = false := beq_eq_false_iff_ne.mpr c13
         have c13b1 : (a0.toList != ([97, 110, 100] : List UInt8)) = true := bne_iff_ne.mpr c13
         by_cases c14 : a0.toList = ([111, 114] : List UInt8)
         ·rw [if_pos c14] at H
          have c14b0 : (a0.toList == ([111, 114] : List UInt8)) = true := beq_iff_eq.mpr c14
          have c14b1 : (a0.toList != ([111, 114] : List UInt8)) = false := bne_eq_false_iff_eq.mpr c14
          clear c14
          obtain rfl := Option.some.inj H
          go_wp2
          go_ret
          exact ⟨by first | rfl | (simp; done) | (simp [*]; done), by repeat (first | exact Drawn0.refl _ | apply Drawn0.step)⟩
         ·rw [if_neg c14] at H
          have c14b0 : (a0.toList == ([111, 114] : List UInt8)) = false := beq_eq_false_iff_ne.mpr c14
          have c14b1 : (a0.toList != ([111, 114] : List UInt8)) = true := bne_iff_ne.mpr c14
          obtain rfl := Option.some.inj H
          go_wp2
          go_ret
          exact ⟨by first | rfl | (simp; done) | (simp [*]; done), by repeat (first | exact Drawn0.refl _ | apply Drawn0.step)⟩

end Go.Proofs.Ytlfammlboncmeaa.PArithLaters
