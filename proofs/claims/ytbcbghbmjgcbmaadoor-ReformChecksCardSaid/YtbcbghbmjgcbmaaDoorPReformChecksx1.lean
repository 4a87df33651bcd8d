/- The walks of the functions of this part. The proof of rule_Name, catalog_table (in part), strings_Builder_WriteString (the builder), strings_Builder_WriteString, strconv_Itoa, strings_Fields, strings_ReplaceAll, strings_Builder_String (the builder), strings_Builder_String, runtime_PanicNilError_RuntimeError is written by hand; the other ones are as the kit's print tells them. -/
-- The walks of the law's functions, told by a program.
import Derived.Shelf.Strings.BuilderK
import Derived.Shelf.Strings.BuilderK
import Derived.Lib.AppendIntMem
import Derived.Shelf.Strconv.Itoa3
import Derived.Shelf.Strings.BuilderK
import Derived.Shelf.Strings.Replace
import Derived.Shelf.Strings.Fields
import Derived.Test.YtbcbghbmjgcbmaaDoorPReformChecksx0
namespace Go.Proofs.YtbcbghbmjgcbmaaDoor.PReformChecks
open Go.RowKit Go.Proofs.YtbcbghbmjgcbmaaDoorW.PrintWords Go.Proofs.YtbcbghbmjgcbmaaDoorW.PrintLast Go.Proofs.YtbcbghbmjgcbmaaDoorW.PrintMore
attribute [local go_sem] max2_int min2_int max_two min_two max_three min_three max_four min_four   -- for this text's walks alone
set_option linter.unusedVariables false
set_option linter.unusedSimpArgs false

/-! #### Builders -/
/-- A strings.Builder of the text f0 at block g of W, made since w0. -/
def IsS133 (w0 W : World) (g : Nat) (f0 : ByteArray) : Prop := Go.Lib.IsBuilderF 45 5 w0.heap.size g (Go.Lib.byteCells f0.data.toList) W
/-- The builder's block, and the blocks of bytes. -/
def Sb133 (W : World) (g k : Nat) : Prop := k = g ∨ ∃ c fz, W.heap[k]? = some (.cells c 5 fz)
/-- All other blocks are kept. -/
def KeepB133 (W W' : World) (g : Nat) (_row : Option Nat) : Prop := Kept W W' (Sb133 W g)
theorem IsS133.at_kept {B b : Nat} {p : Value} {bs : List Value} {w w' : World} {row : Option Nat} (h : Go.Lib.BuilderAtF 45 5 B b p bs w) (hg : w.grownBy w' row) (hb : some b ≠ row) (hr : ∀ k, row = some k → ¬ ∃ c fz, w.heap[k]? = some (.cells c 5 fz)) : Go.Lib.BuilderAtF 45 5 B b p bs w' := by
  have hlt := h.lt
  obtain ⟨hB, v, hbk, hown, hne⟩ := h
  obtain ⟨_, _, _, _, hgb⟩ := id hg
  refine ⟨hB, v, (hgb b hlt hb).trans hbk, hown.kept hg ?_, hne⟩
  rcases hv : v.ownBlock with _ | k
  · exact .inl rfl
  · right
    intro e
    exact hr k e.symm (Go.Lib.ownsRowF_kind hown k hv)
theorem IsS133.grown {w0 W W1 : World} {g : Nat} {f0 : ByteArray} {row : Option Nat} (h : IsS133 w0 W g f0) (hg : W.grownBy W1 row) (hb : some g ≠ row) (hr : ∀ k, row = some k → ¬ ∃ c fz, W.heap[k]? = some (.cells c 5 fz)) : IsS133 w0 W1 g f0 :=
  Or.elim h (fun q => .inl (IsS133.at_kept q hg hb hr)) (fun q => .inr (IsS133.at_kept q hg hb hr))
theorem IsS133.below {w0 W : World} {g : Nat} {f0 : ByteArray} {W1 : World} (h : IsS133 w0 W g f0) (hw : Below W.heap.size W W1) : IsS133 w0 W1 g f0 :=
  h.grown (row := none) ⟨hw.os, hw.tape, hw.output, hw.size, fun k hk _ => hw.block k hk⟩ (by simp) (fun k e => by cases e)
theorem IsS133.alloc {w0 W : World} {g : Nat} {f0 : ByteArray} (h : IsS133 w0 W g f0) (o : Obj) : IsS133 w0 (W.alloc o) g f0 := h.below (below_alloc (Below.refl _ _) o)
theorem IsS133.drewN {w0 W : World} {g : Nat} {f0 : ByteArray} (h : IsS133 w0 W g f0) (m : Nat) : IsS133 w0 (W.drewN m) g f0 := h
theorem IsS133.drew {w0 W : World} {g : Nat} {f0 : ByteArray} (h : IsS133 w0 W g f0) : IsS133 w0 W.drew g f0 := h
theorem IsS133.at_ {w0 W : World} {g : Nat} {f0 : ByteArray} {w' : World} {m : Nat} (hq : W.drewN m = w') (h : IsS133 w0 W g f0) : IsS133 w0 w' g f0 := by subst hq; exact IsS133.drewN h m
theorem IsS133.lt {w0 W : World} {g : Nat} {f0 : ByteArray} (h : IsS133 w0 W g f0) : g < W.heap.size := Or.elim h Go.Lib.BuilderAtF.lt Go.Lib.BuilderAtF.lt
theorem IsS133.ge {w0 W : World} {g : Nat} {f0 : ByteArray} (h : IsS133 w0 W g f0) : w0.heap.size ≤ g := Or.elim h (fun q => q.1) (fun q => q.1)
theorem IsS133.fresh {w0 W : World} {g : Nat} {f0 : ByteArray} (h : IsS133 w0 W g f0) : ∀ k, W.heap.size ≤ k → k ≠ g := fun k hk e => by have := h.lt; omega
theorem IsS133.blk {w0 W : World} {g : Nat} {f0 : ByteArray} (h : IsS133 w0 W g f0) : ∃ c, W.heap[g]? = some (.cells c 45 (0, 0)) :=
  Or.elim h (fun ⟨_, _, hb, _⟩ => ⟨_, hb⟩) (fun ⟨_, _, hb, _⟩ => ⟨_, hb⟩)
theorem IsS133.ne_blk {w0 W : World} {g : Nat} {f0 : ByteArray} {a : Nat} {cs : Array Value} {t : TypeId} {fr : Nat × Nat} (h : IsS133 w0 W g f0) (hb2 : W.heap[a]? = some (.cells cs t fr)) (ht : t ≠ 45) : g ≠ a := by
  obtain ⟨c, hb⟩ := h.blk
  rintro rfl
  rw [hb] at hb2
  injection hb2 with hb2
  injection hb2 with _ ht2
  exact ht ht2.symm
theorem IsS133.far {w0 W : World} {g : Nat} {f0 : ByteArray} {p : Addr} (h : IsS133 w0 W g f0) (hne : g ≠ p.block) (u : Value) (hO : ∃ t cells fz, W.heap[p.block]? = some (.cells cells t fz) ∧ t ≠ 5) (hp : p.spot = none) : IsS133 w0 (W.setCell p u) g f0 := by
  obtain ⟨b, j, sp⟩ := p
  obtain rfl : sp = none := hp
  obtain ⟨t, cells, fz, hc, ht⟩ := hO
  have hw : W.grownBy (W.setCell ⟨b, j, none⟩ u) (some b) := by
    rw [setCell_eq_setRow W b j cells t fz u hc]
    exact ⟨rfl, rfl, rfl, by simp [World.setRow], fun k _ hk => setRow_other _ _ _ _ (fun he => hk (by rw [he]))⟩
  refine h.grown hw (by simpa using hne) ?_
  intro k e
  obtain rfl := Option.some.inj e
  rintro ⟨c, fz', h'⟩
  rw [hc] at h'
  injection h' with h'
  injection h' with _ h2 _
  exact ht h2
theorem IsS133.new {w0 W : World} {g : Nat} (hB : w0.heap.size ≤ g) (hbk : W.heap[g]? = some (.cells #[.pointer none, .slice none 0 0] 45 (0, 0))) : IsS133 w0 W g ⟨#[]⟩ :=
  .inl ⟨hB, _, hbk, Go.World.ownsRowF_nil _ _ _ _, by simp [Value.ownBlock]⟩
theorem IsS133.no {w0 W : World} {g k : Nat} {f0 : ByteArray} (h : IsS133 w0 W g f0) {q : TypeId} {cells : Array Value} (hc : W.heap[k]? = some (.cells cells q (0, 0))) (hq : q ≠ 45 ∧ q ≠ 5) : ¬ Sb133 W g k := by
  rintro (rfl | ⟨c, fz, h1⟩)
  · obtain ⟨c, hb⟩ := h.blk
    rw [hc] at hb
    injection hb with hb
    injection hb with _ hb _
    exact hq.1 hb
  · rw [hc] at h1
    injection h1 with h1
    injection h1 with _ h1 _
    exact hq.2 h1
theorem IsS133.apart {w0 W : World} {g : Nat} {f0 : ByteArray} {α : Type} {d : Kd α} {e : Nat} {base : Nat} {ok : Nat → Prop} {v : Value} {xs : List α} (h : IsS133 w0 W g f0) (ho : d.R e W base ok v xs) (ht : ∀ q, q ∈ e :: d.E → q ≠ 45 ∧ q ≠ 5) : d.R e W base (fun k => ok k ∧ ¬ Sb133 W g k) v xs :=
  Kd.R_mono (Kd.R_bound ho) (fun k hk => ⟨hk.1, by
    obtain ⟨_, _, _, q, hq, cells', hc⟩ := hk
    exact h.no hc (ht q hq)⟩)
/-- The block of an own row is none of the builder's. -/
theorem IsS133.own_ne {w0 W : World} {g : Nat} {f0 : ByteArray} {α : Type} {d : Kd α} {e : Nat} {base : Nat} {ok : Nat → Prop} {v : Value} {xs : List α} (h : IsS133 w0 W g f0) (ho : d.R e W base ok v xs) (ht : e ≠ 45 ∧ e ≠ 5) : ∀ k, v.ownBlock = some k → ¬ Sb133 W g k := fun k hk => by
  obtain ⟨cells, hc⟩ := Kd.R_typed ho k hk
  exact h.no hc ht
theorem own_blkB133 {W : World} {g n c : Nat} {ad : Addr} (h : ∀ k, (Value.slice (some ad) n c).ownBlock = some k → ¬ Sb133 W g k) : ¬ Sb133 W g ad.block := h _ (by simp [Value.ownBlock])
theorem R_keepB133 {α : Type} {d : Kd α} {e : Nat} {base : Nat} {ok : Nat → Prop} {v : Value} {xs : List α} {w w1 : World} {g : Nat} (h : d.R e w base ok v xs) (hk : KeepB133 w w1 g none) (hok : ∀ k, ok k → ¬ Sb133 w g k) : d.R e w1 base ok v xs := Kd.R_kept h hk hok
theorem KeepB133.refl (w : World) (g : Nat) (row : Option Nat) : KeepB133 w w g row := Kept.refl _ _
theorem KeepB133.of_others {W W' : World} {g : Nat} (hk : Go.Lib.OthersKept 5 (some g) W W') (hs : W.heap.size ≤ W'.heap.size) : KeepB133 W W' g none := ⟨hs, fun i hi hn => by
  obtain ⟨o, ho⟩ : ∃ o, W.heap[i]? = some o := ⟨_, Array.getElem?_eq_getElem hi⟩
  rw [ho]
  exact hk i o ho (fun e => hn (.inl (Option.some.inj e))) (fun c fz e => hn (.inr ⟨c, fz, e ▸ ho⟩))⟩
theorem KeepB133.of_below {w w1 : World} (h : Below w.heap.size w w1) (g : Nat) (row : Option Nat) : KeepB133 w w1 g row := Kept.of_below h _
theorem KeepB133.trans {w w1 w2 : World} {g : Nat} {row row1 : Option Nat} (h : KeepB133 w w1 g row) (k : KeepB133 w1 w2 g row1) (_hr : row1 = row ∨ ∃ b, row1 = some b ∧ w.heap.size ≤ b) : KeepB133 w w2 g row :=
  Kept.then_ h k (fun i hi => by
    rcases Nat.lt_or_ge i w.heap.size with hlt | hge
    · refine .inl ?_
      rcases hi with rfl | ⟨c, fz, hc⟩
      · exact .inl rfl
      · by_cases hs : Sb133 w g i
        · exact hs
        · rw [h.2 i hlt hs] at hc
          exact .inr ⟨c, fz, hc⟩
    · exact .inr hge)
theorem KeepB133.blk {w w1 : World} {g g' : Nat} {row : Option Nat} {o : Obj} (h : KeepB133 w w1 g row) (hb : w.heap[g']? = some o) (hg : g' ≠ g) (hr : ∀ c fz, o ≠ .cells c 5 fz) : w1.heap[g']? = some o :=
  blk_kept hb h (fun hs => hs.elim hg (fun ⟨c, fz, hc⟩ => hr c fz (Option.some.inj (hb.symm.trans hc))))
theorem keep_cellB133 {w W : World} {g : Nat} (h : KeepB133 w W g none) {a : Addr} {v : Value} (hc : w.cell? a = some v) (hne : ¬ Sb133 w g a.block) : W.cell? a = some v := cell_kept hc h hne
theorem keep_drewNB133 {w W : World} {g : Nat} {row : Option Nat} (h : KeepB133 w W g row) (m : Nat) : KeepB133 w (W.drewN m) g row := h
theorem keep_drewB133 {w W : World} {g : Nat} {row : Option Nat} (h : KeepB133 w W g row) : KeepB133 w W.drew g row := h
theorem keep_allocB133 {w W : World} {g : Nat} (h : KeepB133 w W g none) (o : Obj) : KeepB133 w (W.alloc o) g none := Kept.alloc h o

/-! ### ephemerislaw1_change: function 4 -/
def ephemerislaw1_change.f  : Option (ByteArray × (List (S27))) := some ((⟨#[99, 104, 97, 110, 103, 101]⟩ : ByteArray), (([(⟨(-4000000), (⟨#[106, 117, 108, 105, 97, 110]⟩ : ByteArray)⟩ : S27), (⟨577736, (⟨#[103, 114, 101, 103, 111, 114, 105, 97, 110]⟩ : ByteArray)⟩ : S27)] : List (S27))))
set_option maxHeartbeats 8000000 in
set_option maxRecDepth 100000 in
theorem ephemerislaw1_change.calls  (r1 : ByteArray) (r2 : List (S27)) (w : World) (h : ephemerislaw1_change.f  = some (r1, r2)) :
    Calls Tryd.prog 4 #[] w fun e w' => ∃ v1_ : Value, e = .returned (.agg #[.string r1, v1_]) ∧ Kd.R k27 27 w' w.heap.size (fun _ => True) v1_ r2 ∧ Below w.heap.size w w' := by
  have hu24 := Tryd.underlying24
  have hu27 := Tryd.underlying27
  have HB := Aside0.mk (Below.refl w.heap.size w)
  have H : (some ((⟨#[99, 104, 97, 110, 103, 101]⟩ : ByteArray), (([(⟨(-4000000), (⟨#[106, 117, 108, 105, 97, 110]⟩ : ByteArray)⟩ : S27), (⟨577736, (⟨#[103, 114, 101, 103, 111, 114, 105, 97, 110]⟩ : ByteArray)⟩ : S27)] : List (S27))))) = some (r1, r2) := h
  clear h
  obtain ⟨y102, hy102⟩ : ∃ y_ : List (S27), y_ = (([(⟨(-4000000), (⟨#[106, 117, 108, 105, 97, 110]⟩ : ByteArray)⟩ : S27), (⟨577736, (⟨#[103, 114, 101, 103, 111, 114, 105, 97, 110]⟩ : ByteArray)⟩ : S27)] : List (S27))) := ⟨_, rfl⟩
  replace H : (some ((⟨#[99, 104, 97, 110, 103, 101]⟩ : ByteArray), y102)) = some (r1, r2) := by first | (rw [hy102]; with_reducible exact H) | (have H2_ := (Option.bind_some _ _).symm.trans H; rw [hy102]; with_reducible exact H2_) | (have H2_ := (Option.bind_some _ _).symm.trans H; with_reducible exact H2_) | with_reducible exact H | (rw [hy102]; exact H) | exact H
  have Ny102 := Aside0.mk hy102
  clear hy102
  simp only [Option.some.injEq, Prod.mk.injEq] at H
  obtain ⟨rfl, rfl⟩ := H
  go_enter Tryd.func4, Tryd.ntmps4
  go_wp2_with (first | ((with_reducible refine gate_dst (N := 0) rfl ?_); refine box_event ?hg (N := 0) ?hd (cs := #[.string (⟨#[]⟩ : ByteArray), .slice none 0 0]) (t := 24) ?hr ?_; (case hd => rfl); (case hg => rfl); (case hr => first | (go_simp; done) | (go_simp; rfl)); intro gb101 hg w1 hbox hb; have n0_ := Aside0.mk (below_step (by repeat (first | (with_reducible first | exact HB.out | apply below_alloc | apply pw_below_drewN | apply below_drew1) | exact HB.out)) hb); have n1_ := Aside0.mk (hbox); have n2_ := Aside0.mk ((by rw [hg]; exact (below_size (by repeat (first | (with_reducible first | exact HB.out | apply below_alloc | apply pw_below_drewN | apply below_drew1) | exact HB.out))) : w.heap.size ≤ gb101)); have n3_ := Aside0.mk ((by rw [hg]; exact (below_size (by repeat (first | (with_reducible first | exact HB.out | apply below_alloc | apply pw_below_drewN | apply below_drew1) | exact HB.out))) : w.heap.size ≤ gb101)); clear HB; have HB := n0_; have BK101 := n1_; have GW101 := n2_; have GE101 := n3_; clear n0_ n1_ n2_ n3_; clear hb hbox hg) | ((with_reducible refine gate_dst (N := 3) rfl ?_); refine Kd.R_lit k27 _ 27 ?hg (N := 3) ?hd (xs := ([(⟨(-4000000), (⟨#[106, 117, 108, 105, 97, 110]⟩ : ByteArray)⟩ : S27), (⟨577736, (⟨#[103, 114, 101, 103, 111, 114, 105, 97, 110]⟩ : ByteArray)⟩ : S27)] : List (S27))) (inner := [.int .i64 (-4000000), .string (⟨#[106, 117, 108, 105, 97, 110]⟩ : ByteArray), .int .i64 577736, .string (⟨#[103, 114, 101, 103, 111, 114, 105, 97, 110]⟩ : ByteArray)]) (ok := fun _ => True) (okp := fun _ => True) ?hr ?hp (fun _ hk => hk) trivial (Below.refl _ _) (Nat.le_refl _) (by simp) ?_; (case hd => rfl); (case hg => rfl); (case hr => first | (go_simp; done) | (go_simp; rfl)); (case hp => exact (Reps.c2 (show Kd.M k27 _ _ _ (⟨(-4000000), (⟨#[106, 117, 108, 105, 97, 110]⟩ : ByteArray)⟩ : S27) [.int .i64 (-4000000), .string (⟨#[106, 117, 108, 105, 97, 110]⟩ : ByteArray)] from (k27_mkM _ _ _ (⟨(-4000000), (⟨#[106, 117, 108, 105, 97, 110]⟩ : ByteArray)⟩ : S27) )) (Reps.c2 (show Kd.M k27 _ _ _ (⟨577736, (⟨#[103, 114, 101, 103, 111, 114, 105, 97, 110]⟩ : ByteArray)⟩ : S27) [.int .i64 577736, .string (⟨#[103, 114, 101, 103, 111, 114, 105, 97, 110]⟩ : ByteArray)] from (k27_mkM _ _ _ (⟨577736, (⟨#[103, 114, 101, 103, 111, 114, 105, 97, 110]⟩ : ByteArray)⟩ : S27) )) (Reps.none _ _)))); intro v103 w2 ho3 hb hg_ hnew_; clear hg_ hnew_; (first | rw [← Ny102.out] at ho3 | (simp only [Int.reduceToNat] at ho3; rw [← Ny102.out] at ho3)); have n0_ := Aside0.mk (Kd.R_lower ho3 (below_size (by repeat (first | (with_reducible first | exact HB.out | apply below_alloc | apply pw_below_drewN | apply below_drew1 | refine below_set ?_ GE101.out) | exact HB.out)))); have n1_ := Aside0.mk (blk_below (g := gb101) (o := .cells #[.string (⟨#[]⟩ : ByteArray), .slice none 0 0] 24 (0, 0)) (by (with_reducible repeat (first | refine blk_drewN ?_ _ | refine blk_drew ?_ | refine blk_alloc ?_ _)); exact BK101.out) hb); have n2_ := Aside0.mk (below_step (by repeat (first | (with_reducible first | exact HB.out | apply below_alloc | apply pw_below_drewN | apply below_drew1 | refine below_set ?_ GE101.out) | exact HB.out)) hb); clear BK101; clear HB; have HO104 := n0_; have BK101 := n1_; have HB := n2_; clear n0_ n1_ n2_; clear hb ho3; obtain ⟨Ao4, co4, eo4⟩ := Kd.R_slice HO104.out; subst eo4; have hcz5_0 : w2.cell? ⟨gb101, 0, none⟩ = some (.string (⟨#[]⟩ : ByteArray)) := (blk_cell BK101.out 0).trans rfl; have hcz5_1 : w2.cell? ⟨gb101, 1, none⟩ = some (.slice none 0 0) := (blk_cell BK101.out 1).trans rfl; have hfz5_0 := blk_frozen BK101.out 0; have hfz5_1 := blk_frozen BK101.out 1))
  refine bodyPost_ret (results_cell_row rfl _ _ gb101 24 #[.string (⟨#[99, 104, 97, 110, 103, 101]⟩ : ByteArray), .slice Ao4 y102.length co4] (0, 0) _ rfl (by (with_reducible repeat (first | refine blk_drewN ?_ _ | refine blk_drew ?_ | refine blk_alloc ?_ _)); refine blk_put (cs := #[.string (⟨#[99, 104, 97, 110, 103, 101]⟩ : ByteArray), .slice none 0 0]) ?_ 1 _ rfl; (with_reducible repeat (first | refine blk_drewN ?_ _ | refine blk_drew ?_ | refine blk_alloc ?_ _)); refine blk_put (cs := #[.string (⟨#[]⟩ : ByteArray), .slice none 0 0]) ?_ 0 _ rfl; (with_reducible repeat (first | refine blk_drewN ?_ _ | refine blk_drew ?_ | refine blk_alloc ?_ _)); exact BK101.out) Tryd.underlying24 rfl (by kernel_rfl)) rfl ?_
  exact ⟨_, by first | rfl | (simp [errW_none, errW_some] <;> rfl) | (simp [*, errW_none, errW_some] <;> rfl), by (with_reducible repeat (first | apply Kd.R_alloc | apply Kd.R_drewN | apply Kd.R_drew)); exact Kd.R_mono (Kd.R_far (p := ⟨gb101, 1, none⟩) (Kd.R_far (p := ⟨gb101, 0, none⟩) (Kd.R_types HO104.out BK101.out (by decide)) (fun _ hk => hk.2) (.string (⟨#[99, 104, 97, 110, 103, 101]⟩ : ByteArray))) (fun _ hk => hk.2) (.slice Ao4 y102.length co4)) (fun _ hk => trivial), by repeat (first | (with_reducible first | exact HB.out | apply below_alloc | apply pw_below_drewN | apply below_drew1 | refine below_set ?_ GE101.out) | exact HB.out)⟩

/-! ### rule_Name: function 7 -/
/-- All bytes are letters. -/
def rule_Name.all (l : List UInt8) : Bool := l.all fun c => decide (97 ≤ (c.toNat : Int)) && decide ((c.toNat : Int) ≤ 122)
def rule_Name.f (a0 : ByteArray) : Option (Bool) := some (if (a0.size : Int) < 1 then false else if (a0.size : Int) > 12 then false else if a0.toList = ([121] : List UInt8) then false else if a0.toList = ([97, 110, 100] : List UInt8) then false else if a0.toList = ([111, 114] : List UInt8) then false else if a0.toList = ([110, 111, 116] : List UInt8) then false else rule_Name.all a0.data.toList)
theorem rule_Name.below_bytes (w W : World) (e : TypeId) (s : ByteArray) (h : Below w.heap.size w W) : Below w.heap.size w (Go.Lib.bytesWorld W e s) := by
  have hs := h.size
  refine ⟨?_, ?_, ?_, ?_, ?_⟩
  · exact h.os
  · exact h.tape
  · exact h.output
  · rw [Go.Lib.bytesWorld_size]; omega
  · intro j hj
    rw [Go.Lib.bytesWorld_at_old _ _ _ _ (by omega)]
    exact h.block j hj
theorem rule_Name.all_step (s : ByteArray) (n c : Nat) (r : Bool) (hn : n < s.size) (hc : (s.data.toList.getD n 0).toNat = c) (h : rule_Name.all (s.data.toList.drop n) = r) :
    r = (decide (97 ≤ (c : Int)) && decide ((c : Int) ≤ 122) && rule_Name.all (s.data.toList.drop (n + 1))) := by
  have hl : n < s.data.toList.length := by rw [Array.length_toList]; exact hn
  rw [List.drop_eq_getElem_cons hl] at h
  have e : s.data.toList.getD n 0 = s.data.toList[n] := by rw [List.getD_eq_getElem?_getD, List.getElem?_eq_getElem hl]; rfl
  rw [e] at hc
  rw [← h, ← hc]
  simp only [rule_Name.all, List.all_cons]
set_option maxHeartbeats 8000000 in
set_option maxRecDepth 100000 in
theorem rule_Name.late (a0 : ByteArray) (r : Bool) (w : World) (h : Aside0 (rule_Name.all a0.data.toList = r)) (c1 : decide ((a0.size : Int) < 1) = false) (c2 : decide (12 < (a0.size : Int)) = false)
    (c3 : (a0.toList == ([121] : List UInt8)) = false) (c4 : (a0.toList == ([97, 110, 100] : List UInt8)) = false) (c5 : (a0.toList == ([111, 114] : List UInt8)) = false) (c6 : (a0.toList == ([110, 111, 116] : List UInt8)) = false) :
    Calls Tryd.prog 7 #[.string a0] w fun e w' => e = .returned (.bool r) ∧ Below w.heap.size w w' := by
  have hconv := fun (W : World) => Go.Lib.run_convert_string_bytes (P := Tryd.prog) W 9 38 5 a0 Tryd.underlying9 Tryd.underlying38 Tryd.underlying5
  go_enter Tryd.func7, Tryd.ntmps7
  go_wp2
  repeat (go_quiet (fail); try go_wp2)
  go_loopg [32] (a0.size + 1) (fun kq v32 w' => ∃ (n : Nat), v32 = .int .i64 n ∧ Aside0 (n ≤ a0.size) ∧ Aside0 (rule_Name.all (a0.data.toList.drop n) = r) ∧ Aside0 (a0.size - n < kq) ∧ Aside0 (∀ j, j < a0.size → w'.cell? ⟨w.heap.size, j, none⟩ = some (.int .u8 (a0.data.toList.getD j 0).toNat)) ∧ Aside0 (Below w.heap.size w w'))
  case atStart => exact ⟨0, rfl, ⟨Nat.zero_le _⟩, h, ⟨by omega⟩, ⟨fun j hj => Go.Lib.bytesWorld_cell _ _ _ _ hj⟩, ⟨rule_Name.below_bytes _ _ _ _ (Below.refl _ _)⟩⟩
  case round =>
    obtain ⟨n, rfl, hn, ha, hk, hcell, HB⟩ := hrel
    cases gk with
    | zero => exact absurd hk.out (by omega)
    | succ k1 =>
      by_cases hlt : n < a0.size
      · have hx := hcell.out n hlt
        have h0 : decide ((n : Int) < (a0.size : Int)) = true := decide_eq_true (by omega)
        obtain ⟨c, hc⟩ : ∃ c : Nat, (a0.data.toList.getD n 0).toNat = c := ⟨_, rfl⟩
        have hs := rule_Name.all_step a0 n c r hlt hc ha.out
        rw [hc] at hx
        clear ha hc
        have hsz : (a0.size : Int) ≤ 12 := by simpa using c2
        by_cases hA : (c : Int) < 97
        · have d1 : decide ((c : Int) < 97) = true := decide_eq_true hA
          have hr : r = false := by rw [hs, decide_eq_false (by omega)]; rfl
          subst hr
          clear hs hA
          go_wp2
          go_ret
          exact ⟨rfl, HB.out⟩
        · have d1 : decide ((c : Int) < 97) = false := decide_eq_false hA
          by_cases hZ : (c : Int) > 122
          · have d2 : decide (122 < (c : Int)) = true := decide_eq_true hZ
            have hr : r = false := by rw [hs, decide_eq_false (show ¬ (c : Int) ≤ 122 by omega)]; simp
            subst hr
            clear hs hA hZ
            go_wp2
            go_ret
            exact ⟨rfl, HB.out⟩
          · have d2 : decide (122 < (c : Int)) = false := decide_eq_false hZ
            have hr : Aside0 (rule_Name.all (a0.data.toList.drop (n + 1)) = r) := ⟨by rw [hs, decide_eq_true (show 97 ≤ (c : Int) by omega), decide_eq_true (show (c : Int) ≤ 122 by omega)]; rfl⟩
            clear hs hA hZ
            go_wp2
            go_roundg k1
            case measure => omega
            case rel => exact ⟨n + 1, by go_num, ⟨by omega⟩, hr, ⟨by have := hk.out; omega⟩, hcell, HB⟩
      · have h0 : decide ((n : Int) < (a0.size : Int)) = false := decide_eq_false (by omega)
        have hr : r = true := by
          have := ha.out
          rw [List.drop_of_length_le (by rw [Array.length_toList]; exact Nat.le_of_not_lt hlt)] at this
          exact this.symm
        subst hr
        go_wp2
        go_ret
        exact ⟨rfl, HB.out⟩
set_option maxHeartbeats 8000000 in
set_option maxRecDepth 100000 in
theorem rule_Name.calls (a0 : ByteArray) (r : Bool) (w : World) (h : rule_Name.f a0 = some r) :
    Calls Tryd.prog 7 #[.string a0] w fun e w' => e = .returned (.bool r) ∧ Below w.heap.size w w' := by
  unfold rule_Name.f at h
  replace h := Option.some.inj h
  by_cases c1 : (a0.size : Int) < 1
  · rw [if_pos c1] at h
    subst h
    have c1b : decide ((a0.size : Int) < 1) = true := decide_eq_true c1
    clear c1
    go_enter Tryd.func7, Tryd.ntmps7
    go_wp2
    repeat (go_quiet (fail); try go_wp2)
    go_ret
    exact ⟨rfl, by repeat (first | exact Below.refl _ _ | apply pw_below_drewN)⟩
  rw [if_neg c1] at h
  have c1b : decide ((a0.size : Int) < 1) = false := decide_eq_false c1
  clear c1
  by_cases c2 : (a0.size : Int) > 12
  · rw [if_pos c2] at h
    subst h
    have c2b : decide (12 < (a0.size : Int)) = true := decide_eq_true c2
    clear c2
    go_enter Tryd.func7, Tryd.ntmps7
    go_wp2
    repeat (go_quiet (fail); try go_wp2)
    go_ret
    exact ⟨rfl, by repeat (first | exact Below.refl _ _ | apply pw_below_drewN)⟩
  rw [if_neg c2] at h
  have c2b : decide (12 < (a0.size : Int)) = false := decide_eq_false c2
  clear c2
  by_cases c3 : a0.toList = ([121] : List UInt8)
  · rw [if_pos c3] at h
    subst h
    have c3b : (a0.toList == ([121] : List UInt8)) = true := beq_iff_eq.mpr c3
    clear c3
    go_enter Tryd.func7, Tryd.ntmps7
    go_wp2
    repeat (go_quiet (fail); try go_wp2)
    go_ret
    exact ⟨rfl, by repeat (first | exact Below.refl _ _ | apply pw_below_drewN)⟩
  rw [if_neg c3] at h
  have c3b : (a0.toList == ([121] : List UInt8)) = false := beq_eq_false_iff_ne.mpr c3
  clear c3
  by_cases c4 : a0.toList = ([97, 110, 100] : List UInt8)
  · rw [if_pos c4] at h
    subst h
    have c4b : (a0.toList == ([97, 110, 100] : List UInt8)) = true := beq_iff_eq.mpr c4
    clear c4
    go_enter Tryd.func7, Tryd.ntmps7
    go_wp2
    repeat (go_quiet (fail); try go_wp2)
    go_ret
    exact ⟨rfl, by repeat (first | exact Below.refl _ _ | apply pw_below_drewN)⟩
  rw [if_neg c4] at h
  have c4b : (a0.toList == ([97, 110, 100] : List UInt8)) = false := beq_eq_false_iff_ne.mpr c4
  clear c4
  by_cases c5 : a0.toList = ([111, 114] : List UInt8)
  · rw [if_pos c5] at h
    subst h
    have c5b : (a0.toList == ([111, 114] : List UInt8)) = true := beq_iff_eq.mpr c5
    clear c5
    go_enter Tryd.func7, Tryd.ntmps7
    go_wp2
    repeat (go_quiet (fail); try go_wp2)
    go_ret
    exact ⟨rfl, by repeat (first | exact Below.refl _ _ | apply pw_below_drewN)⟩
  rw [if_neg c5] at h
  have c5b : (a0.toList == ([111, 114] : List UInt8)) = false := beq_eq_false_iff_ne.mpr c5
  clear c5
  by_cases c6 : a0.toList = ([110, 111, 116] : List UInt8)
  · rw [if_pos c6] at h
    subst h
    have c6b : (a0.toList == ([110, 111, 116] : List UInt8)) = true := beq_iff_eq.mpr c6
    clear c6
    go_enter Tryd.func7, Tryd.ntmps7
    go_wp2
    repeat (go_quiet (fail); try go_wp2)
    go_ret
    exact ⟨rfl, by repeat (first | exact Below.refl _ _ | apply pw_below_drewN)⟩
  rw [if_neg c6] at h
  have c6b : (a0.toList == ([110, 111, 116] : List UInt8)) = false := beq_eq_false_iff_ne.mpr c6
  clear c6
  exact rule_Name.late a0 r w ⟨h⟩ c1b c2b c3b c4b c5b c6b

/-! ### line_Check: function 8 -/
def line_Check.f (a0 : Int) : Option (Int) := if a0 < (-4000000) then (some 3) else (if a0 > 4000000 then (some 3) else (some 0))
set_option maxHeartbeats 8000000 in
set_option maxRecDepth 100000 in
theorem line_Check.calls (a0 : Int) (r : Int) (w : World) (h : line_Check.f a0 = some r) :
    Calls Tryd.prog 8 #[.int .i64 a0] w fun e w' => e = .returned (.int .i64 r) ∧ Drawn0 w w' := by
  have H : (if a0 < (-4000000) then (some 3) else (if a0 > 4000000 then (some 3) else (some 0))) = some r := h
  clear h
  by_cases c2 : a0 < (-4000000)
  · rw [if_pos c2] at H
    have c2b0 : decide (a0 < (-4000000)) = true := decide_eq_true c2
    clear c2
    obtain rfl := Option.some.inj H
    go_enter Tryd.func8, Tryd.ntmps8
    go_wp2
    go_ret
    exact ⟨by first | rfl | (simp; done) | (simp [*]; done), by repeat (first | exact Drawn0.refl _ | apply Drawn0.step)⟩
  · rw [if_neg c2] at H
    have c2b0 : decide (a0 < (-4000000)) = false := decide_eq_false c2
    clear c2
    by_cases c3 : a0 > 4000000
    · rw [if_pos c3] at H
      have c3b0 : decide (4000000 < a0) = true := decide_eq_true c3
      clear c3
      obtain rfl := Option.some.inj H
      go_enter Tryd.func8, Tryd.ntmps8
      go_wp2
      go_ret
      exact ⟨by first | rfl | (simp; done) | (simp [*]; done), by repeat (first | exact Drawn0.refl _ | apply Drawn0.step)⟩
    · rw [if_neg c3] at H
      have c3b0 : decide (4000000 < a0) = false := decide_eq_false c3
      clear c3
      obtain rfl := Option.some.inj H
      go_enter Tryd.func8, Tryd.ntmps8
      go_wp2
      go_ret
      exact ⟨by first | rfl | (simp; done) | (simp [*]; done), by repeat (first | exact Drawn0.refl _ | apply Drawn0.step)⟩

/-! ### catalog_table: function 14 -/
def catalog_table.f  : Option ((List (S42))) := some (([(⟨(⟨#[103, 114, 101, 103, 111, 114, 105, 97, 110]⟩ : ByteArray), 1, 400, (⟨#[121, 32, 37, 32, 52, 32, 61, 32, 48, 32, 97, 110, 100, 32, 40, 110, 111, 116, 32, 121, 32, 37, 32, 49, 48, 48, 32, 61, 32, 48, 32, 111, 114, 32, 121, 32, 37, 32, 52, 48, 48, 32, 61, 32, 48, 41]⟩ : ByteArray), 65⟩ : S42), (⟨(⟨#[106, 117, 108, 105, 97, 110]⟩ : ByteArray), (-1), 4, (⟨#[121, 32, 37, 32, 52, 32, 61, 32, 48]⟩ : ByteArray), 65⟩ : S42), (⟨(⟨#[114, 101, 118, 105, 115, 101, 100]⟩ : ByteArray), 1, 900, (⟨#[121, 32, 37, 32, 52, 32, 61, 32, 48, 32, 97, 110, 100, 32, 110, 111, 116, 32, 121, 32, 37, 32, 49, 48, 48, 32, 61, 32, 48, 32, 111, 114, 32, 121, 32, 37, 32, 57, 48, 48, 32, 61, 32, 50, 48, 48, 32, 111, 114, 32, 121, 32, 37, 32, 57, 48, 48, 32, 61, 32, 54, 48, 48]⟩ : ByteArray), 65⟩ : S42), (⟨(⟨#[113, 117, 97, 116, 101, 114, 110]⟩ : ByteArray), 1, 128, (⟨#[121, 32, 37, 32, 52, 32, 61, 32, 48, 32, 97, 110, 100, 32, 110, 111, 116, 32, 121, 32, 37, 32, 49, 50, 56, 32, 61, 32, 48]⟩ : ByteArray), 65⟩ : S42), (⟨(⟨#[99, 111, 112, 116, 105, 99]⟩ : ByteArray), 103605, 4, (⟨#[121, 32, 37, 32, 52, 32, 61, 32, 51]⟩ : ByteArray), 66⟩ : S42), (⟨(⟨#[101, 116, 104, 105, 111, 112, 105, 99]⟩ : ByteArray), 2796, 4, (⟨#[121, 32, 37, 32, 52, 32, 61, 32, 51]⟩ : ByteArray), 66⟩ : S42), (⟨(⟨#[101, 103, 121, 112, 116, 105, 97, 110]⟩ : ByteArray), (-272787), 1, (⟨#[48]⟩ : ByteArray), 73⟩ : S42), (⟨(⟨#[97, 114, 109, 101, 110, 105, 97, 110]⟩ : ByteArray), 201443, 1, (⟨#[48]⟩ : ByteArray), 73⟩ : S42), (⟨(⟨#[122, 111, 114, 111, 97, 115, 116, 101, 114]⟩ : ByteArray), 230638, 1, (⟨#[48]⟩ : ByteArray), 73⟩ : S42), (⟨(⟨#[116, 97, 98, 117, 108, 97, 114, 97]⟩ : ByteArray), 227015, 30, (⟨#[40, 49, 49, 32, 42, 32, 121, 32, 43, 32, 49, 52, 41, 32, 37, 32, 51, 48, 32, 60, 32, 49, 49]⟩ : ByteArray), 67⟩ : S42), (⟨(⟨#[116, 97, 98, 117, 108, 97, 114, 98]⟩ : ByteArray), 227014, 30, (⟨#[40, 49, 49, 32, 42, 32, 121, 32, 43, 32, 49, 52, 41, 32, 37, 32, 51, 48, 32, 60, 32, 49, 49]⟩ : ByteArray), 67⟩ : S42), (⟨(⟨#[116, 97, 98, 117, 108, 97, 114, 99]⟩ : ByteArray), 227015, 30, (⟨#[40, 49, 49, 32, 42, 32, 121, 32, 43, 32, 49, 53, 41, 32, 37, 32, 51, 48, 32, 60, 32, 49, 49]⟩ : ByteArray), 67⟩ : S42), (⟨(⟨#[116, 97, 98, 117, 108, 97, 114, 100]⟩ : ByteArray), 227014, 30, (⟨#[40, 49, 49, 32, 42, 32, 121, 32, 43, 32, 49, 53, 41, 32, 37, 32, 51, 48, 32, 60, 32, 49, 49]⟩ : ByteArray), 67⟩ : S42), (⟨(⟨#[116, 97, 98, 117, 108, 97, 114, 101]⟩ : ByteArray), 227015, 30, (⟨#[40, 49, 49, 32, 42, 32, 121, 32, 43, 32, 57, 41, 32, 37, 32, 51, 48, 32, 60, 32, 49, 49]⟩ : ByteArray), 67⟩ : S42), (⟨(⟨#[116, 97, 98, 117, 108, 97, 114, 102]⟩ : ByteArray), 227015, 8, (⟨#[121, 32, 37, 32, 56, 32, 61, 32, 50, 32, 111, 114, 32, 121, 32, 37, 32, 56, 32, 61, 32, 53, 32, 111, 114, 32, 121, 32, 37, 32, 56, 32, 61, 32, 55]⟩ : ByteArray), 67⟩ : S42), (⟨(⟨#[112, 101, 114, 115, 105, 97, 110]⟩ : ByteArray), 226896, 33, (⟨#[40, 56, 32, 42, 32, 121, 32, 43, 32, 50, 49, 41, 32, 37, 32, 51, 51, 32, 60, 32, 56]⟩ : ByteArray), 68⟩ : S42), (⟨(⟨#[112, 101, 114, 115, 105, 97, 110, 108, 111, 110, 103]⟩ : ByteArray), 226896, 2820, (⟨#[40, 40, 121, 32, 45, 32, 52, 55, 52, 41, 32, 37, 32, 50, 56, 50, 48, 32, 43, 32, 53, 49, 50, 41, 32, 42, 32, 54, 56, 50, 32, 37, 32, 50, 56, 49, 54, 32, 60, 32, 54, 56, 50]⟩ : ByteArray), 68⟩ : S42), (⟨(⟨#[105, 110, 100, 105, 97, 110]⟩ : ByteArray), 28570, 400, (⟨#[40, 121, 32, 43, 32, 55, 56, 41, 32, 37, 32, 52, 32, 61, 32, 48, 32, 97, 110, 100, 32, 40, 110, 111, 116, 32, 40, 121, 32, 43, 32, 55, 56, 41, 32, 37, 32, 49, 48, 48, 32, 61, 32, 48, 32, 111, 114, 32, 40, 121, 32, 43, 32, 55, 56, 41, 32, 37, 32, 52, 48, 48, 32, 61, 32, 48, 41]⟩ : ByteArray), 69⟩ : S42), (⟨(⟨#[98, 97, 100, 105]⟩ : ByteArray), 673222, 400, (⟨#[40, 121, 32, 43, 32, 49, 56, 52, 52, 41, 32, 37, 32, 52, 32, 61, 32, 48, 32, 97, 110, 100, 32, 40, 110, 111, 116, 32, 40, 121, 32, 43, 32, 49, 56, 52, 52, 41, 32, 37, 32, 49, 48, 48, 32, 61, 32, 48, 32, 111, 114, 32, 40, 121, 32, 43, 32, 49, 56, 52, 52, 41, 32, 37, 32, 52, 48, 48, 32, 61, 32, 48, 41]⟩ : ByteArray), 70⟩ : S42), (⟨(⟨#[114, 101, 112, 117, 98, 108, 105, 99]⟩ : ByteArray), 654415, 400, (⟨#[121, 32, 37, 32, 52, 32, 61, 32, 48, 32, 97, 110, 100, 32, 40, 110, 111, 116, 32, 121, 32, 37, 32, 49, 48, 48, 32, 61, 32, 48, 32, 111, 114, 32, 121, 32, 37, 32, 52, 48, 48, 32, 61, 32, 48, 41]⟩ : ByteArray), 66⟩ : S42), (⟨(⟨#[114, 101, 112, 117, 98, 108, 105, 99, 111, 108, 100]⟩ : ByteArray), 654415, 4, (⟨#[121, 32, 37, 32, 52, 32, 61, 32, 51]⟩ : ByteArray), 66⟩ : S42), (⟨(⟨#[104, 97, 97, 98]⟩ : ByteArray), (-1137490), 1, (⟨#[48]⟩ : ByteArray), 74⟩ : S42), (⟨(⟨#[116, 117, 110]⟩ : ByteArray), (-1137142), 1, (⟨#[48]⟩ : ByteArray), 75⟩ : S42), (⟨(⟨#[116, 122, 111, 108, 107, 105, 110]⟩ : ByteArray), (-1137301), 1, (⟨#[48]⟩ : ByteArray), 76⟩ : S42), (⟨(⟨#[119, 101, 101, 107, 121, 101, 97, 114]⟩ : ByteArray), 1, 293, (⟨#[40, 53, 50, 32, 42, 32, 121, 32, 43, 32, 49, 54, 54, 41, 32, 37, 32, 50, 57, 51, 32, 60, 32, 53, 50]⟩ : ByteArray), 71⟩ : S42), (⟨(⟨#[102, 105, 120, 101, 100, 121, 101, 97, 114]⟩ : ByteArray), 1, 400, (⟨#[121, 32, 37, 32, 52, 32, 61, 32, 48, 32, 97, 110, 100, 32, 40, 110, 111, 116, 32, 121, 32, 37, 32, 49, 48, 48, 32, 61, 32, 48, 32, 111, 114, 32, 121, 32, 37, 32, 52, 48, 48, 32, 61, 32, 48, 41]⟩ : ByteArray), 72⟩ : S42), (⟨(⟨#[112, 111, 115, 105, 116, 105, 118, 101]⟩ : ByteArray), 653055, 400, (⟨#[40, 121, 32, 43, 32, 49, 55, 56, 56, 41, 32, 37, 32, 52, 32, 61, 32, 48, 32, 97, 110, 100, 32, 40, 110, 111, 116, 32, 40, 121, 32, 43, 32, 49, 55, 56, 56, 41, 32, 37, 32, 49, 48, 48, 32, 61, 32, 48, 32, 111, 114, 32, 40, 121, 32, 43, 32, 49, 55, 56, 56, 41, 32, 37, 32, 52, 48, 48, 32, 61, 32, 48, 41]⟩ : ByteArray), 72⟩ : S42), (⟨(⟨#[115, 101, 97, 115, 111, 110, 115]⟩ : ByteArray), 1, 400, (⟨#[121, 32, 37, 32, 52, 32, 61, 32, 48, 32, 97, 110, 100, 32, 40, 110, 111, 116, 32, 121, 32, 37, 32, 49, 48, 48, 32, 61, 32, 48, 32, 111, 114, 32, 121, 32, 37, 32, 52, 48, 48, 32, 61, 32, 48, 41]⟩ : ByteArray), 78⟩ : S42), (⟨(⟨#[109, 97, 114, 99, 104, 111, 108, 100]⟩ : ByteArray), 58, 4, (⟨#[121, 32, 37, 32, 52, 32, 61, 32, 51]⟩ : ByteArray), 79⟩ : S42), (⟨(⟨#[109, 97, 114, 99, 104, 110, 101, 119]⟩ : ByteArray), 60, 400, (⟨#[40, 121, 32, 43, 32, 49, 41, 32, 37, 32, 52, 32, 61, 32, 48, 32, 97, 110, 100, 32, 40, 110, 111, 116, 32, 40, 121, 32, 43, 32, 49, 41, 32, 37, 32, 49, 48, 48, 32, 61, 32, 48, 32, 111, 114, 32, 40, 121, 32, 43, 32, 49, 41, 32, 37, 32, 52, 48, 48, 32, 61, 32, 48, 41]⟩ : ByteArray), 79⟩ : S42), (⟨(⟨#[98, 121, 122, 97, 110, 116, 105, 110, 101]⟩ : ByteArray), (-2011920), 4, (⟨#[121, 32, 37, 32, 52, 32, 61, 32, 48]⟩ : ByteArray), 82⟩ : S42), (⟨(⟨#[115, 121, 114, 105, 97, 110]⟩ : ByteArray), (-113686), 4, (⟨#[121, 32, 37, 32, 52, 32, 61, 32, 51]⟩ : ByteArray), 83⟩ : S42), (⟨(⟨#[111, 108, 121, 109, 112, 105, 99]⟩ : ByteArray), (-283000), 8, (⟨#[121, 32, 37, 32, 56, 32, 61, 32, 51, 32, 111, 114, 32, 121, 32, 37, 32, 56, 32, 61, 32, 53, 32, 111, 114, 32, 121, 32, 37, 32, 56, 32, 61, 32, 48]⟩ : ByteArray), 80⟩ : S42), (⟨(⟨#[109, 101, 116, 111, 110, 105, 99]⟩ : ByteArray), (-1373429), 19, (⟨#[40, 55, 32, 42, 32, 121, 32, 43, 32, 49, 41, 32, 37, 32, 49, 57, 32, 60, 32, 55]⟩ : ByteArray), 80⟩ : S42), (⟨(⟨#[109, 101, 116, 111, 110, 105, 99, 98]⟩ : ByteArray), (-272000), 19, (⟨#[40, 55, 32, 42, 32, 121, 32, 43, 32, 53, 41, 32, 37, 32, 49, 57, 32, 60, 32, 55]⟩ : ByteArray), 80⟩ : S42), (⟨(⟨#[108, 101, 97, 112, 104, 101, 97, 100]⟩ : ByteArray), 1, 4, (⟨#[121, 32, 37, 32, 52, 32, 61, 32, 48]⟩ : ByteArray), 81⟩ : S42), (⟨(⟨#[100, 101, 99, 105, 109, 97, 108]⟩ : ByteArray), 1, 400, (⟨#[121, 32, 37, 32, 52, 32, 61, 32, 48, 32, 97, 110, 100, 32, 40, 110, 111, 116, 32, 121, 32, 37, 32, 49, 48, 48, 32, 61, 32, 48, 32, 111, 114, 32, 121, 32, 37, 32, 52, 48, 48, 32, 61, 32, 48, 41]⟩ : ByteArray), 84⟩ : S42), (⟨(⟨#[119, 105, 110, 116, 101, 114]⟩ : ByteArray), (-272000), 4, (⟨#[121, 32, 37, 32, 52, 32, 61, 32, 48]⟩ : ByteArray), 77⟩ : S42), (⟨(⟨#[97, 108, 119, 97, 121, 115]⟩ : ByteArray), 1, 1, (⟨#[49]⟩ : ByteArray), 65⟩ : S42), (⟨(⟨#[110, 101, 118, 101, 114]⟩ : ByteArray), 1, 1, (⟨#[48]⟩ : ByteArray), 65⟩ : S42)] : List (S42)))
set_option maxHeartbeats 8000000 in
set_option maxRecDepth 100000 in
theorem catalog_table.calls  (r : List (S42)) (w : World) (h : catalog_table.f  = some r) :
    Calls Tryd.prog 14 #[] w fun e w' => ∃ v0_ : Value, e = .returned (v0_) ∧ Kd.R k42 42 w' w.heap.size (fun _ => True) v0_ r ∧ Below w.heap.size w w' := by
  have hu42 := Tryd.underlying42
  have HB := Aside0.mk (Below.refl w.heap.size w)
  have H : (some (([(⟨(⟨#[103, 114, 101, 103, 111, 114, 105, 97, 110]⟩ : ByteArray), 1, 400, (⟨#[121, 32, 37, 32, 52, 32, 61, 32, 48, 32, 97, 110, 100, 32, 40, 110, 111, 116, 32, 121, 32, 37, 32, 49, 48, 48, 32, 61, 32, 48, 32, 111, 114, 32, 121, 32, 37, 32, 52, 48, 48, 32, 61, 32, 48, 41]⟩ : ByteArray), 65⟩ : S42), (⟨(⟨#[106, 117, 108, 105, 97, 110]⟩ : ByteArray), (-1), 4, (⟨#[121, 32, 37, 32, 52, 32, 61, 32, 48]⟩ : ByteArray), 65⟩ : S42), (⟨(⟨#[114, 101, 118, 105, 115, 101, 100]⟩ : ByteArray), 1, 900, (⟨#[121, 32, 37, 32, 52, 32, 61, 32, 48, 32, 97, 110, 100, 32, 110, 111, 116, 32, 121, 32, 37, 32, 49, 48, 48, 32, 61, 32, 48, 32, 111, 114, 32, 121, 32, 37, 32, 57, 48, 48, 32, 61, 32, 50, 48, 48, 32, 111, 114, 32, 121, 32, 37, 32, 57, 48, 48, 32, 61, 32, 54, 48, 48]⟩ : ByteArray), 65⟩ : S42), (⟨(⟨#[113, 117, 97, 116, 101, 114, 110]⟩ : ByteArray), 1, 128, (⟨#[121, 32, 37, 32, 52, 32, 61, 32, 48, 32, 97, 110, 100, 32, 110, 111, 116, 32, 121, 32, 37, 32, 49, 50, 56, 32, 61, 32, 48]⟩ : ByteArray), 65⟩ : S42), (⟨(⟨#[99, 111, 112, 116, 105, 99]⟩ : ByteArray), 103605, 4, (⟨#[121, 32, 37, 32, 52, 32, 61, 32, 51]⟩ : ByteArray), 66⟩ : S42), (⟨(⟨#[101, 116, 104, 105, 111, 112, 105, 99]⟩ : ByteArray), 2796, 4, (⟨#[121, 32, 37, 32, 52, 32, 61, 32, 51]⟩ : ByteArray), 66⟩ : S42), (⟨(⟨#[101, 103, 121, 112, 116, 105, 97, 110]⟩ : ByteArray), (-272787), 1, (⟨#[48]⟩ : ByteArray), 73⟩ : S42), (⟨(⟨#[97, 114, 109, 101, 110, 105, 97, 110]⟩ : ByteArray), 201443, 1, (⟨#[48]⟩ : ByteArray), 73⟩ : S42), (⟨(⟨#[122, 111, 114, 111, 97, 115, 116, 101, 114]⟩ : ByteArray), 230638, 1, (⟨#[48]⟩ : ByteArray), 73⟩ : S42), (⟨(⟨#[116, 97, 98, 117, 108, 97, 114, 97]⟩ : ByteArray), 227015, 30, (⟨#[40, 49, 49, 32, 42, 32, 121, 32, 43, 32, 49, 52, 41, 32, 37, 32, 51, 48, 32, 60, 32, 49, 49]⟩ : ByteArray), 67⟩ : S42), (⟨(⟨#[116, 97, 98, 117, 108, 97, 114, 98]⟩ : ByteArray), 227014, 30, (⟨#[40, 49, 49, 32, 42, 32, 121, 32, 43, 32, 49, 52, 41, 32, 37, 32, 51, 48, 32, 60, 32, 49, 49]⟩ : ByteArray), 67⟩ : S42), (⟨(⟨#[116, 97, 98, 117, 108, 97, 114, 99]⟩ : ByteArray), 227015, 30, (⟨#[40, 49, 49, 32, 42, 32, 121, 32, 43, 32, 49, 53, 41, 32, 37, 32, 51, 48, 32, 60, 32, 49, 49]⟩ : ByteArray), 67⟩ : S42), (⟨(⟨#[116, 97, 98, 117, 108, 97, 114, 100]⟩ : ByteArray), 227014, 30, (⟨#[40, 49, 49, 32, 42, 32, 121, 32, 43, 32, 49, 53, 41, 32, 37, 32, 51, 48, 32, 60, 32, 49, 49]⟩ : ByteArray), 67⟩ : S42), (⟨(⟨#[116, 97, 98, 117, 108, 97, 114, 101]⟩ : ByteArray), 227015, 30, (⟨#[40, 49, 49, 32, 42, 32, 121, 32, 43, 32, 57, 41, 32, 37, 32, 51, 48, 32, 60, 32, 49, 49]⟩ : ByteArray), 67⟩ : S42), (⟨(⟨#[116, 97, 98, 117, 108, 97, 114, 102]⟩ : ByteArray), 227015, 8, (⟨#[121, 32, 37, 32, 56, 32, 61, 32, 50, 32, 111, 114, 32, 121, 32, 37, 32, 56, 32, 61, 32, 53, 32, 111, 114, 32, 121, 32, 37, 32, 56, 32, 61, 32, 55]⟩ : ByteArray), 67⟩ : S42), (⟨(⟨#[112, 101, 114, 115, 105, 97, 110]⟩ : ByteArray), 226896, 33, (⟨#[40, 56, 32, 42, 32, 121, 32, 43, 32, 50, 49, 41, 32, 37, 32, 51, 51, 32, 60, 32, 56]⟩ : ByteArray), 68⟩ : S42), (⟨(⟨#[112, 101, 114, 115, 105, 97, 110, 108, 111, 110, 103]⟩ : ByteArray), 226896, 2820, (⟨#[40, 40, 121, 32, 45, 32, 52, 55, 52, 41, 32, 37, 32, 50, 56, 50, 48, 32, 43, 32, 53, 49, 50, 41, 32, 42, 32, 54, 56, 50, 32, 37, 32, 50, 56, 49, 54, 32, 60, 32, 54, 56, 50]⟩ : ByteArray), 68⟩ : S42), (⟨(⟨#[105, 110, 100, 105, 97, 110]⟩ : ByteArray), 28570, 400, (⟨#[40, 121, 32, 43, 32, 55, 56, 41, 32, 37, 32, 52, 32, 61, 32, 48, 32, 97, 110, 100, 32, 40, 110, 111, 116, 32, 40, 121, 32, 43, 32, 55, 56, 41, 32, 37, 32, 49, 48, 48, 32, 61, 32, 48, 32, 111, 114, 32, 40, 121, 32, 43, 32, 55, 56, 41, 32, 37, 32, 52, 48, 48, 32, 61, 32, 48, 41]⟩ : ByteArray), 69⟩ : S42), (⟨(⟨#[98, 97, 100, 105]⟩ : ByteArray), 673222, 400, (⟨#[40, 121, 32, 43, 32, 49, 56, 52, 52, 41, 32, 37, 32, 52, 32, 61, 32, 48, 32, 97, 110, 100, 32, 40, 110, 111, 116, 32, 40, 121, 32, 43, 32, 49, 56, 52, 52, 41, 32, 37, 32, 49, 48, 48, 32, 61, 32, 48, 32, 111, 114, 32, 40, 121, 32, 43, 32, 49, 56, 52, 52, 41, 32, 37, 32, 52, 48, 48, 32, 61, 32, 48, 41]⟩ : ByteArray), 70⟩ : S42), (⟨(⟨#[114, 101, 112, 117, 98, 108, 105, 99]⟩ : ByteArray), 654415, 400, (⟨#[121, 32, 37, 32, 52, 32, 61, 32, 48, 32, 97, 110, 100, 32, 40, 110, 111, 116, 32, 121, 32, 37, 32, 49, 48, 48, 32, 61, 32, 48, 32, 111, 114, 32, 121, 32, 37, 32, 52, 48, 48, 32, 61, 32, 48, 41]⟩ : ByteArray), 66⟩ : S42), (⟨(⟨#[114, 101, 112, 117, 98, 108, 105, 99, 111, 108, 100]⟩ : ByteArray), 654415, 4, (⟨#[121, 32, 37, 32, 52, 32, 61, 32, 51]⟩ : ByteArray), 66⟩ : S42), (⟨(⟨#[104, 97, 97, 98]⟩ : ByteArray), (-1137490), 1, (⟨#[48]⟩ : ByteArray), 74⟩ : S42), (⟨(⟨#[116, 117, 110]⟩ : ByteArray), (-1137142), 1, (⟨#[48]⟩ : ByteArray), 75⟩ : S42), (⟨(⟨#[116, 122, 111, 108, 107, 105, 110]⟩ : ByteArray), (-1137301), 1, (⟨#[48]⟩ : ByteArray), 76⟩ : S42), (⟨(⟨#[119, 101, 101, 107, 121, 101, 97, 114]⟩ : ByteArray), 1, 293, (⟨#[40, 53, 50, 32, 42, 32, 121, 32, 43, 32, 49, 54, 54, 41, 32, 37, 32, 50, 57, 51, 32, 60, 32, 53, 50]⟩ : ByteArray), 71⟩ : S42), (⟨(⟨#[102, 105, 120, 101, 100, 121, 101, 97, 114]⟩ : ByteArray), 1, 400, (⟨#[121, 32, 37, 32, 52, 32, 61, 32, 48, 32, 97, 110, 100, 32, 40, 110, 111, 116, 32, 121, 32, 37, 32, 49, 48, 48, 32, 61, 32, 48, 32, 111, 114, 32, 121, 32, 37, 32, 52, 48, 48, 32, 61, 32, 48, 41]⟩ : ByteArray), 72⟩ : S42), (⟨(⟨#[112, 111, 115, 105, 116, 105, 118, 101]⟩ : ByteArray), 653055, 400, (⟨#[40, 121, 32, 43, 32, 49, 55, 56, 56, 41, 32, 37, 32, 52, 32, 61, 32, 48, 32, 97, 110, 100, 32, 40, 110, 111, 116, 32, 40, 121, 32, 43, 32, 49, 55, 56, 56, 41, 32, 37, 32, 49, 48, 48, 32, 61, 32, 48, 32, 111, 114, 32, 40, 121, 32, 43, 32, 49, 55, 56, 56, 41, 32, 37, 32, 52, 48, 48, 32, 61, 32, 48, 41]⟩ : ByteArray), 72⟩ : S42), (⟨(⟨#[115, 101, 97, 115, 111, 110, 115]⟩ : ByteArray), 1, 400, (⟨#[121, 32, 37, 32, 52, 32, 61, 32, 48, 32, 97, 110, 100, 32, 40, 110, 111, 116, 32, 121, 32, 37, 32, 49, 48, 48, 32, 61, 32, 48, 32, 111, 114, 32, 121, 32, 37, 32, 52, 48, 48, 32, 61, 32, 48, 41]⟩ : ByteArray), 78⟩ : S42), (⟨(⟨#[109, 97, 114, 99, 104, 111, 108, 100]⟩ : ByteArray), 58, 4, (⟨#[121, 32, 37, 32, 52, 32, 61, 32, 51]⟩ : ByteArray), 79⟩ : S42), (⟨(⟨#[109, 97, 114, 99, 104, 110, 101, 119]⟩ : ByteArray), 60, 400, (⟨#[40, 121, 32, 43, 32, 49, 41, 32, 37, 32, 52, 32, 61, 32, 48, 32, 97, 110, 100, 32, 40, 110, 111, 116, 32, 40, 121, 32, 43, 32, 49, 41, 32, 37, 32, 49, 48, 48, 32, 61, 32, 48, 32, 111, 114, 32, 40, 121, 32, 43, 32, 49, 41, 32, 37, 32, 52, 48, 48, 32, 61, 32, 48, 41]⟩ : ByteArray), 79⟩ : S42), (⟨(⟨#[98, 121, 122, 97, 110, 116, 105, 110, 101]⟩ : ByteArray), (-2011920), 4, (⟨#[121, 32, 37, 32, 52, 32, 61, 32, 48]⟩ : ByteArray), 82⟩ : S42), (⟨(⟨#[115, 121, 114, 105, 97, 110]⟩ : ByteArray), (-113686), 4, (⟨#[121, 32, 37, 32, 52, 32, 61, 32, 51]⟩ : ByteArray), 83⟩ : S42), (⟨(⟨#[111, 108, 121, 109, 112, 105, 99]⟩ : ByteArray), (-283000), 8, (⟨#[121, 32, 37, 32, 56, 32, 61, 32, 51, 32, 111, 114, 32, 121, 32, 37, 32, 56, 32, 61, 32, 53, 32, 111, 114, 32, 121, 32, 37, 32, 56, 32, 61, 32, 48]⟩ : ByteArray), 80⟩ : S42), (⟨(⟨#[109, 101, 116, 111, 110, 105, 99]⟩ : ByteArray), (-1373429), 19, (⟨#[40, 55, 32, 42, 32, 121, 32, 43, 32, 49, 41, 32, 37, 32, 49, 57, 32, 60, 32, 55]⟩ : ByteArray), 80⟩ : S42), (⟨(⟨#[109, 101, 116, 111, 110, 105, 99, 98]⟩ : ByteArray), (-272000), 19, (⟨#[40, 55, 32, 42, 32, 121, 32, 43, 32, 53, 41, 32, 37, 32, 49, 57, 32, 60, 32, 55]⟩ : ByteArray), 80⟩ : S42), (⟨(⟨#[108, 101, 97, 112, 104, 101, 97, 100]⟩ : ByteArray), 1, 4, (⟨#[121, 32, 37, 32, 52, 32, 61, 32, 48]⟩ : ByteArray), 81⟩ : S42), (⟨(⟨#[100, 101, 99, 105, 109, 97, 108]⟩ : ByteArray), 1, 400, (⟨#[121, 32, 37, 32, 52, 32, 61, 32, 48, 32, 97, 110, 100, 32, 40, 110, 111, 116, 32, 121, 32, 37, 32, 49, 48, 48, 32, 61, 32, 48, 32, 111, 114, 32, 121, 32, 37, 32, 52, 48, 48, 32, 61, 32, 48, 41]⟩ : ByteArray), 84⟩ : S42), (⟨(⟨#[119, 105, 110, 116, 101, 114]⟩ : ByteArray), (-272000), 4, (⟨#[121, 32, 37, 32, 52, 32, 61, 32, 48]⟩ : ByteArray), 77⟩ : S42), (⟨(⟨#[97, 108, 119, 97, 121, 115]⟩ : ByteArray), 1, 1, (⟨#[49]⟩ : ByteArray), 65⟩ : S42), (⟨(⟨#[110, 101, 118, 101, 114]⟩ : ByteArray), 1, 1, (⟨#[48]⟩ : ByteArray), 65⟩ : S42)] : List (S42)))) = some r := h
  clear h
  obtain ⟨y108, hy108⟩ : ∃ y_ : List (S42), y_ = (([(⟨(⟨#[103, 114, 101, 103, 111, 114, 105, 97, 110]⟩ : ByteArray), 1, 400, (⟨#[121, 32, 37, 32, 52, 32, 61, 32, 48, 32, 97, 110, 100, 32, 40, 110, 111, 116, 32, 121, 32, 37, 32, 49, 48, 48, 32, 61, 32, 48, 32, 111, 114, 32, 121, 32, 37, 32, 52, 48, 48, 32, 61, 32, 48, 41]⟩ : ByteArray), 65⟩ : S42), (⟨(⟨#[106, 117, 108, 105, 97, 110]⟩ : ByteArray), (-1), 4, (⟨#[121, 32, 37, 32, 52, 32, 61, 32, 48]⟩ : ByteArray), 65⟩ : S42), (⟨(⟨#[114, 101, 118, 105, 115, 101, 100]⟩ : ByteArray), 1, 900, (⟨#[121, 32, 37, 32, 52, 32, 61, 32, 48, 32, 97, 110, 100, 32, 110, 111, 116, 32, 121, 32, 37, 32, 49, 48, 48, 32, 61, 32, 48, 32, 111, 114, 32, 121, 32, 37, 32, 57, 48, 48, 32, 61, 32, 50, 48, 48, 32, 111, 114, 32, 121, 32, 37, 32, 57, 48, 48, 32, 61, 32, 54, 48, 48]⟩ : ByteArray), 65⟩ : S42), (⟨(⟨#[113, 117, 97, 116, 101, 114, 110]⟩ : ByteArray), 1, 128, (⟨#[121, 32, 37, 32, 52, 32, 61, 32, 48, 32, 97, 110, 100, 32, 110, 111, 116, 32, 121, 32, 37, 32, 49, 50, 56, 32, 61, 32, 48]⟩ : ByteArray), 65⟩ : S42), (⟨(⟨#[99, 111, 112, 116, 105, 99]⟩ : ByteArray), 103605, 4, (⟨#[121, 32, 37, 32, 52, 32, 61, 32, 51]⟩ : ByteArray), 66⟩ : S42), (⟨(⟨#[101, 116, 104, 105, 111, 112, 105, 99]⟩ : ByteArray), 2796, 4, (⟨#[121, 32, 37, 32, 52, 32, 61, 32, 51]⟩ : ByteArray), 66⟩ : S42), (⟨(⟨#[101, 103, 121, 112, 116, 105, 97, 110]⟩ : ByteArray), (-272787), 1, (⟨#[48]⟩ : ByteArray), 73⟩ : S42), (⟨(⟨#[97, 114, 109, 101, 110, 105, 97, 110]⟩ : ByteArray), 201443, 1, (⟨#[48]⟩ : ByteArray), 73⟩ : S42), (⟨(⟨#[122, 111, 114, 111, 97, 115, 116, 101, 114]⟩ : ByteArray), 230638, 1, (⟨#[48]⟩ : ByteArray), 73⟩ : S42), (⟨(⟨#[116, 97, 98, 117, 108, 97, 114, 97]⟩ : ByteArray), 227015, 30, (⟨#[40, 49, 49, 32, 42, 32, 121, 32, 43, 32, 49, 52, 41, 32, 37, 32, 51, 48, 32, 60, 32, 49, 49]⟩ : ByteArray), 67⟩ : S42), (⟨(⟨#[116, 97, 98, 117, 108, 97, 114, 98]⟩ : ByteArray), 227014, 30, (⟨#[40, 49, 49, 32, 42, 32, 121, 32, 43, 32, 49, 52, 41, 32, 37, 32, 51, 48, 32, 60, 32, 49, 49]⟩ : ByteArray), 67⟩ : S42), (⟨(⟨#[116, 97, 98, 117, 108, 97, 114, 99]⟩ : ByteArray), 227015, 30, (⟨#[40, 49, 49, 32, 42, 32, 121, 32, 43, 32, 49, 53, 41, 32, 37, 32, 51, 48, 32, 60, 32, 49, 49]⟩ : ByteArray), 67⟩ : S42), (⟨(⟨#[116, 97, 98, 117, 108, 97, 114, 100]⟩ : ByteArray), 227014, 30, (⟨#[40, 49, 49, 32, 42, 32, 121, 32, 43, 32, 49, 53, 41, 32, 37, 32, 51, 48, 32, 60, 32, 49, 49]⟩ : ByteArray), 67⟩ : S42), (⟨(⟨#[116, 97, 98, 117, 108, 97, 114, 101]⟩ : ByteArray), 227015, 30, (⟨#[40, 49, 49, 32, 42, 32, 121, 32, 43, 32, 57, 41, 32, 37, 32, 51, 48, 32, 60, 32, 49, 49]⟩ : ByteArray), 67⟩ : S42), (⟨(⟨#[116, 97, 98, 117, 108, 97, 114, 102]⟩ : ByteArray), 227015, 8, (⟨#[121, 32, 37, 32, 56, 32, 61, 32, 50, 32, 111, 114, 32, 121, 32, 37, 32, 56, 32, 61, 32, 53, 32, 111, 114, 32, 121, 32, 37, 32, 56, 32, 61, 32, 55]⟩ : ByteArray), 67⟩ : S42), (⟨(⟨#[112, 101, 114, 115, 105, 97, 110]⟩ : ByteArray), 226896, 33, (⟨#[40, 56, 32, 42, 32, 121, 32, 43, 32, 50, 49, 41, 32, 37, 32, 51, 51, 32, 60, 32, 56]⟩ : ByteArray), 68⟩ : S42), (⟨(⟨#[112, 101, 114, 115, 105, 97, 110, 108, 111, 110, 103]⟩ : ByteArray), 226896, 2820, (⟨#[40, 40, 121, 32, 45, 32, 52, 55, 52, 41, 32, 37, 32, 50, 56, 50, 48, 32, 43, 32, 53, 49, 50, 41, 32, 42, 32, 54, 56, 50, 32, 37, 32, 50, 56, 49, 54, 32, 60, 32, 54, 56, 50]⟩ : ByteArray), 68⟩ : S42), (⟨(⟨#[105, 110, 100, 105, 97, 110]⟩ : ByteArray), 28570, 400, (⟨#[40, 121, 32, 43, 32, 55, 56, 41, 32, 37, 32, 52, 32, 61, 32, 48, 32, 97, 110, 100, 32, 40, 110, 111, 116, 32, 40, 121, 32, 43, 32, 55, 56, 41, 32, 37, 32, 49, 48, 48, 32, 61, 32, 48, 32, 111, 114, 32, 40, 121, 32, 43, 32, 55, 56, 41, 32, 37, 32, 52, 48, 48, 32, 61, 32, 48, 41]⟩ : ByteArray), 69⟩ : S42), (⟨(⟨#[98, 97, 100, 105]⟩ : ByteArray), 673222, 400, (⟨#[40, 121, 32, 43, 32, 49, 56, 52, 52, 41, 32, 37, 32, 52, 32, 61, 32, 48, 32, 97, 110, 100, 32, 40, 110, 111, 116, 32, 40, 121, 32, 43, 32, 49, 56, 52, 52, 41, 32, 37, 32, 49, 48, 48, 32, 61, 32, 48, 32, 111, 114, 32, 40, 121, 32, 43, 32, 49, 56, 52, 52, 41, 32, 37, 32, 52, 48, 48, 32, 61, 32, 48, 41]⟩ : ByteArray), 70⟩ : S42), (⟨(⟨#[114, 101, 112, 117, 98, 108, 105, 99]⟩ : ByteArray), 654415, 400, (⟨#[121, 32, 37, 32, 52, 32, 61, 32, 48, 32, 97, 110, 100, 32, 40, 110, 111, 116, 32, 121, 32, 37, 32, 49, 48, 48, 32, 61, 32, 48, 32, 111, 114, 32, 121, 32, 37, 32, 52, 48, 48, 32, 61, 32, 48, 41]⟩ : ByteArray), 66⟩ : S42), (⟨(⟨#[114, 101, 112, 117, 98, 108, 105, 99, 111, 108, 100]⟩ : ByteArray), 654415, 4, (⟨#[121, 32, 37, 32, 52, 32, 61, 32, 51]⟩ : ByteArray), 66⟩ : S42), (⟨(⟨#[104, 97, 97, 98]⟩ : ByteArray), (-1137490), 1, (⟨#[48]⟩ : ByteArray), 74⟩ : S42), (⟨(⟨#[116, 117, 110]⟩ : ByteArray), (-1137142), 1, (⟨#[48]⟩ : ByteArray), 75⟩ : S42), (⟨(⟨#[116, 122, 111, 108, 107, 105, 110]⟩ : ByteArray), (-1137301), 1, (⟨#[48]⟩ : ByteArray), 76⟩ : S42), (⟨(⟨#[119, 101, 101, 107, 121, 101, 97, 114]⟩ : ByteArray), 1, 293, (⟨#[40, 53, 50, 32, 42, 32, 121, 32, 43, 32, 49, 54, 54, 41, 32, 37, 32, 50, 57, 51, 32, 60, 32, 53, 50]⟩ : ByteArray), 71⟩ : S42), (⟨(⟨#[102, 105, 120, 101, 100, 121, 101, 97, 114]⟩ : ByteArray), 1, 400, (⟨#[121, 32, 37, 32, 52, 32, 61, 32, 48, 32, 97, 110, 100, 32, 40, 110, 111, 116, 32, 121, 32, 37, 32, 49, 48, 48, 32, 61, 32, 48, 32, 111, 114, 32, 121, 32, 37, 32, 52, 48, 48, 32, 61, 32, 48, 41]⟩ : ByteArray), 72⟩ : S42), (⟨(⟨#[112, 111, 115, 105, 116, 105, 118, 101]⟩ : ByteArray), 653055, 400, (⟨#[40, 121, 32, 43, 32, 49, 55, 56, 56, 41, 32, 37, 32, 52, 32, 61, 32, 48, 32, 97, 110, 100, 32, 40, 110, 111, 116, 32, 40, 121, 32, 43, 32, 49, 55, 56, 56, 41, 32, 37, 32, 49, 48, 48, 32, 61, 32, 48, 32, 111, 114, 32, 40, 121, 32, 43, 32, 49, 55, 56, 56, 41, 32, 37, 32, 52, 48, 48, 32, 61, 32, 48, 41]⟩ : ByteArray), 72⟩ : S42), (⟨(⟨#[115, 101, 97, 115, 111, 110, 115]⟩ : ByteArray), 1, 400, (⟨#[121, 32, 37, 32, 52, 32, 61, 32, 48, 32, 97, 110, 100, 32, 40, 110, 111, 116, 32, 121, 32, 37, 32, 49, 48, 48, 32, 61, 32, 48, 32, 111, 114, 32, 121, 32, 37, 32, 52, 48, 48, 32, 61, 32, 48, 41]⟩ : ByteArray), 78⟩ : S42), (⟨(⟨#[109, 97, 114, 99, 104, 111, 108, 100]⟩ : ByteArray), 58, 4, (⟨#[121, 32, 37, 32, 52, 32, 61, 32, 51]⟩ : ByteArray), 79⟩ : S42), (⟨(⟨#[109, 97, 114, 99, 104, 110, 101, 119]⟩ : ByteArray), 60, 400, (⟨#[40, 121, 32, 43, 32, 49, 41, 32, 37, 32, 52, 32, 61, 32, 48, 32, 97, 110, 100, 32, 40, 110, 111, 116, 32, 40, 121, 32, 43, 32, 49, 41, 32, 37, 32, 49, 48, 48, 32, 61, 32, 48, 32, 111, 114, 32, 40, 121, 32, 43, 32, 49, 41, 32, 37, 32, 52, 48, 48, 32, 61, 32, 48, 41]⟩ : ByteArray), 79⟩ : S42), (⟨(⟨#[98, 121, 122, 97, 110, 116, 105, 110, 101]⟩ : ByteArray), (-2011920), 4, (⟨#[121, 32, 37, 32, 52, 32, 61, 32, 48]⟩ : ByteArray), 82⟩ : S42), (⟨(⟨#[115, 121, 114, 105, 97, 110]⟩ : ByteArray), (-113686), 4, (⟨#[121, 32, 37, 32, 52, 32, 61, 32, 51]⟩ : ByteArray), 83⟩ : S42), (⟨(⟨#[111, 108, 121, 109, 112, 105, 99]⟩ : ByteArray), (-283000), 8, (⟨#[121, 32, 37, 32, 56, 32, 61, 32, 51, 32, 111, 114, 32, 121, 32, 37, 32, 56, 32, 61, 32, 53, 32, 111, 114, 32, 121, 32, 37, 32, 56, 32, 61, 32, 48]⟩ : ByteArray), 80⟩ : S42), (⟨(⟨#[109, 101, 116, 111, 110, 105, 99]⟩ : ByteArray), (-1373429), 19, (⟨#[40, 55, 32, 42, 32, 121, 32, 43, 32, 49, 41, 32, 37, 32, 49, 57, 32, 60, 32, 55]⟩ : ByteArray), 80⟩ : S42), (⟨(⟨#[109, 101, 116, 111, 110, 105, 99, 98]⟩ : ByteArray), (-272000), 19, (⟨#[40, 55, 32, 42, 32, 121, 32, 43, 32, 53, 41, 32, 37, 32, 49, 57, 32, 60, 32, 55]⟩ : ByteArray), 80⟩ : S42), (⟨(⟨#[108, 101, 97, 112, 104, 101, 97, 100]⟩ : ByteArray), 1, 4, (⟨#[121, 32, 37, 32, 52, 32, 61, 32, 48]⟩ : ByteArray), 81⟩ : S42), (⟨(⟨#[100, 101, 99, 105, 109, 97, 108]⟩ : ByteArray), 1, 400, (⟨#[121, 32, 37, 32, 52, 32, 61, 32, 48, 32, 97, 110, 100, 32, 40, 110, 111, 116, 32, 121, 32, 37, 32, 49, 48, 48, 32, 61, 32, 48, 32, 111, 114, 32, 121, 32, 37, 32, 52, 48, 48, 32, 61, 32, 48, 41]⟩ : ByteArray), 84⟩ : S42), (⟨(⟨#[119, 105, 110, 116, 101, 114]⟩ : ByteArray), (-272000), 4, (⟨#[121, 32, 37, 32, 52, 32, 61, 32, 48]⟩ : ByteArray), 77⟩ : S42), (⟨(⟨#[97, 108, 119, 97, 121, 115]⟩ : ByteArray), 1, 1, (⟨#[49]⟩ : ByteArray), 65⟩ : S42), (⟨(⟨#[110, 101, 118, 101, 114]⟩ : ByteArray), 1, 1, (⟨#[48]⟩ : ByteArray), 65⟩ : S42)] : List (S42))) := ⟨_, rfl⟩
  replace H : (some y108) = some r := by first | (rw [hy108]; with_reducible exact H) | (have H2_ := (Option.bind_some _ _).symm.trans H; rw [hy108]; with_reducible exact H2_) | (have H2_ := (Option.bind_some _ _).symm.trans H; with_reducible exact H2_) | with_reducible exact H | (rw [hy108]; exact H) | exact H
  have Ny108 := Aside0.mk hy108
  clear hy108
  obtain rfl := Option.some.inj H
  go_enter Tryd.func14, Tryd.ntmps14
  go_wp2_with (first | ((with_reducible refine gate_dst (N := 41) rfl ?_); refine Kd.R_lit k42 _ 42 ?hg (N := 41) ?hd (xs := ([(⟨(⟨#[103, 114, 101, 103, 111, 114, 105, 97, 110]⟩ : ByteArray), 1, 400, (⟨#[121, 32, 37, 32, 52, 32, 61, 32, 48, 32, 97, 110, 100, 32, 40, 110, 111, 116, 32, 121, 32, 37, 32, 49, 48, 48, 32, 61, 32, 48, 32, 111, 114, 32, 121, 32, 37, 32, 52, 48, 48, 32, 61, 32, 48, 41]⟩ : ByteArray), 65⟩ : S42), (⟨(⟨#[106, 117, 108, 105, 97, 110]⟩ : ByteArray), (-1), 4, (⟨#[121, 32, 37, 32, 52, 32, 61, 32, 48]⟩ : ByteArray), 65⟩ : S42), (⟨(⟨#[114, 101, 118, 105, 115, 101, 100]⟩ : ByteArray), 1, 900, (⟨#[121, 32, 37, 32, 52, 32, 61, 32, 48, 32, 97, 110, 100, 32, 110, 111, 116, 32, 121, 32, 37, 32, 49, 48, 48, 32, 61, 32, 48, 32, 111, 114, 32, 121, 32, 37, 32, 57, 48, 48, 32, 61, 32, 50, 48, 48, 32, 111, 114, 32, 121, 32, 37, 32, 57, 48, 48, 32, 61, 32, 54, 48, 48]⟩ : ByteArray), 65⟩ : S42), (⟨(⟨#[113, 117, 97, 116, 101, 114, 110]⟩ : ByteArray), 1, 128, (⟨#[121, 32, 37, 32, 52, 32, 61, 32, 48, 32, 97, 110, 100, 32, 110, 111, 116, 32, 121, 32, 37, 32, 49, 50, 56, 32, 61, 32, 48]⟩ : ByteArray), 65⟩ : S42), (⟨(⟨#[99, 111, 112, 116, 105, 99]⟩ : ByteArray), 103605, 4, (⟨#[121, 32, 37, 32, 52, 32, 61, 32, 51]⟩ : ByteArray), 66⟩ : S42), (⟨(⟨#[101, 116, 104, 105, 111, 112, 105, 99]⟩ : ByteArray), 2796, 4, (⟨#[121, 32, 37, 32, 52, 32, 61, 32, 51]⟩ : ByteArray), 66⟩ : S42), (⟨(⟨#[101, 103, 121, 112, 116, 105, 97, 110]⟩ : ByteArray), (-272787), 1, (⟨#[48]⟩ : ByteArray), 73⟩ : S42), (⟨(⟨#[97, 114, 109, 101, 110, 105, 97, 110]⟩ : ByteArray), 201443, 1, (⟨#[48]⟩ : ByteArray), 73⟩ : S42), (⟨(⟨#[122, 111, 114, 111, 97, 115, 116, 101, 114]⟩ : ByteArray), 230638, 1, (⟨#[48]⟩ : ByteArray), 73⟩ : S42), (⟨(⟨#[116, 97, 98, 117, 108, 97, 114, 97]⟩ : ByteArray), 227015, 30, (⟨#[40, 49, 49, 32, 42, 32, 121, 32, 43, 32, 49, 52, 41, 32, 37, 32, 51, 48, 32, 60, 32, 49, 49]⟩ : ByteArray), 67⟩ : S42), (⟨(⟨#[116, 97, 98, 117, 108, 97, 114, 98]⟩ : ByteArray), 227014, 30, (⟨#[40, 49, 49, 32, 42, 32, 121, 32, 43, 32, 49, 52, 41, 32, 37, 32, 51, 48, 32, 60, 32, 49, 49]⟩ : ByteArray), 67⟩ : S42), (⟨(⟨#[116, 97, 98, 117, 108, 97, 114, 99]⟩ : ByteArray), 227015, 30, (⟨#[40, 49, 49, 32, 42, 32, 121, 32, 43, 32, 49, 53, 41, 32, 37, 32, 51, 48, 32, 60, 32, 49, 49]⟩ : ByteArray), 67⟩ : S42), (⟨(⟨#[116, 97, 98, 117, 108, 97, 114, 100]⟩ : ByteArray), 227014, 30, (⟨#[40, 49, 49, 32, 42, 32, 121, 32, 43, 32, 49, 53, 41, 32, 37, 32, 51, 48, 32, 60, 32, 49, 49]⟩ : ByteArray), 67⟩ : S42), (⟨(⟨#[116, 97, 98, 117, 108, 97, 114, 101]⟩ : ByteArray), 227015, 30, (⟨#[40, 49, 49, 32, 42, 32, 121, 32, 43, 32, 57, 41, 32, 37, 32, 51, 48, 32, 60, 32, 49, 49]⟩ : ByteArray), 67⟩ : S42), (⟨(⟨#[116, 97, 98, 117, 108, 97, 114, 102]⟩ : ByteArray), 227015, 8, (⟨#[121, 32, 37, 32, 56, 32, 61, 32, 50, 32, 111, 114, 32, 121, 32, 37, 32, 56, 32, 61, 32, 53, 32, 111, 114, 32, 121, 32, 37, 32, 56, 32, 61, 32, 55]⟩ : ByteArray), 67⟩ : S42), (⟨(⟨#[112, 101, 114, 115, 105, 97, 110]⟩ : ByteArray), 226896, 33, (⟨#[40, 56, 32, 42, 32, 121, 32, 43, 32, 50, 49, 41, 32, 37, 32, 51, 51, 32, 60, 32, 56]⟩ : ByteArray), 68⟩ : S42), (⟨(⟨#[112, 101, 114, 115, 105, 97, 110, 108, 111, 110, 103]⟩ : ByteArray), 226896, 2820, (⟨#[40, 40, 121, 32, 45, 32, 52, 55, 52, 41, 32, 37, 32, 50, 56, 50, 48, 32, 43, 32, 53, 49, 50, 41, 32, 42, 32, 54, 56, 50, 32, 37, 32, 50, 56, 49, 54, 32, 60, 32, 54, 56, 50]⟩ : ByteArray), 68⟩ : S42), (⟨(⟨#[105, 110, 100, 105, 97, 110]⟩ : ByteArray), 28570, 400, (⟨#[40, 121, 32, 43, 32, 55, 56, 41, 32, 37, 32, 52, 32, 61, 32, 48, 32, 97, 110, 100, 32, 40, 110, 111, 116, 32, 40, 121, 32, 43, 32, 55, 56, 41, 32, 37, 32, 49, 48, 48, 32, 61, 32, 48, 32, 111, 114, 32, 40, 121, 32, 43, 32, 55, 56, 41, 32, 37, 32, 52, 48, 48, 32, 61, 32, 48, 41]⟩ : ByteArray), 69⟩ : S42), (⟨(⟨#[98, 97, 100, 105]⟩ : ByteArray), 673222, 400, (⟨#[40, 121, 32, 43, 32, 49, 56, 52, 52, 41, 32, 37, 32, 52, 32, 61, 32, 48, 32, 97, 110, 100, 32, 40, 110, 111, 116, 32, 40, 121, 32, 43, 32, 49, 56, 52, 52, 41, 32, 37, 32, 49, 48, 48, 32, 61, 32, 48, 32, 111, 114, 32, 40, 121, 32, 43, 32, 49, 56, 52, 52, 41, 32, 37, 32, 52, 48, 48, 32, 61, 32, 48, 41]⟩ : ByteArray), 70⟩ : S42), (⟨(⟨#[114, 101, 112, 117, 98, 108, 105, 99]⟩ : ByteArray), 654415, 400, (⟨#[121, 32, 37, 32, 52, 32, 61, 32, 48, 32, 97, 110, 100, 32, 40, 110, 111, 116, 32, 121, 32, 37, 32, 49, 48, 48, 32, 61, 32, 48, 32, 111, 114, 32, 121, 32, 37, 32, 52, 48, 48, 32, 61, 32, 48, 41]⟩ : ByteArray), 66⟩ : S42), (⟨(⟨#[114, 101, 112, 117, 98, 108, 105, 99, 111, 108, 100]⟩ : ByteArray), 654415, 4, (⟨#[121, 32, 37, 32, 52, 32, 61, 32, 51]⟩ : ByteArray), 66⟩ : S42), (⟨(⟨#[104, 97, 97, 98]⟩ : ByteArray), (-1137490), 1, (⟨#[48]⟩ : ByteArray), 74⟩ : S42), (⟨(⟨#[116, 117, 110]⟩ : ByteArray), (-1137142), 1, (⟨#[48]⟩ : ByteArray), 75⟩ : S42), (⟨(⟨#[116, 122, 111, 108, 107, 105, 110]⟩ : ByteArray), (-1137301), 1, (⟨#[48]⟩ : ByteArray), 76⟩ : S42), (⟨(⟨#[119, 101, 101, 107, 121, 101, 97, 114]⟩ : ByteArray), 1, 293, (⟨#[40, 53, 50, 32, 42, 32, 121, 32, 43, 32, 49, 54, 54, 41, 32, 37, 32, 50, 57, 51, 32, 60, 32, 53, 50]⟩ : ByteArray), 71⟩ : S42), (⟨(⟨#[102, 105, 120, 101, 100, 121, 101, 97, 114]⟩ : ByteArray), 1, 400, (⟨#[121, 32, 37, 32, 52, 32, 61, 32, 48, 32, 97, 110, 100, 32, 40, 110, 111, 116, 32, 121, 32, 37, 32, 49, 48, 48, 32, 61, 32, 48, 32, 111, 114, 32, 121, 32, 37, 32, 52, 48, 48, 32, 61, 32, 48, 41]⟩ : ByteArray), 72⟩ : S42), (⟨(⟨#[112, 111, 115, 105, 116, 105, 118, 101]⟩ : ByteArray), 653055, 400, (⟨#[40, 121, 32, 43, 32, 49, 55, 56, 56, 41, 32, 37, 32, 52, 32, 61, 32, 48, 32, 97, 110, 100, 32, 40, 110, 111, 116, 32, 40, 121, 32, 43, 32, 49, 55, 56, 56, 41, 32, 37, 32, 49, 48, 48, 32, 61, 32, 48, 32, 111, 114, 32, 40, 121, 32, 43, 32, 49, 55, 56, 56, 41, 32, 37, 32, 52, 48, 48, 32, 61, 32, 48, 41]⟩ : ByteArray), 72⟩ : S42), (⟨(⟨#[115, 101, 97, 115, 111, 110, 115]⟩ : ByteArray), 1, 400, (⟨#[121, 32, 37, 32, 52, 32, 61, 32, 48, 32, 97, 110, 100, 32, 40, 110, 111, 116, 32, 121, 32, 37, 32, 49, 48, 48, 32, 61, 32, 48, 32, 111, 114, 32, 121, 32, 37, 32, 52, 48, 48, 32, 61, 32, 48, 41]⟩ : ByteArray), 78⟩ : S42), (⟨(⟨#[109, 97, 114, 99, 104, 111, 108, 100]⟩ : ByteArray), 58, 4, (⟨#[121, 32, 37, 32, 52, 32, 61, 32, 51]⟩ : ByteArray), 79⟩ : S42), (⟨(⟨#[109, 97, 114, 99, 104, 110, 101, 119]⟩ : ByteArray), 60, 400, (⟨#[40, 121, 32, 43, 32, 49, 41, 32, 37, 32, 52, 32, 61, 32, 48, 32, 97, 110, 100, 32, 40, 110, 111, 116, 32, 40, 121, 32, 43, 32, 49, 41, 32, 37, 32, 49, 48, 48, 32, 61, 32, 48, 32, 111, 114, 32, 40, 121, 32, 43, 32, 49, 41, 32, 37, 32, 52, 48, 48, 32, 61, 32, 48, 41]⟩ : ByteArray), 79⟩ : S42), (⟨(⟨#[98, 121, 122, 97, 110, 116, 105, 110, 101]⟩ : ByteArray), (-2011920), 4, (⟨#[121, 32, 37, 32, 52, 32, 61, 32, 48]⟩ : ByteArray), 82⟩ : S42), (⟨(⟨#[115, 121, 114, 105, 97, 110]⟩ : ByteArray), (-113686), 4, (⟨#[121, 32, 37, 32, 52, 32, 61, 32, 51]⟩ : ByteArray), 83⟩ : S42), (⟨(⟨#[111, 108, 121, 109, 112, 105, 99]⟩ : ByteArray), (-283000), 8, (⟨#[121, 32, 37, 32, 56, 32, 61, 32, 51, 32, 111, 114, 32, 121, 32, 37, 32, 56, 32, 61, 32, 53, 32, 111, 114, 32, 121, 32, 37, 32, 56, 32, 61, 32, 48]⟩ : ByteArray), 80⟩ : S42), (⟨(⟨#[109, 101, 116, 111, 110, 105, 99]⟩ : ByteArray), (-1373429), 19, (⟨#[40, 55, 32, 42, 32, 121, 32, 43, 32, 49, 41, 32, 37, 32, 49, 57, 32, 60, 32, 55]⟩ : ByteArray), 80⟩ : S42), (⟨(⟨#[109, 101, 116, 111, 110, 105, 99, 98]⟩ : ByteArray), (-272000), 19, (⟨#[40, 55, 32, 42, 32, 121, 32, 43, 32, 53, 41, 32, 37, 32, 49, 57, 32, 60, 32, 55]⟩ : ByteArray), 80⟩ : S42), (⟨(⟨#[108, 101, 97, 112, 104, 101, 97, 100]⟩ : ByteArray), 1, 4, (⟨#[121, 32, 37, 32, 52, 32, 61, 32, 48]⟩ : ByteArray), 81⟩ : S42), (⟨(⟨#[100, 101, 99, 105, 109, 97, 108]⟩ : ByteArray), 1, 400, (⟨#[121, 32, 37, 32, 52, 32, 61, 32, 48, 32, 97, 110, 100, 32, 40, 110, 111, 116, 32, 121, 32, 37, 32, 49, 48, 48, 32, 61, 32, 48, 32, 111, 114, 32, 121, 32, 37, 32, 52, 48, 48, 32, 61, 32, 48, 41]⟩ : ByteArray), 84⟩ : S42), (⟨(⟨#[119, 105, 110, 116, 101, 114]⟩ : ByteArray), (-272000), 4, (⟨#[121, 32, 37, 32, 52, 32, 61, 32, 48]⟩ : ByteArray), 77⟩ : S42), (⟨(⟨#[97, 108, 119, 97, 121, 115]⟩ : ByteArray), 1, 1, (⟨#[49]⟩ : ByteArray), 65⟩ : S42), (⟨(⟨#[110, 101, 118, 101, 114]⟩ : ByteArray), 1, 1, (⟨#[48]⟩ : ByteArray), 65⟩ : S42)] : List (S42))) (inner := [.string (⟨#[103, 114, 101, 103, 111, 114, 105, 97, 110]⟩ : ByteArray), .int .i64 1, .int .i64 400, .string (⟨#[121, 32, 37, 32, 52, 32, 61, 32, 48, 32, 97, 110, 100, 32, 40, 110, 111, 116, 32, 121, 32, 37, 32, 49, 48, 48, 32, 61, 32, 48, 32, 111, 114, 32, 121, 32, 37, 32, 52, 48, 48, 32, 61, 32, 48, 41]⟩ : ByteArray), .int .u8 65, .string (⟨#[106, 117, 108, 105, 97, 110]⟩ : ByteArray), .int .i64 (-1), .int .i64 4, .string (⟨#[121, 32, 37, 32, 52, 32, 61, 32, 48]⟩ : ByteArray), .int .u8 65, .string (⟨#[114, 101, 118, 105, 115, 101, 100]⟩ : ByteArray), .int .i64 1, .int .i64 900, .string (⟨#[121, 32, 37, 32, 52, 32, 61, 32, 48, 32, 97, 110, 100, 32, 110, 111, 116, 32, 121, 32, 37, 32, 49, 48, 48, 32, 61, 32, 48, 32, 111, 114, 32, 121, 32, 37, 32, 57, 48, 48, 32, 61, 32, 50, 48, 48, 32, 111, 114, 32, 121, 32, 37, 32, 57, 48, 48, 32, 61, 32, 54, 48, 48]⟩ : ByteArray), .int .u8 65, .string (⟨#[113, 117, 97, 116, 101, 114, 110]⟩ : ByteArray), .int .i64 1, .int .i64 128, .string (⟨#[121, 32, 37, 32, 52, 32, 61, 32, 48, 32, 97, 110, 100, 32, 110, 111, 116, 32, 121, 32, 37, 32, 49, 50, 56, 32, 61, 32, 48]⟩ : ByteArray), .int .u8 65, .string (⟨#[99, 111, 112, 116, 105, 99]⟩ : ByteArray), .int .i64 103605, .int .i64 4, .string (⟨#[121, 32, 37, 32, 52, 32, 61, 32, 51]⟩ : ByteArray), .int .u8 66, .string (⟨#[101, 116, 104, 105, 111, 112, 105, 99]⟩ : ByteArray), .int .i64 2796, .int .i64 4, .string (⟨#[121, 32, 37, 32, 52, 32, 61, 32, 51]⟩ : ByteArray), .int .u8 66, .string (⟨#[101, 103, 121, 112, 116, 105, 97, 110]⟩ : ByteArray), .int .i64 (-272787), .int .i64 1, .string (⟨#[48]⟩ : ByteArray), .int .u8 73, .string (⟨#[97, 114, 109, 101, 110, 105, 97, 110]⟩ : ByteArray), .int .i64 201443, .int .i64 1, .string (⟨#[48]⟩ : ByteArray), .int .u8 73, .string (⟨#[122, 111, 114, 111, 97, 115, 116, 101, 114]⟩ : ByteArray), .int .i64 230638, .int .i64 1, .string (⟨#[48]⟩ : ByteArray), .int .u8 73, .string (⟨#[116, 97, 98, 117, 108, 97, 114, 97]⟩ : ByteArray), .int .i64 227015, .int .i64 30, .string (⟨#[40, 49, 49, 32, 42, 32, 121, 32, 43, 32, 49, 52, 41, 32, 37, 32, 51, 48, 32, 60, 32, 49, 49]⟩ : ByteArray), .int .u8 67, .string (⟨#[116, 97, 98, 117, 108, 97, 114, 98]⟩ : ByteArray), .int .i64 227014, .int .i64 30, .string (⟨#[40, 49, 49, 32, 42, 32, 121, 32, 43, 32, 49, 52, 41, 32, 37, 32, 51, 48, 32, 60, 32, 49, 49]⟩ : ByteArray), .int .u8 67, .string (⟨#[116, 97, 98, 117, 108, 97, 114, 99]⟩ : ByteArray), .int .i64 227015, .int .i64 30, .string (⟨#[40, 49, 49, 32, 42, 32, 121, 32, 43, 32, 49, 53, 41, 32, 37, 32, 51, 48, 32, 60, 32, 49, 49]⟩ : ByteArray), .int .u8 67, .string (⟨#[116, 97, 98, 117, 108, 97, 114, 100]⟩ : ByteArray), .int .i64 227014, .int .i64 30, .string (⟨#[40, 49, 49, 32, 42, 32, 121, 32, 43, 32, 49, 53, 41, 32, 37, 32, 51, 48, 32, 60, 32, 49, 49]⟩ : ByteArray), .int .u8 67, .string (⟨#[116, 97, 98, 117, 108, 97, 114, 101]⟩ : ByteArray), .int .i64 227015, .int .i64 30, .string (⟨#[40, 49, 49, 32, 42, 32, 121, 32, 43, 32, 57, 41, 32, 37, 32, 51, 48, 32, 60, 32, 49, 49]⟩ : ByteArray), .int .u8 67, .string (⟨#[116, 97, 98, 117, 108, 97, 114, 102]⟩ : ByteArray), .int .i64 227015, .int .i64 8, .string (⟨#[121, 32, 37, 32, 56, 32, 61, 32, 50, 32, 111, 114, 32, 121, 32, 37, 32, 56, 32, 61, 32, 53, 32, 111, 114, 32, 121, 32, 37, 32, 56, 32, 61, 32, 55]⟩ : ByteArray), .int .u8 67, .string (⟨#[112, 101, 114, 115, 105, 97, 110]⟩ : ByteArray), .int .i64 226896, .int .i64 33, .string (⟨#[40, 56, 32, 42, 32, 121, 32, 43, 32, 50, 49, 41, 32, 37, 32, 51, 51, 32, 60, 32, 56]⟩ : ByteArray), .int .u8 68, .string (⟨#[112, 101, 114, 115, 105, 97, 110, 108, 111, 110, 103]⟩ : ByteArray), .int .i64 226896, .int .i64 2820, .string (⟨#[40, 40, 121, 32, 45, 32, 52, 55, 52, 41, 32, 37, 32, 50, 56, 50, 48, 32, 43, 32, 53, 49, 50, 41, 32, 42, 32, 54, 56, 50, 32, 37, 32, 50, 56, 49, 54, 32, 60, 32, 54, 56, 50]⟩ : ByteArray), .int .u8 68, .string (⟨#[105, 110, 100, 105, 97, 110]⟩ : ByteArray), .int .i64 28570, .int .i64 400, .string (⟨#[40, 121, 32, 43, 32, 55, 56, 41, 32, 37, 32, 52, 32, 61, 32, 48, 32, 97, 110, 100, 32, 40, 110, 111, 116, 32, 40, 121, 32, 43, 32, 55, 56, 41, 32, 37, 32, 49, 48, 48, 32, 61, 32, 48, 32, 111, 114, 32, 40, 121, 32, 43, 32, 55, 56, 41, 32, 37, 32, 52, 48, 48, 32, 61, 32, 48, 41]⟩ : ByteArray), .int .u8 69, .string (⟨#[98, 97, 100, 105]⟩ : ByteArray), .int .i64 673222, .int .i64 400, .string (⟨#[40, 121, 32, 43, 32, 49, 56, 52, 52, 41, 32, 37, 32, 52, 32, 61, 32, 48, 32, 97, 110, 100, 32, 40, 110, 111, 116, 32, 40, 121, 32, 43, 32, 49, 56, 52, 52, 41, 32, 37, 32, 49, 48, 48, 32, 61, 32, 48, 32, 111, 114, 32, 40, 121, 32, 43, 32, 49, 56, 52, 52, 41, 32, 37, 32, 52, 48, 48, 32, 61, 32, 48, 41]⟩ : ByteArray), .int .u8 70, .string (⟨#[114, 101, 112, 117, 98, 108, 105, 99]⟩ : ByteArray), .int .i64 654415, .int .i64 400, .string (⟨#[121, 32, 37, 32, 52, 32, 61, 32, 48, 32, 97, 110, 100, 32, 40, 110, 111, 116, 32, 121, 32, 37, 32, 49, 48, 48, 32, 61, 32, 48, 32, 111, 114, 32, 121, 32, 37, 32, 52, 48, 48, 32, 61, 32, 48, 41]⟩ : ByteArray), .int .u8 66, .string (⟨#[114, 101, 112, 117, 98, 108, 105, 99, 111, 108, 100]⟩ : ByteArray), .int .i64 654415, .int .i64 4, .string (⟨#[121, 32, 37, 32, 52, 32, 61, 32, 51]⟩ : ByteArray), .int .u8 66, .string (⟨#[104, 97, 97, 98]⟩ : ByteArray), .int .i64 (-1137490), .int .i64 1, .string (⟨#[48]⟩ : ByteArray), .int .u8 74, .string (⟨#[116, 117, 110]⟩ : ByteArray), .int .i64 (-1137142), .int .i64 1, .string (⟨#[48]⟩ : ByteArray), .int .u8 75, .string (⟨#[116, 122, 111, 108, 107, 105, 110]⟩ : ByteArray), .int .i64 (-1137301), .int .i64 1, .string (⟨#[48]⟩ : ByteArray), .int .u8 76, .string (⟨#[119, 101, 101, 107, 121, 101, 97, 114]⟩ : ByteArray), .int .i64 1, .int .i64 293, .string (⟨#[40, 53, 50, 32, 42, 32, 121, 32, 43, 32, 49, 54, 54, 41, 32, 37, 32, 50, 57, 51, 32, 60, 32, 53, 50]⟩ : ByteArray), .int .u8 71, .string (⟨#[102, 105, 120, 101, 100, 121, 101, 97, 114]⟩ : ByteArray), .int .i64 1, .int .i64 400, .string (⟨#[121, 32, 37, 32, 52, 32, 61, 32, 48, 32, 97, 110, 100, 32, 40, 110, 111, 116, 32, 121, 32, 37, 32, 49, 48, 48, 32, 61, 32, 48, 32, 111, 114, 32, 121, 32, 37, 32, 52, 48, 48, 32, 61, 32, 48, 41]⟩ : ByteArray), .int .u8 72, .string (⟨#[112, 111, 115, 105, 116, 105, 118, 101]⟩ : ByteArray), .int .i64 653055, .int .i64 400, .string (⟨#[40, 121, 32, 43, 32, 49, 55, 56, 56, 41, 32, 37, 32, 52, 32, 61, 32, 48, 32, 97, 110, 100, 32, 40, 110, 111, 116, 32, 40, 121, 32, 43, 32, 49, 55, 56, 56, 41, 32, 37, 32, 49, 48, 48, 32, 61, 32, 48, 32, 111, 114, 32, 40, 121, 32, 43, 32, 49, 55, 56, 56, 41, 32, 37, 32, 52, 48, 48, 32, 61, 32, 48, 41]⟩ : ByteArray), .int .u8 72, .string (⟨#[115, 101, 97, 115, 111, 110, 115]⟩ : ByteArray), .int .i64 1, .int .i64 400, .string (⟨#[121, 32, 37, 32, 52, 32, 61, 32, 48, 32, 97, 110, 100, 32, 40, 110, 111, 116, 32, 121, 32, 37, 32, 49, 48, 48, 32, 61, 32, 48, 32, 111, 114, 32, 121, 32, 37, 32, 52, 48, 48, 32, 61, 32, 48, 41]⟩ : ByteArray), .int .u8 78, .string (⟨#[109, 97, 114, 99, 104, 111, 108, 100]⟩ : ByteArray), .int .i64 58, .int .i64 4, .string (⟨#[121, 32, 37, 32, 52, 32, 61, 32, 51]⟩ : ByteArray), .int .u8 79, .string (⟨#[109, 97, 114, 99, 104, 110, 101, 119]⟩ : ByteArray), .int .i64 60, .int .i64 400, .string (⟨#[40, 121, 32, 43, 32, 49, 41, 32, 37, 32, 52, 32, 61, 32, 48, 32, 97, 110, 100, 32, 40, 110, 111, 116, 32, 40, 121, 32, 43, 32, 49, 41, 32, 37, 32, 49, 48, 48, 32, 61, 32, 48, 32, 111, 114, 32, 40, 121, 32, 43, 32, 49, 41, 32, 37, 32, 52, 48, 48, 32, 61, 32, 48, 41]⟩ : ByteArray), .int .u8 79, .string (⟨#[98, 121, 122, 97, 110, 116, 105, 110, 101]⟩ : ByteArray), .int .i64 (-2011920), .int .i64 4, .string (⟨#[121, 32, 37, 32, 52, 32, 61, 32, 48]⟩ : ByteArray), .int .u8 82, .string (⟨#[115, 121, 114, 105, 97, 110]⟩ : ByteArray), .int .i64 (-113686), .int .i64 4, .string (⟨#[121, 32, 37, 32, 52, 32, 61, 32, 51]⟩ : ByteArray), .int .u8 83, .string (⟨#[111, 108, 121, 109, 112, 105, 99]⟩ : ByteArray), .int .i64 (-283000), .int .i64 8, .string (⟨#[121, 32, 37, 32, 56, 32, 61, 32, 51, 32, 111, 114, 32, 121, 32, 37, 32, 56, 32, 61, 32, 53, 32, 111, 114, 32, 121, 32, 37, 32, 56, 32, 61, 32, 48]⟩ : ByteArray), .int .u8 80, .string (⟨#[109, 101, 116, 111, 110, 105, 99]⟩ : ByteArray), .int .i64 (-1373429), .int .i64 19, .string (⟨#[40, 55, 32, 42, 32, 121, 32, 43, 32, 49, 41, 32, 37, 32, 49, 57, 32, 60, 32, 55]⟩ : ByteArray), .int .u8 80, .string (⟨#[109, 101, 116, 111, 110, 105, 99, 98]⟩ : ByteArray), .int .i64 (-272000), .int .i64 19, .string (⟨#[40, 55, 32, 42, 32, 121, 32, 43, 32, 53, 41, 32, 37, 32, 49, 57, 32, 60, 32, 55]⟩ : ByteArray), .int .u8 80, .string (⟨#[108, 101, 97, 112, 104, 101, 97, 100]⟩ : ByteArray), .int .i64 1, .int .i64 4, .string (⟨#[121, 32, 37, 32, 52, 32, 61, 32, 48]⟩ : ByteArray), .int .u8 81, .string (⟨#[100, 101, 99, 105, 109, 97, 108]⟩ : ByteArray), .int .i64 1, .int .i64 400, .string (⟨#[121, 32, 37, 32, 52, 32, 61, 32, 48, 32, 97, 110, 100, 32, 40, 110, 111, 116, 32, 121, 32, 37, 32, 49, 48, 48, 32, 61, 32, 48, 32, 111, 114, 32, 121, 32, 37, 32, 52, 48, 48, 32, 61, 32, 48, 41]⟩ : ByteArray), .int .u8 84, .string (⟨#[119, 105, 110, 116, 101, 114]⟩ : ByteArray), .int .i64 (-272000), .int .i64 4, .string (⟨#[121, 32, 37, 32, 52, 32, 61, 32, 48]⟩ : ByteArray), .int .u8 77, .string (⟨#[97, 108, 119, 97, 121, 115]⟩ : ByteArray), .int .i64 1, .int .i64 1, .string (⟨#[49]⟩ : ByteArray), .int .u8 65, .string (⟨#[110, 101, 118, 101, 114]⟩ : ByteArray), .int .i64 1, .int .i64 1, .string (⟨#[48]⟩ : ByteArray), .int .u8 65]) (ok := fun _ => True) (okp := fun _ => True) ?hr ?hp (fun _ hk => hk) trivial (Below.refl _ _) (Nat.le_refl _) (by simp) ?_; (case hd => rfl); (case hg => rfl); (case hr => kernel_rfl); (case hp => exact (Reps.c5 (show Kd.M k42 _ _ _ (⟨(⟨#[103, 114, 101, 103, 111, 114, 105, 97, 110]⟩ : ByteArray), 1, 400, (⟨#[121, 32, 37, 32, 52, 32, 61, 32, 48, 32, 97, 110, 100, 32, 40, 110, 111, 116, 32, 121, 32, 37, 32, 49, 48, 48, 32, 61, 32, 48, 32, 111, 114, 32, 121, 32, 37, 32, 52, 48, 48, 32, 61, 32, 48, 41]⟩ : ByteArray), 65⟩ : S42) [.string (⟨#[103, 114, 101, 103, 111, 114, 105, 97, 110]⟩ : ByteArray), .int .i64 1, .int .i64 400, .string (⟨#[121, 32, 37, 32, 52, 32, 61, 32, 48, 32, 97, 110, 100, 32, 40, 110, 111, 116, 32, 121, 32, 37, 32, 49, 48, 48, 32, 61, 32, 48, 32, 111, 114, 32, 121, 32, 37, 32, 52, 48, 48, 32, 61, 32, 48, 41]⟩ : ByteArray), .int .u8 65] from (k42_mkM _ _ _ (⟨(⟨#[103, 114, 101, 103, 111, 114, 105, 97, 110]⟩ : ByteArray), 1, 400, (⟨#[121, 32, 37, 32, 52, 32, 61, 32, 48, 32, 97, 110, 100, 32, 40, 110, 111, 116, 32, 121, 32, 37, 32, 49, 48, 48, 32, 61, 32, 48, 32, 111, 114, 32, 121, 32, 37, 32, 52, 48, 48, 32, 61, 32, 48, 41]⟩ : ByteArray), 65⟩ : S42) )) (Reps.c5 (show Kd.M k42 _ _ _ (⟨(⟨#[106, 117, 108, 105, 97, 110]⟩ : ByteArray), (-1), 4, (⟨#[121, 32, 37, 32, 52, 32, 61, 32, 48]⟩ : ByteArray), 65⟩ : S42) [.string (⟨#[106, 117, 108, 105, 97, 110]⟩ : ByteArray), .int .i64 (-1), .int .i64 4, .string (⟨#[121, 32, 37, 32, 52, 32, 61, 32, 48]⟩ : ByteArray), .int .u8 65] from (k42_mkM _ _ _ (⟨(⟨#[106, 117, 108, 105, 97, 110]⟩ : ByteArray), (-1), 4, (⟨#[121, 32, 37, 32, 52, 32, 61, 32, 48]⟩ : ByteArray), 65⟩ : S42) )) (Reps.c5 (show Kd.M k42 _ _ _ (⟨(⟨#[114, 101, 118, 105, 115, 101, 100]⟩ : ByteArray), 1, 900, (⟨#[121, 32, 37, 32, 52, 32, 61, 32, 48, 32, 97, 110, 100, 32, 110, 111, 116, 32, 121, 32, 37, 32, 49, 48, 48, 32, 61, 32, 48, 32, 111, 114, 32, 121, 32, 37, 32, 57, 48, 48, 32, 61, 32, 50, 48, 48, 32, 111, 114, 32, 121, 32, 37, 32, 57, 48, 48, 32, 61, 32, 54, 48, 48]⟩ : ByteArray), 65⟩ : S42) [.string (⟨#[114, 101, 118, 105, 115, 101, 100]⟩ : ByteArray), .int .i64 1, .int .i64 900, .string (⟨#[121, 32, 37, 32, 52, 32, 61, 32, 48, 32, 97, 110, 100, 32, 110, 111, 116, 32, 121, 32, 37, 32, 49, 48, 48, 32, 61, 32, 48, 32, 111, 114, 32, 121, 32, 37, 32, 57, 48, 48, 32, 61, 32, 50, 48, 48, 32, 111, 114, 32, 121, 32, 37, 32, 57, 48, 48, 32, 61, 32, 54, 48, 48]⟩ : ByteArray), .int .u8 65] from (k42_mkM _ _ _ (⟨(⟨#[114, 101, 118, 105, 115, 101, 100]⟩ : ByteArray), 1, 900, (⟨#[121, 32, 37, 32, 52, 32, 61, 32, 48, 32, 97, 110, 100, 32, 110, 111, 116, 32, 121, 32, 37, 32, 49, 48, 48, 32, 61, 32, 48, 32, 111, 114, 32, 121, 32, 37, 32, 57, 48, 48, 32, 61, 32, 50, 48, 48, 32, 111, 114, 32, 121, 32, 37, 32, 57, 48, 48, 32, 61, 32, 54, 48, 48]⟩ : ByteArray), 65⟩ : S42) )) (Reps.c5 (show Kd.M k42 _ _ _ (⟨(⟨#[113, 117, 97, 116, 101, 114, 110]⟩ : ByteArray), 1, 128, (⟨#[121, 32, 37, 32, 52, 32, 61, 32, 48, 32, 97, 110, 100, 32, 110, 111, 116, 32, 121, 32, 37, 32, 49, 50, 56, 32, 61, 32, 48]⟩ : ByteArray), 65⟩ : S42) [.string (⟨#[113, 117, 97, 116, 101, 114, 110]⟩ : ByteArray), .int .i64 1, .int .i64 128, .string (⟨#[121, 32, 37, 32, 52, 32, 61, 32, 48, 32, 97, 110, 100, 32, 110, 111, 116, 32, 121, 32, 37, 32, 49, 50, 56, 32, 61, 32, 48]⟩ : ByteArray), .int .u8 65] from (k42_mkM _ _ _ (⟨(⟨#[113, 117, 97, 116, 101, 114, 110]⟩ : ByteArray), 1, 128, (⟨#[121, 32, 37, 32, 52, 32, 61, 32, 48, 32, 97, 110, 100, 32, 110, 111, 116, 32, 121, 32, 37, 32, 49, 50, 56, 32, 61, 32, 48]⟩ : ByteArray), 65⟩ : S42) )) (Reps.c5 (show Kd.M k42 _ _ _ (⟨(⟨#[99, 111, 112, 116, 105, 99]⟩ : ByteArray), 103605, 4, (⟨#[121, 32, 37, 32, 52, 32, 61, 32, 51]⟩ : ByteArray), 66⟩ : S42) [.string (⟨#[99, 111, 112, 116, 105, 99]⟩ : ByteArray), .int .i64 103605, .int .i64 4, .string (⟨#[121, 32, 37, 32, 52, 32, 61, 32, 51]⟩ : ByteArray), .int .u8 66] from (k42_mkM _ _ _ (⟨(⟨#[99, 111, 112, 116, 105, 99]⟩ : ByteArray), 103605, 4, (⟨#[121, 32, 37, 32, 52, 32, 61, 32, 51]⟩ : ByteArray), 66⟩ : S42) )) (Reps.c5 (show Kd.M k42 _ _ _ (⟨(⟨#[101, 116, 104, 105, 111, 112, 105, 99]⟩ : ByteArray), 2796, 4, (⟨#[121, 32, 37, 32, 52, 32, 61, 32, 51]⟩ : ByteArray), 66⟩ : S42) [.string (⟨#[101, 116, 104, 105, 111, 112, 105, 99]⟩ : ByteArray), .int .i64 2796, .int .i64 4, .string (⟨#[121, 32, 37, 32, 52, 32, 61, 32, 51]⟩ : ByteArray), .int .u8 66] from (k42_mkM _ _ _ (⟨(⟨#[101, 116, 104, 105, 111, 112, 105, 99]⟩ : ByteArray), 2796, 4, (⟨#[121, 32, 37, 32, 52, 32, 61, 32, 51]⟩ : ByteArray), 66⟩ : S42) )) (Reps.c5 (show Kd.M k42 _ _ _ (⟨(⟨#[101, 103, 121, 112, 116, 105, 97, 110]⟩ : ByteArray), (-272787), 1, (⟨#[48]⟩ : ByteArray), 73⟩ : S42) [.string (⟨#[101, 103, 121, 112, 116, 105, 97, 110]⟩ : ByteArray), .int .i64 (-272787), .int .i64 1, .string (⟨#[48]⟩ : ByteArray), .int .u8 73] from (k42_mkM _ _ _ (⟨(⟨#[101, 103, 121, 112, 116, 105, 97, 110]⟩ : ByteArray), (-272787), 1, (⟨#[48]⟩ : ByteArray), 73⟩ : S42) )) (Reps.c5 (show Kd.M k42 _ _ _ (⟨(⟨#[97, 114, 109, 101, 110, 105, 97, 110]⟩ : ByteArray), 201443, 1, (⟨#[48]⟩ : ByteArray), 73⟩ : S42) [.string (⟨#[97, 114, 109, 101, 110, 105, 97, 110]⟩ : ByteArray), .int .i64 201443, .int .i64 1, .string (⟨#[48]⟩ : ByteArray), .int .u8 73] from (k42_mkM _ _ _ (⟨(⟨#[97, 114, 109, 101, 110, 105, 97, 110]⟩ : ByteArray), 201443, 1, (⟨#[48]⟩ : ByteArray), 73⟩ : S42) )) (Reps.c5 (show Kd.M k42 _ _ _ (⟨(⟨#[122, 111, 114, 111, 97, 115, 116, 101, 114]⟩ : ByteArray), 230638, 1, (⟨#[48]⟩ : ByteArray), 73⟩ : S42) [.string (⟨#[122, 111, 114, 111, 97, 115, 116, 101, 114]⟩ : ByteArray), .int .i64 230638, .int .i64 1, .string (⟨#[48]⟩ : ByteArray), .int .u8 73] from (k42_mkM _ _ _ (⟨(⟨#[122, 111, 114, 111, 97, 115, 116, 101, 114]⟩ : ByteArray), 230638, 1, (⟨#[48]⟩ : ByteArray), 73⟩ : S42) )) (Reps.c5 (show Kd.M k42 _ _ _ (⟨(⟨#[116, 97, 98, 117, 108, 97, 114, 97]⟩ : ByteArray), 227015, 30, (⟨#[40, 49, 49, 32, 42, 32, 121, 32, 43, 32, 49, 52, 41, 32, 37, 32, 51, 48, 32, 60, 32, 49, 49]⟩ : ByteArray), 67⟩ : S42) [.string (⟨#[116, 97, 98, 117, 108, 97, 114, 97]⟩ : ByteArray), .int .i64 227015, .int .i64 30, .string (⟨#[40, 49, 49, 32, 42, 32, 121, 32, 43, 32, 49, 52, 41, 32, 37, 32, 51, 48, 32, 60, 32, 49, 49]⟩ : ByteArray), .int .u8 67] from (k42_mkM _ _ _ (⟨(⟨#[116, 97, 98, 117, 108, 97, 114, 97]⟩ : ByteArray), 227015, 30, (⟨#[40, 49, 49, 32, 42, 32, 121, 32, 43, 32, 49, 52, 41, 32, 37, 32, 51, 48, 32, 60, 32, 49, 49]⟩ : ByteArray), 67⟩ : S42) )) (Reps.c5 (show Kd.M k42 _ _ _ (⟨(⟨#[116, 97, 98, 117, 108, 97, 114, 98]⟩ : ByteArray), 227014, 30, (⟨#[40, 49, 49, 32, 42, 32, 121, 32, 43, 32, 49, 52, 41, 32, 37, 32, 51, 48, 32, 60, 32, 49, 49]⟩ : ByteArray), 67⟩ : S42) [.string (⟨#[116, 97, 98, 117, 108, 97, 114, 98]⟩ : ByteArray), .int .i64 227014, .int .i64 30, .string (⟨#[40, 49, 49, 32, 42, 32, 121, 32, 43, 32, 49, 52, 41, 32, 37, 32, 51, 48, 32, 60, 32, 49, 49]⟩ : ByteArray), .int .u8 67] from (k42_mkM _ _ _ (⟨(⟨#[116, 97, 98, 117, 108, 97, 114, 98]⟩ : ByteArray), 227014, 30, (⟨#[40, 49, 49, 32, 42, 32, 121, 32, 43, 32, 49, 52, 41, 32, 37, 32, 51, 48, 32, 60, 32, 49, 49]⟩ : ByteArray), 67⟩ : S42) )) (Reps.c5 (show Kd.M k42 _ _ _ (⟨(⟨#[116, 97, 98, 117, 108, 97, 114, 99]⟩ : ByteArray), 227015, 30, (⟨#[40, 49, 49, 32, 42, 32, 121, 32, 43, 32, 49, 53, 41, 32, 37, 32, 51, 48, 32, 60, 32, 49, 49]⟩ : ByteArray), 67⟩ : S42) [.string (⟨#[116, 97, 98, 117, 108, 97, 114, 99]⟩ : ByteArray), .int .i64 227015, .int .i64 30, .string (⟨#[40, 49, 49, 32, 42, 32, 121, 32, 43, 32, 49, 53, 41, 32, 37, 32, 51, 48, 32, 60, 32, 49, 49]⟩ : ByteArray), .int .u8 67] from (k42_mkM _ _ _ (⟨(⟨#[116, 97, 98, 117, 108, 97, 114, 99]⟩ : ByteArray), 227015, 30, (⟨#[40, 49, 49, 32, 42, 32, 121, 32, 43, 32, 49, 53, 41, 32, 37, 32, 51, 48, 32, 60, 32, 49, 49]⟩ : ByteArray), 67⟩ : S42) )) (Reps.c5 (show Kd.M k42 _ _ _ (⟨(⟨#[116, 97, 98, 117, 108, 97, 114, 100]⟩ : ByteArray), 227014, 30, (⟨#[40, 49, 49, 32, 42, 32, 121, 32, 43, 32, 49, 53, 41, 32, 37, 32, 51, 48, 32, 60, 32, 49, 49]⟩ : ByteArray), 67⟩ : S42) [.string (⟨#[116, 97, 98, 117, 108, 97, 114, 100]⟩ : ByteArray), .int .i64 227014, .int .i64 30, .string (⟨#[40, 49, 49, 32, 42, 32, 121, 32, 43, 32, 49, 53, 41, 32, 37, 32, 51, 48, 32, 60, 32, 49, 49]⟩ : ByteArray), .int .u8 67] from (k42_mkM _ _ _ (⟨(⟨#[116, 97, 98, 117, 108, 97, 114, 100]⟩ : ByteArray), 227014, 30, (⟨#[40, 49, 49, 32, 42, 32, 121, 32, 43, 32, 49, 53, 41, 32, 37, 32, 51, 48, 32, 60, 32, 49, 49]⟩ : ByteArray), 67⟩ : S42) )) (Reps.c5 (show Kd.M k42 _ _ _ (⟨(⟨#[116, 97, 98, 117, 108, 97, 114, 101]⟩ : ByteArray), 227015, 30, (⟨#[40, 49, 49, 32, 42, 32, 121, 32, 43, 32, 57, 41, 32, 37, 32, 51, 48, 32, 60, 32, 49, 49]⟩ : ByteArray), 67⟩ : S42) [.string (⟨#[116, 97, 98, 117, 108, 97, 114, 101]⟩ : ByteArray), .int .i64 227015, .int .i64 30, .string (⟨#[40, 49, 49, 32, 42, 32, 121, 32, 43, 32, 57, 41, 32, 37, 32, 51, 48, 32, 60, 32, 49, 49]⟩ : ByteArray), .int .u8 67] from (k42_mkM _ _ _ (⟨(⟨#[116, 97, 98, 117, 108, 97, 114, 101]⟩ : ByteArray), 227015, 30, (⟨#[40, 49, 49, 32, 42, 32, 121, 32, 43, 32, 57, 41, 32, 37, 32, 51, 48, 32, 60, 32, 49, 49]⟩ : ByteArray), 67⟩ : S42) )) (Reps.c5 (show Kd.M k42 _ _ _ (⟨(⟨#[116, 97, 98, 117, 108, 97, 114, 102]⟩ : ByteArray), 227015, 8, (⟨#[121, 32, 37, 32, 56, 32, 61, 32, 50, 32, 111, 114, 32, 121, 32, 37, 32, 56, 32, 61, 32, 53, 32, 111, 114, 32, 121, 32, 37, 32, 56, 32, 61, 32, 55]⟩ : ByteArray), 67⟩ : S42) [.string (⟨#[116, 97, 98, 117, 108, 97, 114, 102]⟩ : ByteArray), .int .i64 227015, .int .i64 8, .string (⟨#[121, 32, 37, 32, 56, 32, 61, 32, 50, 32, 111, 114, 32, 121, 32, 37, 32, 56, 32, 61, 32, 53, 32, 111, 114, 32, 121, 32, 37, 32, 56, 32, 61, 32, 55]⟩ : ByteArray), .int .u8 67] from (k42_mkM _ _ _ (⟨(⟨#[116, 97, 98, 117, 108, 97, 114, 102]⟩ : ByteArray), 227015, 8, (⟨#[121, 32, 37, 32, 56, 32, 61, 32, 50, 32, 111, 114, 32, 121, 32, 37, 32, 56, 32, 61, 32, 53, 32, 111, 114, 32, 121, 32, 37, 32, 56, 32, 61, 32, 55]⟩ : ByteArray), 67⟩ : S42) )) (Reps.c5 (show Kd.M k42 _ _ _ (⟨(⟨#[112, 101, 114, 115, 105, 97, 110]⟩ : ByteArray), 226896, 33, (⟨#[40, 56, 32, 42, 32, 121, 32, 43, 32, 50, 49, 41, 32, 37, 32, 51, 51, 32, 60, 32, 56]⟩ : ByteArray), 68⟩ : S42) [.string (⟨#[112, 101, 114, 115, 105, 97, 110]⟩ : ByteArray), .int .i64 226896, .int .i64 33, .string (⟨#[40, 56, 32, 42, 32, 121, 32, 43, 32, 50, 49, 41, 32, 37, 32, 51, 51, 32, 60, 32, 56]⟩ : ByteArray), .int .u8 68] from (k42_mkM _ _ _ (⟨(⟨#[112, 101, 114, 115, 105, 97, 110]⟩ : ByteArray), 226896, 33, (⟨#[40, 56, 32, 42, 32, 121, 32, 43, 32, 50, 49, 41, 32, 37, 32, 51, 51, 32, 60, 32, 56]⟩ : ByteArray), 68⟩ : S42) )) (Reps.c5 (show Kd.M k42 _ _ _ (⟨(⟨#[112, 101, 114, 115, 105, 97, 110, 108, 111, 110, 103]⟩ : ByteArray), 226896, 2820, (⟨#[40, 40, 121, 32, 45, 32, 52, 55, 52, 41, 32, 37, 32, 50, 56, 50, 48, 32, 43, 32, 53, 49, 50, 41, 32, 42, 32, 54, 56, 50, 32, 37, 32, 50, 56, 49, 54, 32, 60, 32, 54, 56, 50]⟩ : ByteArray), 68⟩ : S42) [.string (⟨#[112, 101, 114, 115, 105, 97, 110, 108, 111, 110, 103]⟩ : ByteArray), .int .i64 226896, .int .i64 2820, .string (⟨#[40, 40, 121, 32, 45, 32, 52, 55, 52, 41, 32, 37, 32, 50, 56, 50, 48, 32, 43, 32, 53, 49, 50, 41, 32, 42, 32, 54, 56, 50, 32, 37, 32, 50, 56, 49, 54, 32, 60, 32, 54, 56, 50]⟩ : ByteArray), .int .u8 68] from (k42_mkM _ _ _ (⟨(⟨#[112, 101, 114, 115, 105, 97, 110, 108, 111, 110, 103]⟩ : ByteArray), 226896, 2820, (⟨#[40, 40, 121, 32, 45, 32, 52, 55, 52, 41, 32, 37, 32, 50, 56, 50, 48, 32, 43, 32, 53, 49, 50, 41, 32, 42, 32, 54, 56, 50, 32, 37, 32, 50, 56, 49, 54, 32, 60, 32, 54, 56, 50]⟩ : ByteArray), 68⟩ : S42) )) (Reps.c5 (show Kd.M k42 _ _ _ (⟨(⟨#[105, 110, 100, 105, 97, 110]⟩ : ByteArray), 28570, 400, (⟨#[40, 121, 32, 43, 32, 55, 56, 41, 32, 37, 32, 52, 32, 61, 32, 48, 32, 97, 110, 100, 32, 40, 110, 111, 116, 32, 40, 121, 32, 43, 32, 55, 56, 41, 32, 37, 32, 49, 48, 48, 32, 61, 32, 48, 32, 111, 114, 32, 40, 121, 32, 43, 32, 55, 56, 41, 32, 37, 32, 52, 48, 48, 32, 61, 32, 48, 41]⟩ : ByteArray), 69⟩ : S42) [.string (⟨#[105, 110, 100, 105, 97, 110]⟩ : ByteArray), .int .i64 28570, .int .i64 400, .string (⟨#[40, 121, 32, 43, 32, 55, 56, 41, 32, 37, 32, 52, 32, 61, 32, 48, 32, 97, 110, 100, 32, 40, 110, 111, 116, 32, 40, 121, 32, 43, 32, 55, 56, 41, 32, 37, 32, 49, 48, 48, 32, 61, 32, 48, 32, 111, 114, 32, 40, 121, 32, 43, 32, 55, 56, 41, 32, 37, 32, 52, 48, 48, 32, 61, 32, 48, 41]⟩ : ByteArray), .int .u8 69] from (k42_mkM _ _ _ (⟨(⟨#[105, 110, 100, 105, 97, 110]⟩ : ByteArray), 28570, 400, (⟨#[40, 121, 32, 43, 32, 55, 56, 41, 32, 37, 32, 52, 32, 61, 32, 48, 32, 97, 110, 100, 32, 40, 110, 111, 116, 32, 40, 121, 32, 43, 32, 55, 56, 41, 32, 37, 32, 49, 48, 48, 32, 61, 32, 48, 32, 111, 114, 32, 40, 121, 32, 43, 32, 55, 56, 41, 32, 37, 32, 52, 48, 48, 32, 61, 32, 48, 41]⟩ : ByteArray), 69⟩ : S42) )) (Reps.c5 (show Kd.M k42 _ _ _ (⟨(⟨#[98, 97, 100, 105]⟩ : ByteArray), 673222, 400, (⟨#[40, 121, 32, 43, 32, 49, 56, 52, 52, 41, 32, 37, 32, 52, 32, 61, 32, 48, 32, 97, 110, 100, 32, 40, 110, 111, 116, 32, 40, 121, 32, 43, 32, 49, 56, 52, 52, 41, 32, 37, 32, 49, 48, 48, 32, 61, 32, 48, 32, 111, 114, 32, 40, 121, 32, 43, 32, 49, 56, 52, 52, 41, 32, 37, 32, 52, 48, 48, 32, 61, 32, 48, 41]⟩ : ByteArray), 70⟩ : S42) [.string (⟨#[98, 97, 100, 105]⟩ : ByteArray), .int .i64 673222, .int .i64 400, .string (⟨#[40, 121, 32, 43, 32, 49, 56, 52, 52, 41, 32, 37, 32, 52, 32, 61, 32, 48, 32, 97, 110, 100, 32, 40, 110, 111, 116, 32, 40, 121, 32, 43, 32, 49, 56, 52, 52, 41, 32, 37, 32, 49, 48, 48, 32, 61, 32, 48, 32, 111, 114, 32, 40, 121, 32, 43, 32, 49, 56, 52, 52, 41, 32, 37, 32, 52, 48, 48, 32, 61, 32, 48, 41]⟩ : ByteArray), .int .u8 70] from (k42_mkM _ _ _ (⟨(⟨#[98, 97, 100, 105]⟩ : ByteArray), 673222, 400, (⟨#[40, 121, 32, 43, 32, 49, 56, 52, 52, 41, 32, 37, 32, 52, 32, 61, 32, 48, 32, 97, 110, 100, 32, 40, 110, 111, 116, 32, 40, 121, 32, 43, 32, 49, 56, 52, 52, 41, 32, 37, 32, 49, 48, 48, 32, 61, 32, 48, 32, 111, 114, 32, 40, 121, 32, 43, 32, 49, 56, 52, 52, 41, 32, 37, 32, 52, 48, 48, 32, 61, 32, 48, 41]⟩ : ByteArray), 70⟩ : S42) )) (Reps.c5 (show Kd.M k42 _ _ _ (⟨(⟨#[114, 101, 112, 117, 98, 108, 105, 99]⟩ : ByteArray), 654415, 400, (⟨#[121, 32, 37, 32, 52, 32, 61, 32, 48, 32, 97, 110, 100, 32, 40, 110, 111, 116, 32, 121, 32, 37, 32, 49, 48, 48, 32, 61, 32, 48, 32, 111, 114, 32, 121, 32, 37, 32, 52, 48, 48, 32, 61, 32, 48, 41]⟩ : ByteArray), 66⟩ : S42) [.string (⟨#[114, 101, 112, 117, 98, 108, 105, 99]⟩ : ByteArray), .int .i64 654415, .int .i64 400, .string (⟨#[121, 32, 37, 32, 52, 32, 61, 32, 48, 32, 97, 110, 100, 32, 40, 110, 111, 116, 32, 121, 32, 37, 32, 49, 48, 48, 32, 61, 32, 48, 32, 111, 114, 32, 121, 32, 37, 32, 52, 48, 48, 32, 61, 32, 48, 41]⟩ : ByteArray), .int .u8 66] from (k42_mkM _ _ _ (⟨(⟨#[114, 101, 112, 117, 98, 108, 105, 99]⟩ : ByteArray), 654415, 400, (⟨#[121, 32, 37, 32, 52, 32, 61, 32, 48, 32, 97, 110, 100, 32, 40, 110, 111, 116, 32, 121, 32, 37, 32, 49, 48, 48, 32, 61, 32, 48, 32, 111, 114, 32, 121, 32, 37, 32, 52, 48, 48, 32, 61, 32, 48, 41]⟩ : ByteArray), 66⟩ : S42) )) (Reps.c5 (show Kd.M k42 _ _ _ (⟨(⟨#[114, 101, 112, 117, 98, 108, 105, 99, 111, 108, 100]⟩ : ByteArray), 654415, 4, (⟨#[121, 32, 37, 32, 52, 32, 61, 32, 51]⟩ : ByteArray), 66⟩ : S42) [.string (⟨#[114, 101, 112, 117, 98, 108, 105, 99, 111, 108, 100]⟩ : ByteArray), .int .i64 654415, .int .i64 4, .string (⟨#[121, 32, 37, 32, 52, 32, 61, 32, 51]⟩ : ByteArray), .int .u8 66] from (k42_mkM _ _ _ (⟨(⟨#[114, 101, 112, 117, 98, 108, 105, 99, 111, 108, 100]⟩ : ByteArray), 654415, 4, (⟨#[121, 32, 37, 32, 52, 32, 61, 32, 51]⟩ : ByteArray), 66⟩ : S42) )) (Reps.c5 (show Kd.M k42 _ _ _ (⟨(⟨#[104, 97, 97, 98]⟩ : ByteArray), (-1137490), 1, (⟨#[48]⟩ : ByteArray), 74⟩ : S42) [.string (⟨#[104, 97, 97, 98]⟩ : ByteArray), .int .i64 (-1137490), .int .i64 1, .string (⟨#[48]⟩ : ByteArray), .int .u8 74] from (k42_mkM _ _ _ (⟨(⟨#[104, 97, 97, 98]⟩ : ByteArray), (-1137490), 1, (⟨#[48]⟩ : ByteArray), 74⟩ : S42) )) (Reps.c5 (show Kd.M k42 _ _ _ (⟨(⟨#[116, 117, 110]⟩ : ByteArray), (-1137142), 1, (⟨#[48]⟩ : ByteArray), 75⟩ : S42) [.string (⟨#[116, 117, 110]⟩ : ByteArray), .int .i64 (-1137142), .int .i64 1, .string (⟨#[48]⟩ : ByteArray), .int .u8 75] from (k42_mkM _ _ _ (⟨(⟨#[116, 117, 110]⟩ : ByteArray), (-1137142), 1, (⟨#[48]⟩ : ByteArray), 75⟩ : S42) )) (Reps.c5 (show Kd.M k42 _ _ _ (⟨(⟨#[116, 122, 111, 108, 107, 105, 110]⟩ : ByteArray), (-1137301), 1, (⟨#[48]⟩ : ByteArray), 76⟩ : S42) [.string (⟨#[116, 122, 111, 108, 107, 105, 110]⟩ : ByteArray), .int .i64 (-1137301), .int .i64 1, .string (⟨#[48]⟩ : ByteArray), .int .u8 76] from (k42_mkM _ _ _ (⟨(⟨#[116, 122, 111, 108, 107, 105, 110]⟩ : ByteArray), (-1137301), 1, (⟨#[48]⟩ : ByteArray), 76⟩ : S42) )) (Reps.c5 (show Kd.M k42 _ _ _ (⟨(⟨#[119, 101, 101, 107, 121, 101, 97, 114]⟩ : ByteArray), 1, 293, (⟨#[40, 53, 50, 32, 42, 32, 121, 32, 43, 32, 49, 54, 54, 41, 32, 37, 32, 50, 57, 51, 32, 60, 32, 53, 50]⟩ : ByteArray), 71⟩ : S42) [.string (⟨#[119, 101, 101, 107, 121, 101, 97, 114]⟩ : ByteArray), .int .i64 1, .int .i64 293, .string (⟨#[40, 53, 50, 32, 42, 32, 121, 32, 43, 32, 49, 54, 54, 41, 32, 37, 32, 50, 57, 51, 32, 60, 32, 53, 50]⟩ : ByteArray), .int .u8 71] from (k42_mkM _ _ _ (⟨(⟨#[119, 101, 101, 107, 121, 101, 97, 114]⟩ : ByteArray), 1, 293, (⟨#[40, 53, 50, 32, 42, 32, 121, 32, 43, 32, 49, 54, 54, 41, 32, 37, 32, 50, 57, 51, 32, 60, 32, 53, 50]⟩ : ByteArray), 71⟩ : S42) )) (Reps.c5 (show Kd.M k42 _ _ _ (⟨(⟨#[102, 105, 120, 101, 100, 121, 101, 97, 114]⟩ : ByteArray), 1, 400, (⟨#[121, 32, 37, 32, 52, 32, 61, 32, 48, 32, 97, 110, 100, 32, 40, 110, 111, 116, 32, 121, 32, 37, 32, 49, 48, 48, 32, 61, 32, 48, 32, 111, 114, 32, 121, 32, 37, 32, 52, 48, 48, 32, 61, 32, 48, 41]⟩ : ByteArray), 72⟩ : S42) [.string (⟨#[102, 105, 120, 101, 100, 121, 101, 97, 114]⟩ : ByteArray), .int .i64 1, .int .i64 400, .string (⟨#[121, 32, 37, 32, 52, 32, 61, 32, 48, 32, 97, 110, 100, 32, 40, 110, 111, 116, 32, 121, 32, 37, 32, 49, 48, 48, 32, 61, 32, 48, 32, 111, 114, 32, 121, 32, 37, 32, 52, 48, 48, 32, 61, 32, 48, 41]⟩ : ByteArray), .int .u8 72] from (k42_mkM _ _ _ (⟨(⟨#[102, 105, 120, 101, 100, 121, 101, 97, 114]⟩ : ByteArray), 1, 400, (⟨#[121, 32, 37, 32, 52, 32, 61, 32, 48, 32, 97, 110, 100, 32, 40, 110, 111, 116, 32, 121, 32, 37, 32, 49, 48, 48, 32, 61, 32, 48, 32, 111, 114, 32, 121, 32, 37, 32, 52, 48, 48, 32, 61, 32, 48, 41]⟩ : ByteArray), 72⟩ : S42) )) (Reps.c5 (show Kd.M k42 _ _ _ (⟨(⟨#[112, 111, 115, 105, 116, 105, 118, 101]⟩ : ByteArray), 653055, 400, (⟨#[40, 121, 32, 43, 32, 49, 55, 56, 56, 41, 32, 37, 32, 52, 32, 61, 32, 48, 32, 97, 110, 100, 32, 40, 110, 111, 116, 32, 40, 121, 32, 43, 32, 49, 55, 56, 56, 41, 32, 37, 32, 49, 48, 48, 32, 61, 32, 48, 32, 111, 114, 32, 40, 121, 32, 43, 32, 49, 55, 56, 56, 41, 32, 37, 32, 52, 48, 48, 32, 61, 32, 48, 41]⟩ : ByteArray), 72⟩ : S42) [.string (⟨#[112, 111, 115, 105, 116, 105, 118, 101]⟩ : ByteArray), .int .i64 653055, .int .i64 400, .string (⟨#[40, 121, 32, 43, 32, 49, 55, 56, 56, 41, 32, 37, 32, 52, 32, 61, 32, 48, 32, 97, 110, 100, 32, 40, 110, 111, 116, 32, 40, 121, 32, 43, 32, 49, 55, 56, 56, 41, 32, 37, 32, 49, 48, 48, 32, 61, 32, 48, 32, 111, 114, 32, 40, 121, 32, 43, 32, 49, 55, 56, 56, 41, 32, 37, 32, 52, 48, 48, 32, 61, 32, 48, 41]⟩ : ByteArray), .int .u8 72] from (k42_mkM _ _ _ (⟨(⟨#[112, 111, 115, 105, 116, 105, 118, 101]⟩ : ByteArray), 653055, 400, (⟨#[40, 121, 32, 43, 32, 49, 55, 56, 56, 41, 32, 37, 32, 52, 32, 61, 32, 48, 32, 97, 110, 100, 32, 40, 110, 111, 116, 32, 40, 121, 32, 43, 32, 49, 55, 56, 56, 41, 32, 37, 32, 49, 48, 48, 32, 61, 32, 48, 32, 111, 114, 32, 40, 121, 32, 43, 32, 49, 55, 56, 56, 41, 32, 37, 32, 52, 48, 48, 32, 61, 32, 48, 41]⟩ : ByteArray), 72⟩ : S42) )) (Reps.c5 (show Kd.M k42 _ _ _ (⟨(⟨#[115, 101, 97, 115, 111, 110, 115]⟩ : ByteArray), 1, 400, (⟨#[121, 32, 37, 32, 52, 32, 61, 32, 48, 32, 97, 110, 100, 32, 40, 110, 111, 116, 32, 121, 32, 37, 32, 49, 48, 48, 32, 61, 32, 48, 32, 111, 114, 32, 121, 32, 37, 32, 52, 48, 48, 32, 61, 32, 48, 41]⟩ : ByteArray), 78⟩ : S42) [.string (⟨#[115, 101, 97, 115, 111, 110, 115]⟩ : ByteArray), .int .i64 1, .int .i64 400, .string (⟨#[121, 32, 37, 32, 52, 32, 61, 32, 48, 32, 97, 110, 100, 32, 40, 110, 111, 116, 32, 121, 32, 37, 32, 49, 48, 48, 32, 61, 32, 48, 32, 111, 114, 32, 121, 32, 37, 32, 52, 48, 48, 32, 61, 32, 48, 41]⟩ : ByteArray), .int .u8 78] from (k42_mkM _ _ _ (⟨(⟨#[115, 101, 97, 115, 111, 110, 115]⟩ : ByteArray), 1, 400, (⟨#[121, 32, 37, 32, 52, 32, 61, 32, 48, 32, 97, 110, 100, 32, 40, 110, 111, 116, 32, 121, 32, 37, 32, 49, 48, 48, 32, 61, 32, 48, 32, 111, 114, 32, 121, 32, 37, 32, 52, 48, 48, 32, 61, 32, 48, 41]⟩ : ByteArray), 78⟩ : S42) )) (Reps.c5 (show Kd.M k42 _ _ _ (⟨(⟨#[109, 97, 114, 99, 104, 111, 108, 100]⟩ : ByteArray), 58, 4, (⟨#[121, 32, 37, 32, 52, 32, 61, 32, 51]⟩ : ByteArray), 79⟩ : S42) [.string (⟨#[109, 97, 114, 99, 104, 111, 108, 100]⟩ : ByteArray), .int .i64 58, .int .i64 4, .string (⟨#[121, 32, 37, 32, 52, 32, 61, 32, 51]⟩ : ByteArray), .int .u8 79] from (k42_mkM _ _ _ (⟨(⟨#[109, 97, 114, 99, 104, 111, 108, 100]⟩ : ByteArray), 58, 4, (⟨#[121, 32, 37, 32, 52, 32, 61, 32, 51]⟩ : ByteArray), 79⟩ : S42) )) (Reps.c5 (show Kd.M k42 _ _ _ (⟨(⟨#[109, 97, 114, 99, 104, 110, 101, 119]⟩ : ByteArray), 60, 400, (⟨#[40, 121, 32, 43, 32, 49, 41, 32, 37, 32, 52, 32, 61, 32, 48, 32, 97, 110, 100, 32, 40, 110, 111, 116, 32, 40, 121, 32, 43, 32, 49, 41, 32, 37, 32, 49, 48, 48, 32, 61, 32, 48, 32, 111, 114, 32, 40, 121, 32, 43, 32, 49, 41, 32, 37, 32, 52, 48, 48, 32, 61, 32, 48, 41]⟩ : ByteArray), 79⟩ : S42) [.string (⟨#[109, 97, 114, 99, 104, 110, 101, 119]⟩ : ByteArray), .int .i64 60, .int .i64 400, .string (⟨#[40, 121, 32, 43, 32, 49, 41, 32, 37, 32, 52, 32, 61, 32, 48, 32, 97, 110, 100, 32, 40, 110, 111, 116, 32, 40, 121, 32, 43, 32, 49, 41, 32, 37, 32, 49, 48, 48, 32, 61, 32, 48, 32, 111, 114, 32, 40, 121, 32, 43, 32, 49, 41, 32, 37, 32, 52, 48, 48, 32, 61, 32, 48, 41]⟩ : ByteArray), .int .u8 79] from (k42_mkM _ _ _ (⟨(⟨#[109, 97, 114, 99, 104, 110, 101, 119]⟩ : ByteArray), 60, 400, (⟨#[40, 121, 32, 43, 32, 49, 41, 32, 37, 32, 52, 32, 61, 32, 48, 32, 97, 110, 100, 32, 40, 110, 111, 116, 32, 40, 121, 32, 43, 32, 49, 41, 32, 37, 32, 49, 48, 48, 32, 61, 32, 48, 32, 111, 114, 32, 40, 121, 32, 43, 32, 49, 41, 32, 37, 32, 52, 48, 48, 32, 61, 32, 48, 41]⟩ : ByteArray), 79⟩ : S42) )) (Reps.c5 (show Kd.M k42 _ _ _ (⟨(⟨#[98, 121, 122, 97, 110, 116, 105, 110, 101]⟩ : ByteArray), (-2011920), 4, (⟨#[121, 32, 37, 32, 52, 32, 61, 32, 48]⟩ : ByteArray), 82⟩ : S42) [.string (⟨#[98, 121, 122, 97, 110, 116, 105, 110, 101]⟩ : ByteArray), .int .i64 (-2011920), .int .i64 4, .string (⟨#[121, 32, 37, 32, 52, 32, 61, 32, 48]⟩ : ByteArray), .int .u8 82] from (k42_mkM _ _ _ (⟨(⟨#[98, 121, 122, 97, 110, 116, 105, 110, 101]⟩ : ByteArray), (-2011920), 4, (⟨#[121, 32, 37, 32, 52, 32, 61, 32, 48]⟩ : ByteArray), 82⟩ : S42) )) (Reps.c5 (show Kd.M k42 _ _ _ (⟨(⟨#[115, 121, 114, 105, 97, 110]⟩ : ByteArray), (-113686), 4, (⟨#[121, 32, 37, 32, 52, 32, 61, 32, 51]⟩ : ByteArray), 83⟩ : S42) [.string (⟨#[115, 121, 114, 105, 97, 110]⟩ : ByteArray), .int .i64 (-113686), .int .i64 4, .string (⟨#[121, 32, 37, 32, 52, 32, 61, 32, 51]⟩ : ByteArray), .int .u8 83] from (k42_mkM _ _ _ (⟨(⟨#[115, 121, 114, 105, 97, 110]⟩ : ByteArray), (-113686), 4, (⟨#[121, 32, 37, 32, 52, 32, 61, 32, 51]⟩ : ByteArray), 83⟩ : S42) )) (Reps.c5 (show Kd.M k42 _ _ _ (⟨(⟨#[111, 108, 121, 109, 112, 105, 99]⟩ : ByteArray), (-283000), 8, (⟨#[121, 32, 37, 32, 56, 32, 61, 32, 51, 32, 111, 114, 32, 121, 32, 37, 32, 56, 32, 61, 32, 53, 32, 111, 114, 32, 121, 32, 37, 32, 56, 32, 61, 32, 48]⟩ : ByteArray), 80⟩ : S42) [.string (⟨#[111, 108, 121, 109, 112, 105, 99]⟩ : ByteArray), .int .i64 (-283000), .int .i64 8, .string (⟨#[121, 32, 37, 32, 56, 32, 61, 32, 51, 32, 111, 114, 32, 121, 32, 37, 32, 56, 32, 61, 32, 53, 32, 111, 114, 32, 121, 32, 37, 32, 56, 32, 61, 32, 48]⟩ : ByteArray), .int .u8 80] from (k42_mkM _ _ _ (⟨(⟨#[111, 108, 121, 109, 112, 105, 99]⟩ : ByteArray), (-283000), 8, (⟨#[121, 32, 37, 32, 56, 32, 61, 32, 51, 32, 111, 114, 32, 121, 32, 37, 32, 56, 32, 61, 32, 53, 32, 111, 114, 32, 121, 32, 37, 32, 56, 32, 61, 32, 48]⟩ : ByteArray), 80⟩ : S42) )) (Reps.c5 (show Kd.M k42 _ _ _ (⟨(⟨#[109, 101, 116, 111, 110, 105, 99]⟩ : ByteArray), (-1373429), 19, (⟨#[40, 55, 32, 42, 32, 121, 32, 43, 32, 49, 41, 32, 37, 32, 49, 57, 32, 60, 32, 55]⟩ : ByteArray), 80⟩ : S42) [.string (⟨#[109, 101, 116, 111, 110, 105, 99]⟩ : ByteArray), .int .i64 (-1373429), .int .i64 19, .string (⟨#[40, 55, 32, 42, 32, 121, 32, 43, 32, 49, 41, 32, 37, 32, 49, 57, 32, 60, 32, 55]⟩ : ByteArray), .int .u8 80] from (k42_mkM _ _ _ (⟨(⟨#[109, 101, 116, 111, 110, 105, 99]⟩ : ByteArray), (-1373429), 19, (⟨#[40, 55, 32, 42, 32, 121, 32, 43, 32, 49, 41, 32, 37, 32, 49, 57, 32, 60, 32, 55]⟩ : ByteArray), 80⟩ : S42) )) (Reps.c5 (show Kd.M k42 _ _ _ (⟨(⟨#[109, 101, 116, 111, 110, 105, 99, 98]⟩ : ByteArray), (-272000), 19, (⟨#[40, 55, 32, 42, 32, 121, 32, 43, 32, 53, 41, 32, 37, 32, 49, 57, 32, 60, 32, 55]⟩ : ByteArray), 80⟩ : S42) [.string (⟨#[109, 101, 116, 111, 110, 105, 99, 98]⟩ : ByteArray), .int .i64 (-272000), .int .i64 19, .string (⟨#[40, 55, 32, 42, 32, 121, 32, 43, 32, 53, 41, 32, 37, 32, 49, 57, 32, 60, 32, 55]⟩ : ByteArray), .int .u8 80] from (k42_mkM _ _ _ (⟨(⟨#[109, 101, 116, 111, 110, 105, 99, 98]⟩ : ByteArray), (-272000), 19, (⟨#[40, 55, 32, 42, 32, 121, 32, 43, 32, 53, 41, 32, 37, 32, 49, 57, 32, 60, 32, 55]⟩ : ByteArray), 80⟩ : S42) )) (Reps.c5 (show Kd.M k42 _ _ _ (⟨(⟨#[108, 101, 97, 112, 104, 101, 97, 100]⟩ : ByteArray), 1, 4, (⟨#[121, 32, 37, 32, 52, 32, 61, 32, 48]⟩ : ByteArray), 81⟩ : S42) [.string (⟨#[108, 101, 97, 112, 104, 101, 97, 100]⟩ : ByteArray), .int .i64 1, .int .i64 4, .string (⟨#[121, 32, 37, 32, 52, 32, 61, 32, 48]⟩ : ByteArray), .int .u8 81] from (k42_mkM _ _ _ (⟨(⟨#[108, 101, 97, 112, 104, 101, 97, 100]⟩ : ByteArray), 1, 4, (⟨#[121, 32, 37, 32, 52, 32, 61, 32, 48]⟩ : ByteArray), 81⟩ : S42) )) (Reps.c5 (show Kd.M k42 _ _ _ (⟨(⟨#[100, 101, 99, 105, 109, 97, 108]⟩ : ByteArray), 1, 400, (⟨#[121, 32, 37, 32, 52, 32, 61, 32, 48, 32, 97, 110, 100, 32, 40, 110, 111, 116, 32, 121, 32, 37, 32, 49, 48, 48, 32, 61, 32, 48, 32, 111, 114, 32, 121, 32, 37, 32, 52, 48, 48, 32, 61, 32, 48, 41]⟩ : ByteArray), 84⟩ : S42) [.string (⟨#[100, 101, 99, 105, 109, 97, 108]⟩ : ByteArray), .int .i64 1, .int .i64 400, .string (⟨#[121, 32, 37, 32, 52, 32, 61, 32, 48, 32, 97, 110, 100, 32, 40, 110, 111, 116, 32, 121, 32, 37, 32, 49, 48, 48, 32, 61, 32, 48, 32, 111, 114, 32, 121, 32, 37, 32, 52, 48, 48, 32, 61, 32, 48, 41]⟩ : ByteArray), .int .u8 84] from (k42_mkM _ _ _ (⟨(⟨#[100, 101, 99, 105, 109, 97, 108]⟩ : ByteArray), 1, 400, (⟨#[121, 32, 37, 32, 52, 32, 61, 32, 48, 32, 97, 110, 100, 32, 40, 110, 111, 116, 32, 121, 32, 37, 32, 49, 48, 48, 32, 61, 32, 48, 32, 111, 114, 32, 121, 32, 37, 32, 52, 48, 48, 32, 61, 32, 48, 41]⟩ : ByteArray), 84⟩ : S42) )) (Reps.c5 (show Kd.M k42 _ _ _ (⟨(⟨#[119, 105, 110, 116, 101, 114]⟩ : ByteArray), (-272000), 4, (⟨#[121, 32, 37, 32, 52, 32, 61, 32, 48]⟩ : ByteArray), 77⟩ : S42) [.string (⟨#[119, 105, 110, 116, 101, 114]⟩ : ByteArray), .int .i64 (-272000), .int .i64 4, .string (⟨#[121, 32, 37, 32, 52, 32, 61, 32, 48]⟩ : ByteArray), .int .u8 77] from (k42_mkM _ _ _ (⟨(⟨#[119, 105, 110, 116, 101, 114]⟩ : ByteArray), (-272000), 4, (⟨#[121, 32, 37, 32, 52, 32, 61, 32, 48]⟩ : ByteArray), 77⟩ : S42) )) (Reps.c5 (show Kd.M k42 _ _ _ (⟨(⟨#[97, 108, 119, 97, 121, 115]⟩ : ByteArray), 1, 1, (⟨#[49]⟩ : ByteArray), 65⟩ : S42) [.string (⟨#[97, 108, 119, 97, 121, 115]⟩ : ByteArray), .int .i64 1, .int .i64 1, .string (⟨#[49]⟩ : ByteArray), .int .u8 65] from (k42_mkM _ _ _ (⟨(⟨#[97, 108, 119, 97, 121, 115]⟩ : ByteArray), 1, 1, (⟨#[49]⟩ : ByteArray), 65⟩ : S42) )) (Reps.c5 (show Kd.M k42 _ _ _ (⟨(⟨#[110, 101, 118, 101, 114]⟩ : ByteArray), 1, 1, (⟨#[48]⟩ : ByteArray), 65⟩ : S42) [.string (⟨#[110, 101, 118, 101, 114]⟩ : ByteArray), .int .i64 1, .int .i64 1, .string (⟨#[48]⟩ : ByteArray), .int .u8 65] from (k42_mkM _ _ _ (⟨(⟨#[110, 101, 118, 101, 114]⟩ : ByteArray), 1, 1, (⟨#[48]⟩ : ByteArray), 65⟩ : S42) )) (Reps.none _ _)))))))))))))))))))))))))))))))))))))))))); intro v109 w1 ho2 hb hg_ hnew_; clear hg_ hnew_; (first | rw [← Ny108.out] at ho2 | (simp only [Int.reduceToNat] at ho2; rw [← Ny108.out] at ho2)); have n0_ := Aside0.mk (Kd.R_lower ho2 (below_size (by repeat (first | (with_reducible first | exact HB.out | apply below_alloc | apply pw_below_drewN | apply below_drew1) | exact HB.out)))); have n1_ := Aside0.mk (below_step (by repeat (first | (with_reducible first | exact HB.out | apply below_alloc | apply pw_below_drewN | apply below_drew1) | exact HB.out)) hb); clear HB; have HO110 := n0_; have HB := n1_; clear n0_ n1_; clear hb ho2))
  go_ret
  exact ⟨_, by first | rfl | (simp [errW_none, errW_some] <;> rfl) | (simp [*, errW_none, errW_some] <;> rfl), by (with_reducible repeat (first | apply Kd.R_alloc | apply Kd.R_drewN | apply Kd.R_drew)); exact HO110.out, by repeat (first | (with_reducible first | exact HB.out | apply below_alloc | apply pw_below_drewN | apply below_drew1) | exact HB.out)⟩


/-! ### strings_Builder_WriteString: function 15 -/
/-- A text with another one behind it, within Go's own limit. -/
def strings_Builder_WriteString.f (s0_0 a1 : ByteArray) : Option (Int × Option Int × ByteArray) := if s0_0.size + a1.size ≤ 140737488355328 then some ((a1.size : Int), none, s0_0 ++ a1) else none
def strings_Builder_WriteString.ren : Go.Shelf.Ren := ⟨fun | 166 => 15 | 240 => 23 | 276 => 30 | n => n, fun | 0 => 0 | 3 => 3 | 4 => 4 | 9 => 9 | 20 => 20 | 37 => 38 | 70 => 43 | 72 => 45 | 75 => 47 | 164 => 64 | 5 => 5 | 80 => 55 | n => n, fun | n => n⟩
theorem strings_Builder_WriteString.lays : Go.Proofs.Lays.n166 Tryd.prog strings_Builder_WriteString.ren := {
  mixed := by kernel_rfl
  f166 := Tryd.func15.trans (congrArg some (by kernel_rfl))
  f240 := Tryd.func23.trans (congrArg some (by kernel_rfl))
  f276 := Tryd.func30.trans (congrArg some (by kernel_rfl))
  t0 := Tryd.underlying0
  a0 := Tryd.isAgg0
  z0 := Tryd.sizeOf0
  v0 := Tryd.zeroValue0
  t3 := Tryd.underlying3
  a3 := Tryd.isAgg3
  z3 := Tryd.sizeOf3
  v3 := Tryd.zeroValue3
  t4 := Tryd.underlying4
  a4 := Tryd.isAgg4
  z4 := Tryd.sizeOf4
  v4 := Tryd.zeroValue4
  t9 := Tryd.underlying9
  a9 := Tryd.isAgg9
  z9 := Tryd.sizeOf9
  v9 := Tryd.zeroValue9
  t20 := Tryd.underlying20
  a20 := Tryd.isAgg20
  z20 := Tryd.sizeOf20
  v20 := Tryd.zeroValue20
  t37 := Tryd.underlying38
  a37 := Tryd.isAgg38
  z37 := Tryd.sizeOf38
  v37 := Tryd.zeroValue38
  t70 := Tryd.underlying43
  a70 := Tryd.isAgg43
  z70 := Tryd.sizeOf43
  v70 := Tryd.zeroValue43
  t72 := Tryd.underlying45
  a72 := Tryd.isAgg45
  z72 := Tryd.sizeOf45
  v72 := Tryd.zeroValue45
  t75 := Tryd.underlying47
  a75 := Tryd.isAgg47
  z75 := Tryd.sizeOf47
  v75 := Tryd.zeroValue47
  t164 := Tryd.underlying64
  a164 := Tryd.isAgg64
  z164 := Tryd.sizeOf64
  v164 := Tryd.zeroValue64 }
theorem strings_Builder_WriteString.extra : Go.Proofs.Builder.Extra Tryd.prog strings_Builder_WriteString.ren := { sizeBuilder := by kernel_rfl, liesBuilder := by kernel_rfl, t5 := Tryd.underlying5, a5 := Tryd.isAgg5, z5 := Tryd.sizeOf5, v5 := Tryd.zeroValue5, infoByte := by kernel_rfl, cellsByte := by kernel_rfl, sizeByte := by kernel_rfl, neB5 := by decide }
theorem strings_Builder_WriteString.calls (g : Nat) (s0_0 : ByteArray) (a1 : ByteArray) (r1 : Int) (r2 : Option Int) (r3 : ByteArray) (w0 w : World) (hI : IsS133 w0 w g s0_0) (hB : Below w0.heap.size w0 w) (h : strings_Builder_WriteString.f s0_0 a1 = some (r1, r2, r3)) :
    Calls Tryd.prog 15 #[.pointer (some ⟨g, 0, none⟩), .string a1] w fun e w' => e = .returned (.tuple #[.int .i64 r1, errW r2]) ∧ IsS133 w0 w' g r3 ∧ Below w0.heap.size w0 w' ∧ KeepB133 w w' g none := by
  unfold strings_Builder_WriteString.f at h
  by_cases c : s0_0.size + a1.size ≤ 140737488355328
  · rw [if_pos c] at h
    obtain ⟨rfl, h1⟩ := Prod.mk.inj (Option.some.inj h)
    obtain ⟨rfl, rfl⟩ := Prod.mk.inj h1
    refine (Go.Proofs.Any.Builder_WriteString_k strings_Builder_WriteString.lays strings_Builder_WriteString.extra w0.heap.size g _ a1 w hI (by rw [Go.Lib.byteCells, List.length_map, Array.length_toList]; exact c) hB.size).mono ?_
    rintro e w' ⟨rfl, h1, h2, h3⟩
    refine ⟨rfl, .inr ?_, hB.trans h2, KeepB133.of_others h3 h2.size⟩
    have e1 : Go.Lib.byteCells (s0_0 ++ a1).data.toList = Go.Lib.byteCells s0_0.data.toList ++ Go.Lib.strCells a1 := by
      rw [show (s0_0 ++ a1).data.toList = s0_0.data.toList ++ a1.data.toList from by simp]
      unfold Go.Lib.byteCells Go.Lib.strCells
      rw [List.map_append]
    rw [e1]
    exact h1
  · rw [if_neg c] at h; cases h

/-! ### strconv_Itoa: function 16 -/
/-- The decimal numeral. -/
def strconv_Itoa.f (a0 : Int) : Option (ByteArray) := if -9223372036854775808 ≤ a0 ∧ a0 ≤ 9223372036854775807 then some ⟨(Go.Lib.itoa a0).toArray⟩ else none
/-- The table of the powers of ten is laid. -/
def strconv_Itoa.Tab (w : World) : Prop := Go.Lib.TabIs Tryd.prog w "internal/strconv.uint64pow10" .u64 Go.Lib.pow10Tab
theorem strconv_Itoa.gTab : Tryd.prog.globalNamed "internal/strconv.uint64pow10" = some 2 := by kernel_rfl
theorem strconv_Itoa.Tab.below {w W : World} {n : Nat} (h : strconv_Itoa.Tab w) (hb : Below n w W) (hn : w.heap.size ≤ n) : strconv_Itoa.Tab W := by
  unfold strconv_Itoa.Tab Go.Lib.TabIs World.var? at h ⊢
  rw [strconv_Itoa.gTab] at h ⊢
  simp only [Option.bind_some] at h ⊢
  have hlt : 2 < w.heap.size := by
    rcases Nat.lt_or_ge 2 w.heap.size with h' | h'
    · exact h'
    · rw [Array.getElem?_eq_none h'] at h; cases h
  rw [hb.block 2 (Nat.lt_of_lt_of_le hlt hn)]
  exact h
def strconv_Itoa.ren : Go.Shelf.Ren := ⟨fun | 129 => 52 | 171 => 16 | 243 => 24 | 246 => 31 | 283 => 39 | 284 => 40 | 285 => 41 | 286 => 42 | 317 => 51 | 318 => 53 | 319 => 54 | 320 => 55 | 337 => 61 | 338 => 62 | n => n, fun | 0 => 0 | 2 => 2 | 3 => 3 | 4 => 4 | 5 => 5 | 9 => 9 | 20 => 20 | 37 => 38 | 46 => 102 | 51 => 70 | 53 => 79 | 171 => 78 | 173 => 82 | 212 => 100 | 213 => 101 | 232 => 113 | 233 => 114 | n => n, fun | 17 => 2 | 18 => 6 | 19 => 7 | n => n⟩
theorem strconv_Itoa.lays : Go.Proofs.LaysM.n171 Tryd.prog strconv_Itoa.ren := {
  mixed := by kernel_rfl
  f129 := Tryd.func52.trans (congrArg some (by kernel_rfl))
  f171 := Tryd.func16.trans (congrArg some (by kernel_rfl))
  f243 := Tryd.func24.trans (congrArg some (by kernel_rfl))
  f246 := Tryd.func31.trans (congrArg some (by kernel_rfl))
  f283 := Tryd.func39.trans (congrArg some (by kernel_rfl))
  f284 := Tryd.func40.trans (congrArg some (by kernel_rfl))
  f285 := Tryd.func41.trans (congrArg some (by kernel_rfl))
  f286 := Tryd.func42.trans (congrArg some (by kernel_rfl))
  f317 := Tryd.func51.trans (congrArg some (by kernel_rfl))
  f318 := Tryd.func53.trans (congrArg some (by kernel_rfl))
  f319 := Tryd.func54.trans (congrArg some (by kernel_rfl))
  f320 := Tryd.func55.trans (congrArg some (by kernel_rfl))
  f337 := Tryd.func61.trans (congrArg some (by kernel_rfl))
  f338 := Tryd.func62.trans (congrArg some (by kernel_rfl))
  t0 := Tryd.underlying0
  a0 := Tryd.isAgg0
  z0 := Tryd.sizeOf0
  v0 := Tryd.zeroValue0
  t2 := Tryd.underlying2
  a2 := Tryd.isAgg2
  z2 := Tryd.sizeOf2
  v2 := Tryd.zeroValue2
  t3 := Tryd.underlying3
  a3 := Tryd.isAgg3
  z3 := Tryd.sizeOf3
  v3 := Tryd.zeroValue3
  t4 := Tryd.underlying4
  a4 := Tryd.isAgg4
  z4 := Tryd.sizeOf4
  v4 := Tryd.zeroValue4
  t5 := Tryd.underlying5
  a5 := Tryd.isAgg5
  z5 := Tryd.sizeOf5
  v5 := Tryd.zeroValue5
  t9 := Tryd.underlying9
  a9 := Tryd.isAgg9
  z9 := Tryd.sizeOf9
  v9 := Tryd.zeroValue9
  t20 := Tryd.underlying20
  a20 := Tryd.isAgg20
  z20 := Tryd.sizeOf20
  v20 := Tryd.zeroValue20
  t37 := Tryd.underlying38
  a37 := Tryd.isAgg38
  z37 := Tryd.sizeOf38
  v37 := Tryd.zeroValue38
  t46 := Tryd.underlying102
  a46 := Tryd.isAgg102
  z46 := Tryd.sizeOf102
  v46 := Tryd.zeroValue102
  t51 := Tryd.underlying70
  a51 := Tryd.isAgg70
  z51 := Tryd.sizeOf70
  v51 := Tryd.zeroValue70
  t53 := Tryd.underlying79
  a53 := Tryd.isAgg79
  z53 := Tryd.sizeOf79
  v53 := Tryd.zeroValue79
  t171 := Tryd.underlying78
  a171 := Tryd.isAgg78
  z171 := Tryd.sizeOf78
  v171 := Tryd.zeroValue78
  t173 := Tryd.underlying82
  a173 := Tryd.isAgg82
  z173 := Tryd.sizeOf82
  v173 := Tryd.zeroValue82
  t212 := Tryd.underlying100
  a212 := Tryd.isAgg100
  z212 := Tryd.sizeOf100
  v212 := Tryd.zeroValue100
  t213 := Tryd.underlying101
  a213 := Tryd.isAgg101
  z213 := Tryd.sizeOf101
  t232 := Tryd.underlying113
  a232 := Tryd.isAgg113
  z232 := Tryd.sizeOf113
  v232 := Tryd.zeroValue113
  t233 := Tryd.underlying114
  a233 := Tryd.isAgg114
  z233 := Tryd.sizeOf114
  v233 := Tryd.zeroValue114
  g17 := by kernel_rfl
  g18 := by kernel_rfl
  g19 := by kernel_rfl
  i0 := by kernel_rfl
  i2 := by kernel_rfl
  i3 := by kernel_rfl
  i4 := by kernel_rfl
  i5 := by kernel_rfl
  i9 := by kernel_rfl
  i20 := by kernel_rfl
  i37 := by kernel_rfl
  i46 := by kernel_rfl
  i51 := by kernel_rfl
  i53 := by kernel_rfl
  i171 := by kernel_rfl
  i173 := by kernel_rfl
  i212 := by kernel_rfl
  i232 := by kernel_rfl
  i233 := by kernel_rfl
  m17 := by kernel_rfl
  m18 := by kernel_rfl
  m19 := by kernel_rfl }
theorem strconv_Itoa.calls (a0 : Int) (r : ByteArray) (w : World) (hT : strconv_Itoa.Tab w) (h : strconv_Itoa.f a0 = some r) :
    Calls Tryd.prog 16 #[.int .i64 a0] w fun e w' => e = .returned (.string r) ∧ Below w.heap.size w w' := by
  unfold strconv_Itoa.f at h
  by_cases c : -9223372036854775808 ≤ a0 ∧ a0 ≤ 9223372036854775807
  · rw [if_pos c] at h
    obtain rfl := Option.some.inj h
    refine (Go.Proofs.Any.strconv_Itoa strconv_Itoa.lays a0 c.1 c.2 w hT).mono ?_
    rintro e w' ⟨rfl, k, os, rfl⟩
    exact ⟨rfl, Go.Lib.below_grow w.heap.size w (Nat.le_refl _) k os⟩
  · rw [if_neg c] at h; cases h

/-! ### strings_Fields: function 17 -/
theorem strings_Split.row (w : World) (l : List ByteArray) (hl : l.length ≤ 140737488355328) : Kd.R Kd.string 9 (w.alloc (.cells (l.map Value.string).toArray 9)) w.heap.size (fun _ => True) (.slice (some ⟨w.heap.size, 0, none⟩) l.length l.length) l := by
  refine ⟨fun _ _ => trivial, l.map Value.string, ⟨by simp [Kd.string, Kd.scalar], .inr ⟨w.heap.size, l.length, (l.map Value.string).toArray, rfl, Nat.le_refl _, Array.getElem?_push_size, Nat.le_refl _, by unfold maxLen; omega, by simp [Kd.string, Kd.scalar], ?_⟩⟩, ?_⟩
  · show List.take (l.length * 1) (l.map Value.string) = l.map Value.string
    rw [Nat.mul_one]
    exact List.take_of_length_le (by simp)
  · exact Kd.reps_scalar l
/-- The words of an ASCII text. -/
def strings_Fields.f (a0 : ByteArray) : Option (List ByteArray) := if a0.size < 4294967281 ∧ a0.data.toList.all (fun b => decide (b.toNat < 128)) = true then some ((Go.Lib.fields a0.data.toList).map fun l => ⟨l.toArray⟩) else none
/-- The cells of strings.asciiSpace. -/
def strings_Fields.Tab_space : List Value := (List.range 256).map fun i => Value.int .u8 (if Go.Lib.isSp (UInt8.ofNat i) then 1 else 0)
/-- The laid tables. -/
def strings_Fields.Tab (w : World) : Prop := (∀ (i : Nat) (v : Value), strings_Fields.Tab_space[i]? = some v → w.cell? ⟨0, i, none⟩ = some v)
theorem strings_Fields.Tab.below {w W : World} {n : Nat} (h : strings_Fields.Tab w) (hb : Below n w W) (hn : w.heap.size ≤ n) : strings_Fields.Tab W :=
  fun i v e => (hb.cell (Nat.lt_of_lt_of_le (World.block_lt_of_cell? w _ (h i v e)) hn)).trans (h i v e)
def strings_Fields.ren : Go.Shelf.Ren := ⟨fun | 157 => 17 | 199 => 26 | 229 => 25 | 261 => 32 | 311 => 43 | 312 => 44 | n => n, fun | 0 => 0 | 3 => 3 | 4 => 4 | 5 => 5 | 9 => 9 | 21 => 21 | 31 => 51 | 40 => 58 | 46 => 102 | 49 => 88 | 51 => 70 | 119 => 56 | 141 => 72 | 152 => 67 | 154 => 69 | 193 => 84 | 194 => 85 | 196 => 87 | 198 => 90 | 201 => 93 | 226 => 104 | 227 => 105 | n => n, fun | 0 => 0 | 6 => 1 | n => n⟩
theorem strings_Fields.lays : Go.Proofs.Lays.n157 Tryd.prog strings_Fields.ren := {
  mixed := by kernel_rfl
  f157 := Tryd.func17.trans (congrArg some (by kernel_rfl))
  f199 := Tryd.func26.trans (congrArg some (by kernel_rfl))
  f229 := Tryd.func25.trans (congrArg some (by kernel_rfl))
  f261 := Tryd.func32.trans (congrArg some (by kernel_rfl))
  f311 := Tryd.func43.trans (congrArg some (by kernel_rfl))
  f312 := Tryd.func44.trans (congrArg some (by kernel_rfl))
  t0 := Tryd.underlying0
  a0 := Tryd.isAgg0
  z0 := Tryd.sizeOf0
  v0 := Tryd.zeroValue0
  t3 := Tryd.underlying3
  a3 := Tryd.isAgg3
  z3 := Tryd.sizeOf3
  v3 := Tryd.zeroValue3
  t4 := Tryd.underlying4
  a4 := Tryd.isAgg4
  z4 := Tryd.sizeOf4
  v4 := Tryd.zeroValue4
  t5 := Tryd.underlying5
  a5 := Tryd.isAgg5
  z5 := Tryd.sizeOf5
  v5 := Tryd.zeroValue5
  t9 := Tryd.underlying9
  a9 := Tryd.isAgg9
  z9 := Tryd.sizeOf9
  v9 := Tryd.zeroValue9
  t21 := Tryd.underlying21
  a21 := Tryd.isAgg21
  z21 := Tryd.sizeOf21
  v21 := Tryd.zeroValue21
  t31 := Tryd.underlying51
  a31 := Tryd.isAgg51
  z31 := Tryd.sizeOf51
  v31 := Tryd.zeroValue51
  t40 := Tryd.underlying58
  a40 := Tryd.isAgg58
  z40 := Tryd.sizeOf58
  v40 := Tryd.zeroValue58
  t46 := Tryd.underlying102
  a46 := Tryd.isAgg102
  z46 := Tryd.sizeOf102
  v46 := Tryd.zeroValue102
  t49 := Tryd.underlying88
  a49 := Tryd.isAgg88
  z49 := Tryd.sizeOf88
  v49 := Tryd.zeroValue88
  t51 := Tryd.underlying70
  a51 := Tryd.isAgg70
  z51 := Tryd.sizeOf70
  v51 := Tryd.zeroValue70
  t119 := Tryd.underlying56
  a119 := Tryd.isAgg56
  z119 := Tryd.sizeOf56
  t141 := Tryd.underlying72
  a141 := Tryd.isAgg72
  z141 := Tryd.sizeOf72
  v141 := Tryd.zeroValue72
  t152 := Tryd.underlying67
  a152 := Tryd.isAgg67
  z152 := Tryd.sizeOf67
  v152 := Tryd.zeroValue67
  t154 := Tryd.underlying69
  a154 := Tryd.isAgg69
  z154 := Tryd.sizeOf69
  v154 := Tryd.zeroValue69
  t193 := Tryd.underlying84
  a193 := Tryd.isAgg84
  z193 := Tryd.sizeOf84
  v193 := Tryd.zeroValue84
  t194 := Tryd.underlying85
  a194 := Tryd.isAgg85
  z194 := Tryd.sizeOf85
  v194 := Tryd.zeroValue85
  t196 := Tryd.underlying87
  a196 := Tryd.isAgg87
  z196 := Tryd.sizeOf87
  v196 := Tryd.zeroValue87
  t198 := Tryd.underlying90
  a198 := Tryd.isAgg90
  z198 := Tryd.sizeOf90
  v198 := Tryd.zeroValue90
  t201 := Tryd.underlying93
  a201 := Tryd.isAgg93
  z201 := Tryd.sizeOf93
  v201 := Tryd.zeroValue93
  t226 := Tryd.underlying104
  a226 := Tryd.isAgg104
  z226 := Tryd.sizeOf104
  v226 := Tryd.zeroValue104
  t227 := Tryd.underlying105
  a227 := Tryd.isAgg105
  z227 := Tryd.sizeOf105
  v227 := Tryd.zeroValue105
  g0 := by kernel_rfl
  g6 := by kernel_rfl }
theorem strings_Fields.cnt : ∀ (l : List UInt8) (ws : Bool), Go.Lib.cntF ws l ≤ l.length
  | [], _ => Nat.le_refl _
  | b :: t, ws => by
    have := strings_Fields.cnt t (Go.Lib.isSp b)
    simp only [Go.Lib.cntF, List.length_cons]
    split <;> omega
theorem strings_Fields.calls (a0 : ByteArray) (r : List ByteArray) (w : World) (hF : strings_Fields.Tab w) (h : strings_Fields.f a0 = some r) :
    Calls Tryd.prog 17 #[.string a0] w fun e w' => ∃ v0_ : Value, e = .returned (v0_) ∧ Kd.R Kd.string 9 w' w.heap.size (fun _ => True) v0_ r ∧ Below w.heap.size w w' := by
  unfold strings_Fields.f at h
  by_cases c : a0.size < 4294967281 ∧ a0.data.toList.all (fun b => decide (b.toNat < 128)) = true
  · rw [if_pos c] at h
    obtain rfl := Option.some.inj h
    refine (Go.Proofs.Any.strings_Fields_core strings_Fields.lays (by kernel_rfl) a0 w c.1 (fun j b hb => of_decide_eq_true (List.all_eq_true.1 c.2 b (List.mem_of_getElem? hb))) (fun k hk => hF k _ (by simp [strings_Fields.Tab_space, hk]))).mono ?_
    rintro e w' ⟨rfl, rfl⟩
    have hle : (Go.Lib.fields a0.data.toList).length ≤ a0.size := by rw [Go.Lib.fields_length, Go.Lib.size_eq]; exact strings_Fields.cnt _ _
    have := strings_Split.row w ((Go.Lib.fields a0.data.toList).map fun l => (⟨l.toArray⟩ : ByteArray)) (by rw [List.length_map]; omega)
    rw [List.length_map, List.map_map] at this
    exact ⟨_, rfl, this, (Below.refl w.heap.size w).alloc (Nat.le_refl _) _⟩
  · rw [if_neg c] at h; cases h

/-! ### catalog_months: function 18 -/
def catalog_months.f  : Option (List ByteArray) := some (([(⟨#[106, 97, 110, 32, 51, 49, 32, 102, 101, 98, 32, 50, 56, 47, 50, 57, 32, 109, 97, 114, 32, 51, 49, 32, 97, 112, 114, 32, 51, 48, 32, 109, 97, 121, 32, 51, 49, 32, 106, 117, 110, 32, 51, 48, 32, 106, 117, 108, 32, 51, 49, 32, 97, 117, 103, 32, 51, 49, 32, 115, 101, 112, 32, 51, 48, 32, 111, 99, 116, 32, 51, 49, 32, 110, 111, 118, 32, 51, 48, 32, 100, 101, 99, 32, 51, 49]⟩ : ByteArray), (⟨#[109, 97, 32, 51, 48, 32, 109, 98, 32, 51, 48, 32, 109, 99, 32, 51, 48, 32, 109, 100, 32, 51, 48, 32, 109, 101, 32, 51, 48, 32, 109, 102, 32, 51, 48, 32, 109, 103, 32, 51, 48, 32, 109, 104, 32, 51, 48, 32, 109, 105, 32, 51, 48, 32, 109, 106, 32, 51, 48, 32, 109, 107, 32, 51, 48, 32, 109, 108, 32, 51, 48, 32, 101, 110, 100, 32, 53, 47, 54]⟩ : ByteArray), (⟨#[109, 97, 32, 51, 48, 32, 109, 98, 32, 50, 57, 32, 109, 99, 32, 51, 48, 32, 109, 100, 32, 50, 57, 32, 109, 101, 32, 51, 48, 32, 109, 102, 32, 50, 57, 32, 109, 103, 32, 51, 48, 32, 109, 104, 32, 50, 57, 32, 109, 105, 32, 51, 48, 32, 109, 106, 32, 50, 57, 32, 109, 107, 32, 51, 48, 32, 109, 108, 32, 50, 57, 47, 51, 48]⟩ : ByteArray), (⟨#[109, 97, 32, 51, 49, 32, 109, 98, 32, 51, 49, 32, 109, 99, 32, 51, 49, 32, 109, 100, 32, 51, 49, 32, 109, 101, 32, 51, 49, 32, 109, 102, 32, 51, 49, 32, 109, 103, 32, 51, 48, 32, 109, 104, 32, 51, 48, 32, 109, 105, 32, 51, 48, 32, 109, 106, 32, 51, 48, 32, 109, 107, 32, 51, 48, 32, 109, 108, 32, 50, 57, 47, 51, 48]⟩ : ByteArray), (⟨#[109, 97, 32, 51, 48, 47, 51, 49, 32, 109, 98, 32, 51, 49, 32, 109, 99, 32, 51, 49, 32, 109, 100, 32, 51, 49, 32, 109, 101, 32, 51, 49, 32, 109, 102, 32, 51, 49, 32, 109, 103, 32, 51, 48, 32, 109, 104, 32, 51, 48, 32, 109, 105, 32, 51, 48, 32, 109, 106, 32, 51, 48, 32, 109, 107, 32, 51, 48, 32, 109, 108, 32, 51, 48]⟩ : ByteArray), (⟨#[109, 97, 32, 49, 57, 32, 109, 98, 32, 49, 57, 32, 109, 99, 32, 49, 57, 32, 109, 100, 32, 49, 57, 32, 109, 101, 32, 49, 57, 32, 109, 102, 32, 49, 57, 32, 109, 103, 32, 49, 57, 32, 109, 104, 32, 49, 57, 32, 109, 105, 32, 49, 57, 32, 109, 106, 32, 49, 57, 32, 109, 107, 32, 49, 57, 32, 109, 108, 32, 49, 57, 32, 109, 109, 32, 49, 57, 32, 109, 110, 32, 49, 57, 32, 109, 111, 32, 49, 57, 32, 109, 112, 32, 49, 57, 32, 109, 113, 32, 49, 57, 32, 109, 114, 32, 49, 57, 32, 103, 97, 112, 32, 52, 47, 53, 32, 109, 115, 32, 49, 57]⟩ : ByteArray), (⟨#[109, 97, 32, 51, 48, 32, 109, 98, 32, 51, 48, 32, 109, 99, 32, 51, 49, 32, 109, 100, 32, 51, 48, 32, 109, 101, 32, 51, 48, 32, 109, 102, 32, 51, 49, 32, 109, 103, 32, 51, 48, 32, 109, 104, 32, 51, 48, 32, 109, 105, 32, 51, 49, 32, 109, 106, 32, 51, 48, 32, 109, 107, 32, 51, 48, 32, 109, 108, 32, 51, 49, 32, 119, 101, 101, 107, 32, 48, 47, 55]⟩ : ByteArray), (⟨#[109, 97, 32, 50, 56, 32, 109, 98, 32, 50, 56, 32, 109, 99, 32, 50, 56, 32, 109, 100, 32, 50, 56, 32, 109, 101, 32, 50, 56, 32, 109, 102, 32, 50, 56, 32, 109, 103, 32, 50, 56, 32, 109, 104, 32, 50, 56, 32, 109, 105, 32, 50, 56, 32, 109, 106, 32, 50, 56, 32, 109, 107, 32, 50, 56, 32, 109, 108, 32, 50, 56, 32, 109, 109, 32, 50, 56, 32, 114, 101, 115, 116, 32, 49, 47, 50]⟩ : ByteArray), (⟨#[109, 97, 32, 51, 48, 32, 109, 98, 32, 51, 48, 32, 109, 99, 32, 51, 48, 32, 109, 100, 32, 51, 48, 32, 109, 101, 32, 51, 48, 32, 109, 102, 32, 51, 48, 32, 109, 103, 32, 51, 48, 32, 109, 104, 32, 51, 48, 32, 109, 105, 32, 51, 48, 32, 109, 106, 32, 51, 48, 32, 109, 107, 32, 51, 48, 32, 109, 108, 32, 51, 48, 32, 101, 110, 100, 32, 53]⟩ : ByteArray), (⟨#[109, 97, 32, 50, 48, 32, 109, 98, 32, 50, 48, 32, 109, 99, 32, 50, 48, 32, 109, 100, 32, 50, 48, 32, 109, 101, 32, 50, 48, 32, 109, 102, 32, 50, 48, 32, 109, 103, 32, 50, 48, 32, 109, 104, 32, 50, 48, 32, 109, 105, 32, 50, 48, 32, 109, 106, 32, 50, 48, 32, 109, 107, 32, 50, 48, 32, 109, 108, 32, 50, 48, 32, 109, 109, 32, 50, 48, 32, 109, 110, 32, 50, 48, 32, 109, 111, 32, 50, 48, 32, 109, 112, 32, 50, 48, 32, 109, 113, 32, 50, 48, 32, 109, 114, 32, 50, 48, 32, 101, 110, 100, 32, 53]⟩ : ByteArray), (⟨#[109, 97, 32, 50, 48, 32, 109, 98, 32, 50, 48, 32, 109, 99, 32, 50, 48, 32, 109, 100, 32, 50, 48, 32, 109, 101, 32, 50, 48, 32, 109, 102, 32, 50, 48, 32, 109, 103, 32, 50, 48, 32, 109, 104, 32, 50, 48, 32, 109, 105, 32, 50, 48, 32, 109, 106, 32, 50, 48, 32, 109, 107, 32, 50, 48, 32, 109, 108, 32, 50, 48, 32, 109, 109, 32, 50, 48, 32, 109, 110, 32, 50, 48, 32, 109, 111, 32, 50, 48, 32, 109, 112, 32, 50, 48, 32, 109, 113, 32, 50, 48, 32, 109, 114, 32, 50, 48]⟩ : ByteArray), (⟨#[109, 97, 32, 50, 48, 32, 109, 98, 32, 50, 48, 32, 109, 99, 32, 50, 48, 32, 109, 100, 32, 50, 48, 32, 109, 101, 32, 50, 48, 32, 109, 102, 32, 50, 48, 32, 109, 103, 32, 50, 48, 32, 109, 104, 32, 50, 48, 32, 109, 105, 32, 50, 48, 32, 109, 106, 32, 50, 48, 32, 109, 107, 32, 50, 48, 32, 109, 108, 32, 50, 48, 32, 109, 109, 32, 50, 48]⟩ : ByteArray), (⟨#[109, 97, 32, 51, 49, 32, 109, 98, 32, 51, 48, 32, 109, 99, 32, 51, 48, 32, 109, 100, 32, 51, 49, 32, 109, 101, 32, 51, 48, 32, 109, 102, 32, 51, 48, 32, 109, 103, 32, 51, 49, 32, 109, 104, 32, 51, 48, 32, 109, 105, 32, 51, 48, 32, 109, 106, 32, 51, 49, 32, 119, 105, 110, 116, 101, 114, 32, 54, 49, 47, 54, 50]⟩ : ByteArray), (⟨#[115, 112, 114, 105, 110, 103, 32, 57, 49, 32, 115, 117, 109, 109, 101, 114, 32, 57, 49, 32, 97, 117, 116, 117, 109, 110, 32, 57, 49, 32, 119, 105, 110, 116, 101, 114, 32, 57, 49, 32, 114, 101, 115, 116, 32, 49, 47, 50]⟩ : ByteArray), (⟨#[109, 97, 114, 32, 51, 49, 32, 97, 112, 114, 32, 51, 48, 32, 109, 97, 121, 32, 51, 49, 32, 106, 117, 110, 32, 51, 48, 32, 106, 117, 108, 32, 51, 49, 32, 97, 117, 103, 32, 51, 49, 32, 115, 101, 112, 32, 51, 48, 32, 111, 99, 116, 32, 51, 49, 32, 110, 111, 118, 32, 51, 48, 32, 100, 101, 99, 32, 51, 49, 32, 106, 97, 110, 32, 51, 49, 32, 102, 101, 98, 32, 50, 56, 47, 50, 57]⟩ : ByteArray), (⟨#[109, 97, 32, 51, 48, 32, 109, 98, 32, 50, 57, 32, 109, 99, 32, 51, 48, 32, 109, 100, 32, 50, 57, 32, 109, 101, 32, 51, 48, 32, 109, 102, 32, 50, 57, 32, 109, 103, 32, 51, 48, 32, 109, 104, 32, 50, 57, 32, 109, 105, 32, 51, 48, 32, 109, 106, 32, 50, 57, 32, 109, 107, 32, 51, 48, 32, 109, 108, 32, 50, 57, 32, 101, 120, 116, 114, 97, 32, 48, 47, 51, 48]⟩ : ByteArray), (⟨#[109, 97, 32, 50, 57, 47, 51, 48, 32, 109, 98, 32, 51, 49, 32, 109, 99, 32, 51, 49, 32, 109, 100, 32, 51, 49, 32, 109, 101, 32, 51, 49, 32, 109, 102, 32, 51, 49, 32, 109, 103, 32, 51, 49, 32, 109, 104, 32, 51, 48, 32, 109, 105, 32, 51, 48, 32, 109, 106, 32, 51, 48, 32, 109, 107, 32, 51, 48, 32, 109, 108, 32, 51, 48]⟩ : ByteArray), (⟨#[115, 101, 112, 32, 51, 48, 32, 111, 99, 116, 32, 51, 49, 32, 110, 111, 118, 32, 51, 48, 32, 100, 101, 99, 32, 51, 49, 32, 106, 97, 110, 32, 51, 49, 32, 102, 101, 98, 32, 50, 56, 47, 50, 57, 32, 109, 97, 114, 32, 51, 49, 32, 97, 112, 114, 32, 51, 48, 32, 109, 97, 121, 32, 51, 49, 32, 106, 117, 110, 32, 51, 48, 32, 106, 117, 108, 32, 51, 49, 32, 97, 117, 103, 32, 51, 49]⟩ : ByteArray), (⟨#[111, 99, 116, 32, 51, 49, 32, 110, 111, 118, 32, 51, 48, 32, 100, 101, 99, 32, 51, 49, 32, 106, 97, 110, 32, 51, 49, 32, 102, 101, 98, 32, 50, 56, 47, 50, 57, 32, 109, 97, 114, 32, 51, 49, 32, 97, 112, 114, 32, 51, 48, 32, 109, 97, 121, 32, 51, 49, 32, 106, 117, 110, 32, 51, 48, 32, 106, 117, 108, 32, 51, 49, 32, 97, 117, 103, 32, 51, 49, 32, 115, 101, 112, 32, 51, 48]⟩ : ByteArray), (⟨#[109, 97, 32, 51, 54, 32, 109, 98, 32, 51, 54, 32, 109, 99, 32, 51, 54, 32, 109, 100, 32, 51, 54, 32, 109, 101, 32, 51, 54, 32, 109, 102, 32, 51, 54, 32, 109, 103, 32, 51, 54, 32, 109, 104, 32, 51, 54, 32, 109, 105, 32, 51, 54, 32, 109, 106, 32, 51, 54, 32, 114, 101, 115, 116, 32, 53, 47, 54]⟩ : ByteArray)] : List ByteArray))
set_option maxHeartbeats 8000000 in
set_option maxRecDepth 100000 in
theorem catalog_months.calls  (r : List ByteArray) (w : World) (h : catalog_months.f  = some r) :
    Calls Tryd.prog 18 #[] w fun e w' => ∃ v0_ : Value, e = .returned (v0_) ∧ Kd.R Kd.string 9 w' w.heap.size (fun _ => True) v0_ r ∧ Below w.heap.size w w' := by
  have HB := Aside0.mk (Below.refl w.heap.size w)
  have H : (some (([(⟨#[106, 97, 110, 32, 51, 49, 32, 102, 101, 98, 32, 50, 56, 47, 50, 57, 32, 109, 97, 114, 32, 51, 49, 32, 97, 112, 114, 32, 51, 48, 32, 109, 97, 121, 32, 51, 49, 32, 106, 117, 110, 32, 51, 48, 32, 106, 117, 108, 32, 51, 49, 32, 97, 117, 103, 32, 51, 49, 32, 115, 101, 112, 32, 51, 48, 32, 111, 99, 116, 32, 51, 49, 32, 110, 111, 118, 32, 51, 48, 32, 100, 101, 99, 32, 51, 49]⟩ : ByteArray), (⟨#[109, 97, 32, 51, 48, 32, 109, 98, 32, 51, 48, 32, 109, 99, 32, 51, 48, 32, 109, 100, 32, 51, 48, 32, 109, 101, 32, 51, 48, 32, 109, 102, 32, 51, 48, 32, 109, 103, 32, 51, 48, 32, 109, 104, 32, 51, 48, 32, 109, 105, 32, 51, 48, 32, 109, 106, 32, 51, 48, 32, 109, 107, 32, 51, 48, 32, 109, 108, 32, 51, 48, 32, 101, 110, 100, 32, 53, 47, 54]⟩ : ByteArray), (⟨#[109, 97, 32, 51, 48, 32, 109, 98, 32, 50, 57, 32, 109, 99, 32, 51, 48, 32, 109, 100, 32, 50, 57, 32, 109, 101, 32, 51, 48, 32, 109, 102, 32, 50, 57, 32, 109, 103, 32, 51, 48, 32, 109, 104, 32, 50, 57, 32, 109, 105, 32, 51, 48, 32, 109, 106, 32, 50, 57, 32, 109, 107, 32, 51, 48, 32, 109, 108, 32, 50, 57, 47, 51, 48]⟩ : ByteArray), (⟨#[109, 97, 32, 51, 49, 32, 109, 98, 32, 51, 49, 32, 109, 99, 32, 51, 49, 32, 109, 100, 32, 51, 49, 32, 109, 101, 32, 51, 49, 32, 109, 102, 32, 51, 49, 32, 109, 103, 32, 51, 48, 32, 109, 104, 32, 51, 48, 32, 109, 105, 32, 51, 48, 32, 109, 106, 32, 51, 48, 32, 109, 107, 32, 51, 48, 32, 109, 108, 32, 50, 57, 47, 51, 48]⟩ : ByteArray), (⟨#[109, 97, 32, 51, 48, 47, 51, 49, 32, 109, 98, 32, 51, 49, 32, 109, 99, 32, 51, 49, 32, 109, 100, 32, 51, 49, 32, 109, 101, 32, 51, 49, 32, 109, 102, 32, 51, 49, 32, 109, 103, 32, 51, 48, 32, 109, 104, 32, 51, 48, 32, 109, 105, 32, 51, 48, 32, 109, 106, 32, 51, 48, 32, 109, 107, 32, 51, 48, 32, 109, 108, 32, 51, 48]⟩ : ByteArray), (⟨#[109, 97, 32, 49, 57, 32, 109, 98, 32, 49, 57, 32, 109, 99, 32, 49, 57, 32, 109, 100, 32, 49, 57, 32, 109, 101, 32, 49, 57, 32, 109, 102, 32, 49, 57, 32, 109, 103, 32, 49, 57, 32, 109, 104, 32, 49, 57, 32, 109, 105, 32, 49, 57, 32, 109, 106, 32, 49, 57, 32, 109, 107, 32, 49, 57, 32, 109, 108, 32, 49, 57, 32, 109, 109, 32, 49, 57, 32, 109, 110, 32, 49, 57, 32, 109, 111, 32, 49, 57, 32, 109, 112, 32, 49, 57, 32, 109, 113, 32, 49, 57, 32, 109, 114, 32, 49, 57, 32, 103, 97, 112, 32, 52, 47, 53, 32, 109, 115, 32, 49, 57]⟩ : ByteArray), (⟨#[109, 97, 32, 51, 48, 32, 109, 98, 32, 51, 48, 32, 109, 99, 32, 51, 49, 32, 109, 100, 32, 51, 48, 32, 109, 101, 32, 51, 48, 32, 109, 102, 32, 51, 49, 32, 109, 103, 32, 51, 48, 32, 109, 104, 32, 51, 48, 32, 109, 105, 32, 51, 49, 32, 109, 106, 32, 51, 48, 32, 109, 107, 32, 51, 48, 32, 109, 108, 32, 51, 49, 32, 119, 101, 101, 107, 32, 48, 47, 55]⟩ : ByteArray), (⟨#[109, 97, 32, 50, 56, 32, 109, 98, 32, 50, 56, 32, 109, 99, 32, 50, 56, 32, 109, 100, 32, 50, 56, 32, 109, 101, 32, 50, 56, 32, 109, 102, 32, 50, 56, 32, 109, 103, 32, 50, 56, 32, 109, 104, 32, 50, 56, 32, 109, 105, 32, 50, 56, 32, 109, 106, 32, 50, 56, 32, 109, 107, 32, 50, 56, 32, 109, 108, 32, 50, 56, 32, 109, 109, 32, 50, 56, 32, 114, 101, 115, 116, 32, 49, 47, 50]⟩ : ByteArray), (⟨#[109, 97, 32, 51, 48, 32, 109, 98, 32, 51, 48, 32, 109, 99, 32, 51, 48, 32, 109, 100, 32, 51, 48, 32, 109, 101, 32, 51, 48, 32, 109, 102, 32, 51, 48, 32, 109, 103, 32, 51, 48, 32, 109, 104, 32, 51, 48, 32, 109, 105, 32, 51, 48, 32, 109, 106, 32, 51, 48, 32, 109, 107, 32, 51, 48, 32, 109, 108, 32, 51, 48, 32, 101, 110, 100, 32, 53]⟩ : ByteArray), (⟨#[109, 97, 32, 50, 48, 32, 109, 98, 32, 50, 48, 32, 109, 99, 32, 50, 48, 32, 109, 100, 32, 50, 48, 32, 109, 101, 32, 50, 48, 32, 109, 102, 32, 50, 48, 32, 109, 103, 32, 50, 48, 32, 109, 104, 32, 50, 48, 32, 109, 105, 32, 50, 48, 32, 109, 106, 32, 50, 48, 32, 109, 107, 32, 50, 48, 32, 109, 108, 32, 50, 48, 32, 109, 109, 32, 50, 48, 32, 109, 110, 32, 50, 48, 32, 109, 111, 32, 50, 48, 32, 109, 112, 32, 50, 48, 32, 109, 113, 32, 50, 48, 32, 109, 114, 32, 50, 48, 32, 101, 110, 100, 32, 53]⟩ : ByteArray), (⟨#[109, 97, 32, 50, 48, 32, 109, 98, 32, 50, 48, 32, 109, 99, 32, 50, 48, 32, 109, 100, 32, 50, 48, 32, 109, 101, 32, 50, 48, 32, 109, 102, 32, 50, 48, 32, 109, 103, 32, 50, 48, 32, 109, 104, 32, 50, 48, 32, 109, 105, 32, 50, 48, 32, 109, 106, 32, 50, 48, 32, 109, 107, 32, 50, 48, 32, 109, 108, 32, 50, 48, 32, 109, 109, 32, 50, 48, 32, 109, 110, 32, 50, 48, 32, 109, 111, 32, 50, 48, 32, 109, 112, 32, 50, 48, 32, 109, 113, 32, 50, 48, 32, 109, 114, 32, 50, 48]⟩ : ByteArray), (⟨#[109, 97, 32, 50, 48, 32, 109, 98, 32, 50, 48, 32, 109, 99, 32, 50, 48, 32, 109, 100, 32, 50, 48, 32, 109, 101, 32, 50, 48, 32, 109, 102, 32, 50, 48, 32, 109, 103, 32, 50, 48, 32, 109, 104, 32, 50, 48, 32, 109, 105, 32, 50, 48, 32, 109, 106, 32, 50, 48, 32, 109, 107, 32, 50, 48, 32, 109, 108, 32, 50, 48, 32, 109, 109, 32, 50, 48]⟩ : ByteArray), (⟨#[109, 97, 32, 51, 49, 32, 109, 98, 32, 51, 48, 32, 109, 99, 32, 51, 48, 32, 109, 100, 32, 51, 49, 32, 109, 101, 32, 51, 48, 32, 109, 102, 32, 51, 48, 32, 109, 103, 32, 51, 49, 32, 109, 104, 32, 51, 48, 32, 109, 105, 32, 51, 48, 32, 109, 106, 32, 51, 49, 32, 119, 105, 110, 116, 101, 114, 32, 54, 49, 47, 54, 50]⟩ : ByteArray), (⟨#[115, 112, 114, 105, 110, 103, 32, 57, 49, 32, 115, 117, 109, 109, 101, 114, 32, 57, 49, 32, 97, 117, 116, 117, 109, 110, 32, 57, 49, 32, 119, 105, 110, 116, 101, 114, 32, 57, 49, 32, 114, 101, 115, 116, 32, 49, 47, 50]⟩ : ByteArray), (⟨#[109, 97, 114, 32, 51, 49, 32, 97, 112, 114, 32, 51, 48, 32, 109, 97, 121, 32, 51, 49, 32, 106, 117, 110, 32, 51, 48, 32, 106, 117, 108, 32, 51, 49, 32, 97, 117, 103, 32, 51, 49, 32, 115, 101, 112, 32, 51, 48, 32, 111, 99, 116, 32, 51, 49, 32, 110, 111, 118, 32, 51, 48, 32, 100, 101, 99, 32, 51, 49, 32, 106, 97, 110, 32, 51, 49, 32, 102, 101, 98, 32, 50, 56, 47, 50, 57]⟩ : ByteArray), (⟨#[109, 97, 32, 51, 48, 32, 109, 98, 32, 50, 57, 32, 109, 99, 32, 51, 48, 32, 109, 100, 32, 50, 57, 32, 109, 101, 32, 51, 48, 32, 109, 102, 32, 50, 57, 32, 109, 103, 32, 51, 48, 32, 109, 104, 32, 50, 57, 32, 109, 105, 32, 51, 48, 32, 109, 106, 32, 50, 57, 32, 109, 107, 32, 51, 48, 32, 109, 108, 32, 50, 57, 32, 101, 120, 116, 114, 97, 32, 48, 47, 51, 48]⟩ : ByteArray), (⟨#[109, 97, 32, 50, 57, 47, 51, 48, 32, 109, 98, 32, 51, 49, 32, 109, 99, 32, 51, 49, 32, 109, 100, 32, 51, 49, 32, 109, 101, 32, 51, 49, 32, 109, 102, 32, 51, 49, 32, 109, 103, 32, 51, 49, 32, 109, 104, 32, 51, 48, 32, 109, 105, 32, 51, 48, 32, 109, 106, 32, 51, 48, 32, 109, 107, 32, 51, 48, 32, 109, 108, 32, 51, 48]⟩ : ByteArray), (⟨#[115, 101, 112, 32, 51, 48, 32, 111, 99, 116, 32, 51, 49, 32, 110, 111, 118, 32, 51, 48, 32, 100, 101, 99, 32, 51, 49, 32, 106, 97, 110, 32, 51, 49, 32, 102, 101, 98, 32, 50, 56, 47, 50, 57, 32, 109, 97, 114, 32, 51, 49, 32, 97, 112, 114, 32, 51, 48, 32, 109, 97, 121, 32, 51, 49, 32, 106, 117, 110, 32, 51, 48, 32, 106, 117, 108, 32, 51, 49, 32, 97, 117, 103, 32, 51, 49]⟩ : ByteArray), (⟨#[111, 99, 116, 32, 51, 49, 32, 110, 111, 118, 32, 51, 48, 32, 100, 101, 99, 32, 51, 49, 32, 106, 97, 110, 32, 51, 49, 32, 102, 101, 98, 32, 50, 56, 47, 50, 57, 32, 109, 97, 114, 32, 51, 49, 32, 97, 112, 114, 32, 51, 48, 32, 109, 97, 121, 32, 51, 49, 32, 106, 117, 110, 32, 51, 48, 32, 106, 117, 108, 32, 51, 49, 32, 97, 117, 103, 32, 51, 49, 32, 115, 101, 112, 32, 51, 48]⟩ : ByteArray), (⟨#[109, 97, 32, 51, 54, 32, 109, 98, 32, 51, 54, 32, 109, 99, 32, 51, 54, 32, 109, 100, 32, 51, 54, 32, 109, 101, 32, 51, 54, 32, 109, 102, 32, 51, 54, 32, 109, 103, 32, 51, 54, 32, 109, 104, 32, 51, 54, 32, 109, 105, 32, 51, 54, 32, 109, 106, 32, 51, 54, 32, 114, 101, 115, 116, 32, 53, 47, 54]⟩ : ByteArray)] : List ByteArray))) = some r := h
  clear h
  obtain ⟨y117, hy117⟩ : ∃ y_ : List ByteArray, y_ = (([(⟨#[106, 97, 110, 32, 51, 49, 32, 102, 101, 98, 32, 50, 56, 47, 50, 57, 32, 109, 97, 114, 32, 51, 49, 32, 97, 112, 114, 32, 51, 48, 32, 109, 97, 121, 32, 51, 49, 32, 106, 117, 110, 32, 51, 48, 32, 106, 117, 108, 32, 51, 49, 32, 97, 117, 103, 32, 51, 49, 32, 115, 101, 112, 32, 51, 48, 32, 111, 99, 116, 32, 51, 49, 32, 110, 111, 118, 32, 51, 48, 32, 100, 101, 99, 32, 51, 49]⟩ : ByteArray), (⟨#[109, 97, 32, 51, 48, 32, 109, 98, 32, 51, 48, 32, 109, 99, 32, 51, 48, 32, 109, 100, 32, 51, 48, 32, 109, 101, 32, 51, 48, 32, 109, 102, 32, 51, 48, 32, 109, 103, 32, 51, 48, 32, 109, 104, 32, 51, 48, 32, 109, 105, 32, 51, 48, 32, 109, 106, 32, 51, 48, 32, 109, 107, 32, 51, 48, 32, 109, 108, 32, 51, 48, 32, 101, 110, 100, 32, 53, 47, 54]⟩ : ByteArray), (⟨#[109, 97, 32, 51, 48, 32, 109, 98, 32, 50, 57, 32, 109, 99, 32, 51, 48, 32, 109, 100, 32, 50, 57, 32, 109, 101, 32, 51, 48, 32, 109, 102, 32, 50, 57, 32, 109, 103, 32, 51, 48, 32, 109, 104, 32, 50, 57, 32, 109, 105, 32, 51, 48, 32, 109, 106, 32, 50, 57, 32, 109, 107, 32, 51, 48, 32, 109, 108, 32, 50, 57, 47, 51, 48]⟩ : ByteArray), (⟨#[109, 97, 32, 51, 49, 32, 109, 98, 32, 51, 49, 32, 109, 99, 32, 51, 49, 32, 109, 100, 32, 51, 49, 32, 109, 101, 32, 51, 49, 32, 109, 102, 32, 51, 49, 32, 109, 103, 32, 51, 48, 32, 109, 104, 32, 51, 48, 32, 109, 105, 32, 51, 48, 32, 109, 106, 32, 51, 48, 32, 109, 107, 32, 51, 48, 32, 109, 108, 32, 50, 57, 47, 51, 48]⟩ : ByteArray), (⟨#[109, 97, 32, 51, 48, 47, 51, 49, 32, 109, 98, 32, 51, 49, 32, 109, 99, 32, 51, 49, 32, 109, 100, 32, 51, 49, 32, 109, 101, 32, 51, 49, 32, 109, 102, 32, 51, 49, 32, 109, 103, 32, 51, 48, 32, 109, 104, 32, 51, 48, 32, 109, 105, 32, 51, 48, 32, 109, 106, 32, 51, 48, 32, 109, 107, 32, 51, 48, 32, 109, 108, 32, 51, 48]⟩ : ByteArray), (⟨#[109, 97, 32, 49, 57, 32, 109, 98, 32, 49, 57, 32, 109, 99, 32, 49, 57, 32, 109, 100, 32, 49, 57, 32, 109, 101, 32, 49, 57, 32, 109, 102, 32, 49, 57, 32, 109, 103, 32, 49, 57, 32, 109, 104, 32, 49, 57, 32, 109, 105, 32, 49, 57, 32, 109, 106, 32, 49, 57, 32, 109, 107, 32, 49, 57, 32, 109, 108, 32, 49, 57, 32, 109, 109, 32, 49, 57, 32, 109, 110, 32, 49, 57, 32, 109, 111, 32, 49, 57, 32, 109, 112, 32, 49, 57, 32, 109, 113, 32, 49, 57, 32, 109, 114, 32, 49, 57, 32, 103, 97, 112, 32, 52, 47, 53, 32, 109, 115, 32, 49, 57]⟩ : ByteArray), (⟨#[109, 97, 32, 51, 48, 32, 109, 98, 32, 51, 48, 32, 109, 99, 32, 51, 49, 32, 109, 100, 32, 51, 48, 32, 109, 101, 32, 51, 48, 32, 109, 102, 32, 51, 49, 32, 109, 103, 32, 51, 48, 32, 109, 104, 32, 51, 48, 32, 109, 105, 32, 51, 49, 32, 109, 106, 32, 51, 48, 32, 109, 107, 32, 51, 48, 32, 109, 108, 32, 51, 49, 32, 119, 101, 101, 107, 32, 48, 47, 55]⟩ : ByteArray), (⟨#[109, 97, 32, 50, 56, 32, 109, 98, 32, 50, 56, 32, 109, 99, 32, 50, 56, 32, 109, 100, 32, 50, 56, 32, 109, 101, 32, 50, 56, 32, 109, 102, 32, 50, 56, 32, 109, 103, 32, 50, 56, 32, 109, 104, 32, 50, 56, 32, 109, 105, 32, 50, 56, 32, 109, 106, 32, 50, 56, 32, 109, 107, 32, 50, 56, 32, 109, 108, 32, 50, 56, 32, 109, 109, 32, 50, 56, 32, 114, 101, 115, 116, 32, 49, 47, 50]⟩ : ByteArray), (⟨#[109, 97, 32, 51, 48, 32, 109, 98, 32, 51, 48, 32, 109, 99, 32, 51, 48, 32, 109, 100, 32, 51, 48, 32, 109, 101, 32, 51, 48, 32, 109, 102, 32, 51, 48, 32, 109, 103, 32, 51, 48, 32, 109, 104, 32, 51, 48, 32, 109, 105, 32, 51, 48, 32, 109, 106, 32, 51, 48, 32, 109, 107, 32, 51, 48, 32, 109, 108, 32, 51, 48, 32, 101, 110, 100, 32, 53]⟩ : ByteArray), (⟨#[109, 97, 32, 50, 48, 32, 109, 98, 32, 50, 48, 32, 109, 99, 32, 50, 48, 32, 109, 100, 32, 50, 48, 32, 109, 101, 32, 50, 48, 32, 109, 102, 32, 50, 48, 32, 109, 103, 32, 50, 48, 32, 109, 104, 32, 50, 48, 32, 109, 105, 32, 50, 48, 32, 109, 106, 32, 50, 48, 32, 109, 107, 32, 50, 48, 32, 109, 108, 32, 50, 48, 32, 109, 109, 32, 50, 48, 32, 109, 110, 32, 50, 48, 32, 109, 111, 32, 50, 48, 32, 109, 112, 32, 50, 48, 32, 109, 113, 32, 50, 48, 32, 109, 114, 32, 50, 48, 32, 101, 110, 100, 32, 53]⟩ : ByteArray), (⟨#[109, 97, 32, 50, 48, 32, 109, 98, 32, 50, 48, 32, 109, 99, 32, 50, 48, 32, 109, 100, 32, 50, 48, 32, 109, 101, 32, 50, 48, 32, 109, 102, 32, 50, 48, 32, 109, 103, 32, 50, 48, 32, 109, 104, 32, 50, 48, 32, 109, 105, 32, 50, 48, 32, 109, 106, 32, 50, 48, 32, 109, 107, 32, 50, 48, 32, 109, 108, 32, 50, 48, 32, 109, 109, 32, 50, 48, 32, 109, 110, 32, 50, 48, 32, 109, 111, 32, 50, 48, 32, 109, 112, 32, 50, 48, 32, 109, 113, 32, 50, 48, 32, 109, 114, 32, 50, 48]⟩ : ByteArray), (⟨#[109, 97, 32, 50, 48, 32, 109, 98, 32, 50, 48, 32, 109, 99, 32, 50, 48, 32, 109, 100, 32, 50, 48, 32, 109, 101, 32, 50, 48, 32, 109, 102, 32, 50, 48, 32, 109, 103, 32, 50, 48, 32, 109, 104, 32, 50, 48, 32, 109, 105, 32, 50, 48, 32, 109, 106, 32, 50, 48, 32, 109, 107, 32, 50, 48, 32, 109, 108, 32, 50, 48, 32, 109, 109, 32, 50, 48]⟩ : ByteArray), (⟨#[109, 97, 32, 51, 49, 32, 109, 98, 32, 51, 48, 32, 109, 99, 32, 51, 48, 32, 109, 100, 32, 51, 49, 32, 109, 101, 32, 51, 48, 32, 109, 102, 32, 51, 48, 32, 109, 103, 32, 51, 49, 32, 109, 104, 32, 51, 48, 32, 109, 105, 32, 51, 48, 32, 109, 106, 32, 51, 49, 32, 119, 105, 110, 116, 101, 114, 32, 54, 49, 47, 54, 50]⟩ : ByteArray), (⟨#[115, 112, 114, 105, 110, 103, 32, 57, 49, 32, 115, 117, 109, 109, 101, 114, 32, 57, 49, 32, 97, 117, 116, 117, 109, 110, 32, 57, 49, 32, 119, 105, 110, 116, 101, 114, 32, 57, 49, 32, 114, 101, 115, 116, 32, 49, 47, 50]⟩ : ByteArray), (⟨#[109, 97, 114, 32, 51, 49, 32, 97, 112, 114, 32, 51, 48, 32, 109, 97, 121, 32, 51, 49, 32, 106, 117, 110, 32, 51, 48, 32, 106, 117, 108, 32, 51, 49, 32, 97, 117, 103, 32, 51, 49, 32, 115, 101, 112, 32, 51, 48, 32, 111, 99, 116, 32, 51, 49, 32, 110, 111, 118, 32, 51, 48, 32, 100, 101, 99, 32, 51, 49, 32, 106, 97, 110, 32, 51, 49, 32, 102, 101, 98, 32, 50, 56, 47, 50, 57]⟩ : ByteArray), (⟨#[109, 97, 32, 51, 48, 32, 109, 98, 32, 50, 57, 32, 109, 99, 32, 51, 48, 32, 109, 100, 32, 50, 57, 32, 109, 101, 32, 51, 48, 32, 109, 102, 32, 50, 57, 32, 109, 103, 32, 51, 48, 32, 109, 104, 32, 50, 57, 32, 109, 105, 32, 51, 48, 32, 109, 106, 32, 50, 57, 32, 109, 107, 32, 51, 48, 32, 109, 108, 32, 50, 57, 32, 101, 120, 116, 114, 97, 32, 48, 47, 51, 48]⟩ : ByteArray), (⟨#[109, 97, 32, 50, 57, 47, 51, 48, 32, 109, 98, 32, 51, 49, 32, 109, 99, 32, 51, 49, 32, 109, 100, 32, 51, 49, 32, 109, 101, 32, 51, 49, 32, 109, 102, 32, 51, 49, 32, 109, 103, 32, 51, 49, 32, 109, 104, 32, 51, 48, 32, 109, 105, 32, 51, 48, 32, 109, 106, 32, 51, 48, 32, 109, 107, 32, 51, 48, 32, 109, 108, 32, 51, 48]⟩ : ByteArray), (⟨#[115, 101, 112, 32, 51, 48, 32, 111, 99, 116, 32, 51, 49, 32, 110, 111, 118, 32, 51, 48, 32, 100, 101, 99, 32, 51, 49, 32, 106, 97, 110, 32, 51, 49, 32, 102, 101, 98, 32, 50, 56, 47, 50, 57, 32, 109, 97, 114, 32, 51, 49, 32, 97, 112, 114, 32, 51, 48, 32, 109, 97, 121, 32, 51, 49, 32, 106, 117, 110, 32, 51, 48, 32, 106, 117, 108, 32, 51, 49, 32, 97, 117, 103, 32, 51, 49]⟩ : ByteArray), (⟨#[111, 99, 116, 32, 51, 49, 32, 110, 111, 118, 32, 51, 48, 32, 100, 101, 99, 32, 51, 49, 32, 106, 97, 110, 32, 51, 49, 32, 102, 101, 98, 32, 50, 56, 47, 50, 57, 32, 109, 97, 114, 32, 51, 49, 32, 97, 112, 114, 32, 51, 48, 32, 109, 97, 121, 32, 51, 49, 32, 106, 117, 110, 32, 51, 48, 32, 106, 117, 108, 32, 51, 49, 32, 97, 117, 103, 32, 51, 49, 32, 115, 101, 112, 32, 51, 48]⟩ : ByteArray), (⟨#[109, 97, 32, 51, 54, 32, 109, 98, 32, 51, 54, 32, 109, 99, 32, 51, 54, 32, 109, 100, 32, 51, 54, 32, 109, 101, 32, 51, 54, 32, 109, 102, 32, 51, 54, 32, 109, 103, 32, 51, 54, 32, 109, 104, 32, 51, 54, 32, 109, 105, 32, 51, 54, 32, 109, 106, 32, 51, 54, 32, 114, 101, 115, 116, 32, 53, 47, 54]⟩ : ByteArray)] : List ByteArray)) := ⟨_, rfl⟩
  replace H : (some y117) = some r := by first | (rw [hy117]; with_reducible exact H) | (have H2_ := (Option.bind_some _ _).symm.trans H; rw [hy117]; with_reducible exact H2_) | (have H2_ := (Option.bind_some _ _).symm.trans H; with_reducible exact H2_) | with_reducible exact H | (rw [hy117]; exact H) | exact H
  have Ny117 := Aside0.mk hy117
  clear hy117
  obtain rfl := Option.some.inj H
  go_enter Tryd.func18, Tryd.ntmps18
  go_wp2_with (first | ((with_reducible refine gate_dst (N := 1) rfl ?_); refine Kd.R_lit Kd.string _ 9 ?hg (N := 1) ?hd (xs := ([(⟨#[106, 97, 110, 32, 51, 49, 32, 102, 101, 98, 32, 50, 56, 47, 50, 57, 32, 109, 97, 114, 32, 51, 49, 32, 97, 112, 114, 32, 51, 48, 32, 109, 97, 121, 32, 51, 49, 32, 106, 117, 110, 32, 51, 48, 32, 106, 117, 108, 32, 51, 49, 32, 97, 117, 103, 32, 51, 49, 32, 115, 101, 112, 32, 51, 48, 32, 111, 99, 116, 32, 51, 49, 32, 110, 111, 118, 32, 51, 48, 32, 100, 101, 99, 32, 51, 49]⟩ : ByteArray), (⟨#[109, 97, 32, 51, 48, 32, 109, 98, 32, 51, 48, 32, 109, 99, 32, 51, 48, 32, 109, 100, 32, 51, 48, 32, 109, 101, 32, 51, 48, 32, 109, 102, 32, 51, 48, 32, 109, 103, 32, 51, 48, 32, 109, 104, 32, 51, 48, 32, 109, 105, 32, 51, 48, 32, 109, 106, 32, 51, 48, 32, 109, 107, 32, 51, 48, 32, 109, 108, 32, 51, 48, 32, 101, 110, 100, 32, 53, 47, 54]⟩ : ByteArray), (⟨#[109, 97, 32, 51, 48, 32, 109, 98, 32, 50, 57, 32, 109, 99, 32, 51, 48, 32, 109, 100, 32, 50, 57, 32, 109, 101, 32, 51, 48, 32, 109, 102, 32, 50, 57, 32, 109, 103, 32, 51, 48, 32, 109, 104, 32, 50, 57, 32, 109, 105, 32, 51, 48, 32, 109, 106, 32, 50, 57, 32, 109, 107, 32, 51, 48, 32, 109, 108, 32, 50, 57, 47, 51, 48]⟩ : ByteArray), (⟨#[109, 97, 32, 51, 49, 32, 109, 98, 32, 51, 49, 32, 109, 99, 32, 51, 49, 32, 109, 100, 32, 51, 49, 32, 109, 101, 32, 51, 49, 32, 109, 102, 32, 51, 49, 32, 109, 103, 32, 51, 48, 32, 109, 104, 32, 51, 48, 32, 109, 105, 32, 51, 48, 32, 109, 106, 32, 51, 48, 32, 109, 107, 32, 51, 48, 32, 109, 108, 32, 50, 57, 47, 51, 48]⟩ : ByteArray), (⟨#[109, 97, 32, 51, 48, 47, 51, 49, 32, 109, 98, 32, 51, 49, 32, 109, 99, 32, 51, 49, 32, 109, 100, 32, 51, 49, 32, 109, 101, 32, 51, 49, 32, 109, 102, 32, 51, 49, 32, 109, 103, 32, 51, 48, 32, 109, 104, 32, 51, 48, 32, 109, 105, 32, 51, 48, 32, 109, 106, 32, 51, 48, 32, 109, 107, 32, 51, 48, 32, 109, 108, 32, 51, 48]⟩ : ByteArray), (⟨#[109, 97, 32, 49, 57, 32, 109, 98, 32, 49, 57, 32, 109, 99, 32, 49, 57, 32, 109, 100, 32, 49, 57, 32, 109, 101, 32, 49, 57, 32, 109, 102, 32, 49, 57, 32, 109, 103, 32, 49, 57, 32, 109, 104, 32, 49, 57, 32, 109, 105, 32, 49, 57, 32, 109, 106, 32, 49, 57, 32, 109, 107, 32, 49, 57, 32, 109, 108, 32, 49, 57, 32, 109, 109, 32, 49, 57, 32, 109, 110, 32, 49, 57, 32, 109, 111, 32, 49, 57, 32, 109, 112, 32, 49, 57, 32, 109, 113, 32, 49, 57, 32, 109, 114, 32, 49, 57, 32, 103, 97, 112, 32, 52, 47, 53, 32, 109, 115, 32, 49, 57]⟩ : ByteArray), (⟨#[109, 97, 32, 51, 48, 32, 109, 98, 32, 51, 48, 32, 109, 99, 32, 51, 49, 32, 109, 100, 32, 51, 48, 32, 109, 101, 32, 51, 48, 32, 109, 102, 32, 51, 49, 32, 109, 103, 32, 51, 48, 32, 109, 104, 32, 51, 48, 32, 109, 105, 32, 51, 49, 32, 109, 106, 32, 51, 48, 32, 109, 107, 32, 51, 48, 32, 109, 108, 32, 51, 49, 32, 119, 101, 101, 107, 32, 48, 47, 55]⟩ : ByteArray), (⟨#[109, 97, 32, 50, 56, 32, 109, 98, 32, 50, 56, 32, 109, 99, 32, 50, 56, 32, 109, 100, 32, 50, 56, 32, 109, 101, 32, 50, 56, 32, 109, 102, 32, 50, 56, 32, 109, 103, 32, 50, 56, 32, 109, 104, 32, 50, 56, 32, 109, 105, 32, 50, 56, 32, 109, 106, 32, 50, 56, 32, 109, 107, 32, 50, 56, 32, 109, 108, 32, 50, 56, 32, 109, 109, 32, 50, 56, 32, 114, 101, 115, 116, 32, 49, 47, 50]⟩ : ByteArray), (⟨#[109, 97, 32, 51, 48, 32, 109, 98, 32, 51, 48, 32, 109, 99, 32, 51, 48, 32, 109, 100, 32, 51, 48, 32, 109, 101, 32, 51, 48, 32, 109, 102, 32, 51, 48, 32, 109, 103, 32, 51, 48, 32, 109, 104, 32, 51, 48, 32, 109, 105, 32, 51, 48, 32, 109, 106, 32, 51, 48, 32, 109, 107, 32, 51, 48, 32, 109, 108, 32, 51, 48, 32, 101, 110, 100, 32, 53]⟩ : ByteArray), (⟨#[109, 97, 32, 50, 48, 32, 109, 98, 32, 50, 48, 32, 109, 99, 32, 50, 48, 32, 109, 100, 32, 50, 48, 32, 109, 101, 32, 50, 48, 32, 109, 102, 32, 50, 48, 32, 109, 103, 32, 50, 48, 32, 109, 104, 32, 50, 48, 32, 109, 105, 32, 50, 48, 32, 109, 106, 32, 50, 48, 32, 109, 107, 32, 50, 48, 32, 109, 108, 32, 50, 48, 32, 109, 109, 32, 50, 48, 32, 109, 110, 32, 50, 48, 32, 109, 111, 32, 50, 48, 32, 109, 112, 32, 50, 48, 32, 109, 113, 32, 50, 48, 32, 109, 114, 32, 50, 48, 32, 101, 110, 100, 32, 53]⟩ : ByteArray), (⟨#[109, 97, 32, 50, 48, 32, 109, 98, 32, 50, 48, 32, 109, 99, 32, 50, 48, 32, 109, 100, 32, 50, 48, 32, 109, 101, 32, 50, 48, 32, 109, 102, 32, 50, 48, 32, 109, 103, 32, 50, 48, 32, 109, 104, 32, 50, 48, 32, 109, 105, 32, 50, 48, 32, 109, 106, 32, 50, 48, 32, 109, 107, 32, 50, 48, 32, 109, 108, 32, 50, 48, 32, 109, 109, 32, 50, 48, 32, 109, 110, 32, 50, 48, 32, 109, 111, 32, 50, 48, 32, 109, 112, 32, 50, 48, 32, 109, 113, 32, 50, 48, 32, 109, 114, 32, 50, 48]⟩ : ByteArray), (⟨#[109, 97, 32, 50, 48, 32, 109, 98, 32, 50, 48, 32, 109, 99, 32, 50, 48, 32, 109, 100, 32, 50, 48, 32, 109, 101, 32, 50, 48, 32, 109, 102, 32, 50, 48, 32, 109, 103, 32, 50, 48, 32, 109, 104, 32, 50, 48, 32, 109, 105, 32, 50, 48, 32, 109, 106, 32, 50, 48, 32, 109, 107, 32, 50, 48, 32, 109, 108, 32, 50, 48, 32, 109, 109, 32, 50, 48]⟩ : ByteArray), (⟨#[109, 97, 32, 51, 49, 32, 109, 98, 32, 51, 48, 32, 109, 99, 32, 51, 48, 32, 109, 100, 32, 51, 49, 32, 109, 101, 32, 51, 48, 32, 109, 102, 32, 51, 48, 32, 109, 103, 32, 51, 49, 32, 109, 104, 32, 51, 48, 32, 109, 105, 32, 51, 48, 32, 109, 106, 32, 51, 49, 32, 119, 105, 110, 116, 101, 114, 32, 54, 49, 47, 54, 50]⟩ : ByteArray), (⟨#[115, 112, 114, 105, 110, 103, 32, 57, 49, 32, 115, 117, 109, 109, 101, 114, 32, 57, 49, 32, 97, 117, 116, 117, 109, 110, 32, 57, 49, 32, 119, 105, 110, 116, 101, 114, 32, 57, 49, 32, 114, 101, 115, 116, 32, 49, 47, 50]⟩ : ByteArray), (⟨#[109, 97, 114, 32, 51, 49, 32, 97, 112, 114, 32, 51, 48, 32, 109, 97, 121, 32, 51, 49, 32, 106, 117, 110, 32, 51, 48, 32, 106, 117, 108, 32, 51, 49, 32, 97, 117, 103, 32, 51, 49, 32, 115, 101, 112, 32, 51, 48, 32, 111, 99, 116, 32, 51, 49, 32, 110, 111, 118, 32, 51, 48, 32, 100, 101, 99, 32, 51, 49, 32, 106, 97, 110, 32, 51, 49, 32, 102, 101, 98, 32, 50, 56, 47, 50, 57]⟩ : ByteArray), (⟨#[109, 97, 32, 51, 48, 32, 109, 98, 32, 50, 57, 32, 109, 99, 32, 51, 48, 32, 109, 100, 32, 50, 57, 32, 109, 101, 32, 51, 48, 32, 109, 102, 32, 50, 57, 32, 109, 103, 32, 51, 48, 32, 109, 104, 32, 50, 57, 32, 109, 105, 32, 51, 48, 32, 109, 106, 32, 50, 57, 32, 109, 107, 32, 51, 48, 32, 109, 108, 32, 50, 57, 32, 101, 120, 116, 114, 97, 32, 48, 47, 51, 48]⟩ : ByteArray), (⟨#[109, 97, 32, 50, 57, 47, 51, 48, 32, 109, 98, 32, 51, 49, 32, 109, 99, 32, 51, 49, 32, 109, 100, 32, 51, 49, 32, 109, 101, 32, 51, 49, 32, 109, 102, 32, 51, 49, 32, 109, 103, 32, 51, 49, 32, 109, 104, 32, 51, 48, 32, 109, 105, 32, 51, 48, 32, 109, 106, 32, 51, 48, 32, 109, 107, 32, 51, 48, 32, 109, 108, 32, 51, 48]⟩ : ByteArray), (⟨#[115, 101, 112, 32, 51, 48, 32, 111, 99, 116, 32, 51, 49, 32, 110, 111, 118, 32, 51, 48, 32, 100, 101, 99, 32, 51, 49, 32, 106, 97, 110, 32, 51, 49, 32, 102, 101, 98, 32, 50, 56, 47, 50, 57, 32, 109, 97, 114, 32, 51, 49, 32, 97, 112, 114, 32, 51, 48, 32, 109, 97, 121, 32, 51, 49, 32, 106, 117, 110, 32, 51, 48, 32, 106, 117, 108, 32, 51, 49, 32, 97, 117, 103, 32, 51, 49]⟩ : ByteArray), (⟨#[111, 99, 116, 32, 51, 49, 32, 110, 111, 118, 32, 51, 48, 32, 100, 101, 99, 32, 51, 49, 32, 106, 97, 110, 32, 51, 49, 32, 102, 101, 98, 32, 50, 56, 47, 50, 57, 32, 109, 97, 114, 32, 51, 49, 32, 97, 112, 114, 32, 51, 48, 32, 109, 97, 121, 32, 51, 49, 32, 106, 117, 110, 32, 51, 48, 32, 106, 117, 108, 32, 51, 49, 32, 97, 117, 103, 32, 51, 49, 32, 115, 101, 112, 32, 51, 48]⟩ : ByteArray), (⟨#[109, 97, 32, 51, 54, 32, 109, 98, 32, 51, 54, 32, 109, 99, 32, 51, 54, 32, 109, 100, 32, 51, 54, 32, 109, 101, 32, 51, 54, 32, 109, 102, 32, 51, 54, 32, 109, 103, 32, 51, 54, 32, 109, 104, 32, 51, 54, 32, 109, 105, 32, 51, 54, 32, 109, 106, 32, 51, 54, 32, 114, 101, 115, 116, 32, 53, 47, 54]⟩ : ByteArray)] : List ByteArray)) (inner := [.string (⟨#[106, 97, 110, 32, 51, 49, 32, 102, 101, 98, 32, 50, 56, 47, 50, 57, 32, 109, 97, 114, 32, 51, 49, 32, 97, 112, 114, 32, 51, 48, 32, 109, 97, 121, 32, 51, 49, 32, 106, 117, 110, 32, 51, 48, 32, 106, 117, 108, 32, 51, 49, 32, 97, 117, 103, 32, 51, 49, 32, 115, 101, 112, 32, 51, 48, 32, 111, 99, 116, 32, 51, 49, 32, 110, 111, 118, 32, 51, 48, 32, 100, 101, 99, 32, 51, 49]⟩ : ByteArray), .string (⟨#[109, 97, 32, 51, 48, 32, 109, 98, 32, 51, 48, 32, 109, 99, 32, 51, 48, 32, 109, 100, 32, 51, 48, 32, 109, 101, 32, 51, 48, 32, 109, 102, 32, 51, 48, 32, 109, 103, 32, 51, 48, 32, 109, 104, 32, 51, 48, 32, 109, 105, 32, 51, 48, 32, 109, 106, 32, 51, 48, 32, 109, 107, 32, 51, 48, 32, 109, 108, 32, 51, 48, 32, 101, 110, 100, 32, 53, 47, 54]⟩ : ByteArray), .string (⟨#[109, 97, 32, 51, 48, 32, 109, 98, 32, 50, 57, 32, 109, 99, 32, 51, 48, 32, 109, 100, 32, 50, 57, 32, 109, 101, 32, 51, 48, 32, 109, 102, 32, 50, 57, 32, 109, 103, 32, 51, 48, 32, 109, 104, 32, 50, 57, 32, 109, 105, 32, 51, 48, 32, 109, 106, 32, 50, 57, 32, 109, 107, 32, 51, 48, 32, 109, 108, 32, 50, 57, 47, 51, 48]⟩ : ByteArray), .string (⟨#[109, 97, 32, 51, 49, 32, 109, 98, 32, 51, 49, 32, 109, 99, 32, 51, 49, 32, 109, 100, 32, 51, 49, 32, 109, 101, 32, 51, 49, 32, 109, 102, 32, 51, 49, 32, 109, 103, 32, 51, 48, 32, 109, 104, 32, 51, 48, 32, 109, 105, 32, 51, 48, 32, 109, 106, 32, 51, 48, 32, 109, 107, 32, 51, 48, 32, 109, 108, 32, 50, 57, 47, 51, 48]⟩ : ByteArray), .string (⟨#[109, 97, 32, 51, 48, 47, 51, 49, 32, 109, 98, 32, 51, 49, 32, 109, 99, 32, 51, 49, 32, 109, 100, 32, 51, 49, 32, 109, 101, 32, 51, 49, 32, 109, 102, 32, 51, 49, 32, 109, 103, 32, 51, 48, 32, 109, 104, 32, 51, 48, 32, 109, 105, 32, 51, 48, 32, 109, 106, 32, 51, 48, 32, 109, 107, 32, 51, 48, 32, 109, 108, 32, 51, 48]⟩ : ByteArray), .string (⟨#[109, 97, 32, 49, 57, 32, 109, 98, 32, 49, 57, 32, 109, 99, 32, 49, 57, 32, 109, 100, 32, 49, 57, 32, 109, 101, 32, 49, 57, 32, 109, 102, 32, 49, 57, 32, 109, 103, 32, 49, 57, 32, 109, 104, 32, 49, 57, 32, 109, 105, 32, 49, 57, 32, 109, 106, 32, 49, 57, 32, 109, 107, 32, 49, 57, 32, 109, 108, 32, 49, 57, 32, 109, 109, 32, 49, 57, 32, 109, 110, 32, 49, 57, 32, 109, 111, 32, 49, 57, 32, 109, 112, 32, 49, 57, 32, 109, 113, 32, 49, 57, 32, 109, 114, 32, 49, 57, 32, 103, 97, 112, 32, 52, 47, 53, 32, 109, 115, 32, 49, 57]⟩ : ByteArray), .string (⟨#[109, 97, 32, 51, 48, 32, 109, 98, 32, 51, 48, 32, 109, 99, 32, 51, 49, 32, 109, 100, 32, 51, 48, 32, 109, 101, 32, 51, 48, 32, 109, 102, 32, 51, 49, 32, 109, 103, 32, 51, 48, 32, 109, 104, 32, 51, 48, 32, 109, 105, 32, 51, 49, 32, 109, 106, 32, 51, 48, 32, 109, 107, 32, 51, 48, 32, 109, 108, 32, 51, 49, 32, 119, 101, 101, 107, 32, 48, 47, 55]⟩ : ByteArray), .string (⟨#[109, 97, 32, 50, 56, 32, 109, 98, 32, 50, 56, 32, 109, 99, 32, 50, 56, 32, 109, 100, 32, 50, 56, 32, 109, 101, 32, 50, 56, 32, 109, 102, 32, 50, 56, 32, 109, 103, 32, 50, 56, 32, 109, 104, 32, 50, 56, 32, 109, 105, 32, 50, 56, 32, 109, 106, 32, 50, 56, 32, 109, 107, 32, 50, 56, 32, 109, 108, 32, 50, 56, 32, 109, 109, 32, 50, 56, 32, 114, 101, 115, 116, 32, 49, 47, 50]⟩ : ByteArray), .string (⟨#[109, 97, 32, 51, 48, 32, 109, 98, 32, 51, 48, 32, 109, 99, 32, 51, 48, 32, 109, 100, 32, 51, 48, 32, 109, 101, 32, 51, 48, 32, 109, 102, 32, 51, 48, 32, 109, 103, 32, 51, 48, 32, 109, 104, 32, 51, 48, 32, 109, 105, 32, 51, 48, 32, 109, 106, 32, 51, 48, 32, 109, 107, 32, 51, 48, 32, 109, 108, 32, 51, 48, 32, 101, 110, 100, 32, 53]⟩ : ByteArray), .string (⟨#[109, 97, 32, 50, 48, 32, 109, 98, 32, 50, 48, 32, 109, 99, 32, 50, 48, 32, 109, 100, 32, 50, 48, 32, 109, 101, 32, 50, 48, 32, 109, 102, 32, 50, 48, 32, 109, 103, 32, 50, 48, 32, 109, 104, 32, 50, 48, 32, 109, 105, 32, 50, 48, 32, 109, 106, 32, 50, 48, 32, 109, 107, 32, 50, 48, 32, 109, 108, 32, 50, 48, 32, 109, 109, 32, 50, 48, 32, 109, 110, 32, 50, 48, 32, 109, 111, 32, 50, 48, 32, 109, 112, 32, 50, 48, 32, 109, 113, 32, 50, 48, 32, 109, 114, 32, 50, 48, 32, 101, 110, 100, 32, 53]⟩ : ByteArray), .string (⟨#[109, 97, 32, 50, 48, 32, 109, 98, 32, 50, 48, 32, 109, 99, 32, 50, 48, 32, 109, 100, 32, 50, 48, 32, 109, 101, 32, 50, 48, 32, 109, 102, 32, 50, 48, 32, 109, 103, 32, 50, 48, 32, 109, 104, 32, 50, 48, 32, 109, 105, 32, 50, 48, 32, 109, 106, 32, 50, 48, 32, 109, 107, 32, 50, 48, 32, 109, 108, 32, 50, 48, 32, 109, 109, 32, 50, 48, 32, 109, 110, 32, 50, 48, 32, 109, 111, 32, 50, 48, 32, 109, 112, 32, 50, 48, 32, 109, 113, 32, 50, 48, 32, 109, 114, 32, 50, 48]⟩ : ByteArray), .string (⟨#[109, 97, 32, 50, 48, 32, 109, 98, 32, 50, 48, 32, 109, 99, 32, 50, 48, 32, 109, 100, 32, 50, 48, 32, 109, 101, 32, 50, 48, 32, 109, 102, 32, 50, 48, 32, 109, 103, 32, 50, 48, 32, 109, 104, 32, 50, 48, 32, 109, 105, 32, 50, 48, 32, 109, 106, 32, 50, 48, 32, 109, 107, 32, 50, 48, 32, 109, 108, 32, 50, 48, 32, 109, 109, 32, 50, 48]⟩ : ByteArray), .string (⟨#[109, 97, 32, 51, 49, 32, 109, 98, 32, 51, 48, 32, 109, 99, 32, 51, 48, 32, 109, 100, 32, 51, 49, 32, 109, 101, 32, 51, 48, 32, 109, 102, 32, 51, 48, 32, 109, 103, 32, 51, 49, 32, 109, 104, 32, 51, 48, 32, 109, 105, 32, 51, 48, 32, 109, 106, 32, 51, 49, 32, 119, 105, 110, 116, 101, 114, 32, 54, 49, 47, 54, 50]⟩ : ByteArray), .string (⟨#[115, 112, 114, 105, 110, 103, 32, 57, 49, 32, 115, 117, 109, 109, 101, 114, 32, 57, 49, 32, 97, 117, 116, 117, 109, 110, 32, 57, 49, 32, 119, 105, 110, 116, 101, 114, 32, 57, 49, 32, 114, 101, 115, 116, 32, 49, 47, 50]⟩ : ByteArray), .string (⟨#[109, 97, 114, 32, 51, 49, 32, 97, 112, 114, 32, 51, 48, 32, 109, 97, 121, 32, 51, 49, 32, 106, 117, 110, 32, 51, 48, 32, 106, 117, 108, 32, 51, 49, 32, 97, 117, 103, 32, 51, 49, 32, 115, 101, 112, 32, 51, 48, 32, 111, 99, 116, 32, 51, 49, 32, 110, 111, 118, 32, 51, 48, 32, 100, 101, 99, 32, 51, 49, 32, 106, 97, 110, 32, 51, 49, 32, 102, 101, 98, 32, 50, 56, 47, 50, 57]⟩ : ByteArray), .string (⟨#[109, 97, 32, 51, 48, 32, 109, 98, 32, 50, 57, 32, 109, 99, 32, 51, 48, 32, 109, 100, 32, 50, 57, 32, 109, 101, 32, 51, 48, 32, 109, 102, 32, 50, 57, 32, 109, 103, 32, 51, 48, 32, 109, 104, 32, 50, 57, 32, 109, 105, 32, 51, 48, 32, 109, 106, 32, 50, 57, 32, 109, 107, 32, 51, 48, 32, 109, 108, 32, 50, 57, 32, 101, 120, 116, 114, 97, 32, 48, 47, 51, 48]⟩ : ByteArray), .string (⟨#[109, 97, 32, 50, 57, 47, 51, 48, 32, 109, 98, 32, 51, 49, 32, 109, 99, 32, 51, 49, 32, 109, 100, 32, 51, 49, 32, 109, 101, 32, 51, 49, 32, 109, 102, 32, 51, 49, 32, 109, 103, 32, 51, 49, 32, 109, 104, 32, 51, 48, 32, 109, 105, 32, 51, 48, 32, 109, 106, 32, 51, 48, 32, 109, 107, 32, 51, 48, 32, 109, 108, 32, 51, 48]⟩ : ByteArray), .string (⟨#[115, 101, 112, 32, 51, 48, 32, 111, 99, 116, 32, 51, 49, 32, 110, 111, 118, 32, 51, 48, 32, 100, 101, 99, 32, 51, 49, 32, 106, 97, 110, 32, 51, 49, 32, 102, 101, 98, 32, 50, 56, 47, 50, 57, 32, 109, 97, 114, 32, 51, 49, 32, 97, 112, 114, 32, 51, 48, 32, 109, 97, 121, 32, 51, 49, 32, 106, 117, 110, 32, 51, 48, 32, 106, 117, 108, 32, 51, 49, 32, 97, 117, 103, 32, 51, 49]⟩ : ByteArray), .string (⟨#[111, 99, 116, 32, 51, 49, 32, 110, 111, 118, 32, 51, 48, 32, 100, 101, 99, 32, 51, 49, 32, 106, 97, 110, 32, 51, 49, 32, 102, 101, 98, 32, 50, 56, 47, 50, 57, 32, 109, 97, 114, 32, 51, 49, 32, 97, 112, 114, 32, 51, 48, 32, 109, 97, 121, 32, 51, 49, 32, 106, 117, 110, 32, 51, 48, 32, 106, 117, 108, 32, 51, 49, 32, 97, 117, 103, 32, 51, 49, 32, 115, 101, 112, 32, 51, 48]⟩ : ByteArray), .string (⟨#[109, 97, 32, 51, 54, 32, 109, 98, 32, 51, 54, 32, 109, 99, 32, 51, 54, 32, 109, 100, 32, 51, 54, 32, 109, 101, 32, 51, 54, 32, 109, 102, 32, 51, 54, 32, 109, 103, 32, 51, 54, 32, 109, 104, 32, 51, 54, 32, 109, 105, 32, 51, 54, 32, 109, 106, 32, 51, 54, 32, 114, 101, 115, 116, 32, 53, 47, 54]⟩ : ByteArray)]) (ok := fun _ => True) (okp := fun _ => True) ?hr ?hp (fun _ hk => hk) trivial (Below.refl _ _) (Nat.le_refl _) (by simp) ?_; (case hd => rfl); (case hg => rfl); (case hr => first | (go_simp; done) | (go_simp; rfl)); (case hp => exact (Reps.one (show Kd.M Kd.string _ _ _ (⟨#[106, 97, 110, 32, 51, 49, 32, 102, 101, 98, 32, 50, 56, 47, 50, 57, 32, 109, 97, 114, 32, 51, 49, 32, 97, 112, 114, 32, 51, 48, 32, 109, 97, 121, 32, 51, 49, 32, 106, 117, 110, 32, 51, 48, 32, 106, 117, 108, 32, 51, 49, 32, 97, 117, 103, 32, 51, 49, 32, 115, 101, 112, 32, 51, 48, 32, 111, 99, 116, 32, 51, 49, 32, 110, 111, 118, 32, 51, 48, 32, 100, 101, 99, 32, 51, 49]⟩ : ByteArray) [.string (⟨#[106, 97, 110, 32, 51, 49, 32, 102, 101, 98, 32, 50, 56, 47, 50, 57, 32, 109, 97, 114, 32, 51, 49, 32, 97, 112, 114, 32, 51, 48, 32, 109, 97, 121, 32, 51, 49, 32, 106, 117, 110, 32, 51, 48, 32, 106, 117, 108, 32, 51, 49, 32, 97, 117, 103, 32, 51, 49, 32, 115, 101, 112, 32, 51, 48, 32, 111, 99, 116, 32, 51, 49, 32, 110, 111, 118, 32, 51, 48, 32, 100, 101, 99, 32, 51, 49]⟩ : ByteArray)] from rfl) (Reps.one (show Kd.M Kd.string _ _ _ (⟨#[109, 97, 32, 51, 48, 32, 109, 98, 32, 51, 48, 32, 109, 99, 32, 51, 48, 32, 109, 100, 32, 51, 48, 32, 109, 101, 32, 51, 48, 32, 109, 102, 32, 51, 48, 32, 109, 103, 32, 51, 48, 32, 109, 104, 32, 51, 48, 32, 109, 105, 32, 51, 48, 32, 109, 106, 32, 51, 48, 32, 109, 107, 32, 51, 48, 32, 109, 108, 32, 51, 48, 32, 101, 110, 100, 32, 53, 47, 54]⟩ : ByteArray) [.string (⟨#[109, 97, 32, 51, 48, 32, 109, 98, 32, 51, 48, 32, 109, 99, 32, 51, 48, 32, 109, 100, 32, 51, 48, 32, 109, 101, 32, 51, 48, 32, 109, 102, 32, 51, 48, 32, 109, 103, 32, 51, 48, 32, 109, 104, 32, 51, 48, 32, 109, 105, 32, 51, 48, 32, 109, 106, 32, 51, 48, 32, 109, 107, 32, 51, 48, 32, 109, 108, 32, 51, 48, 32, 101, 110, 100, 32, 53, 47, 54]⟩ : ByteArray)] from rfl) (Reps.one (show Kd.M Kd.string _ _ _ (⟨#[109, 97, 32, 51, 48, 32, 109, 98, 32, 50, 57, 32, 109, 99, 32, 51, 48, 32, 109, 100, 32, 50, 57, 32, 109, 101, 32, 51, 48, 32, 109, 102, 32, 50, 57, 32, 109, 103, 32, 51, 48, 32, 109, 104, 32, 50, 57, 32, 109, 105, 32, 51, 48, 32, 109, 106, 32, 50, 57, 32, 109, 107, 32, 51, 48, 32, 109, 108, 32, 50, 57, 47, 51, 48]⟩ : ByteArray) [.string (⟨#[109, 97, 32, 51, 48, 32, 109, 98, 32, 50, 57, 32, 109, 99, 32, 51, 48, 32, 109, 100, 32, 50, 57, 32, 109, 101, 32, 51, 48, 32, 109, 102, 32, 50, 57, 32, 109, 103, 32, 51, 48, 32, 109, 104, 32, 50, 57, 32, 109, 105, 32, 51, 48, 32, 109, 106, 32, 50, 57, 32, 109, 107, 32, 51, 48, 32, 109, 108, 32, 50, 57, 47, 51, 48]⟩ : ByteArray)] from rfl) (Reps.one (show Kd.M Kd.string _ _ _ (⟨#[109, 97, 32, 51, 49, 32, 109, 98, 32, 51, 49, 32, 109, 99, 32, 51, 49, 32, 109, 100, 32, 51, 49, 32, 109, 101, 32, 51, 49, 32, 109, 102, 32, 51, 49, 32, 109, 103, 32, 51, 48, 32, 109, 104, 32, 51, 48, 32, 109, 105, 32, 51, 48, 32, 109, 106, 32, 51, 48, 32, 109, 107, 32, 51, 48, 32, 109, 108, 32, 50, 57, 47, 51, 48]⟩ : ByteArray) [.string (⟨#[109, 97, 32, 51, 49, 32, 109, 98, 32, 51, 49, 32, 109, 99, 32, 51, 49, 32, 109, 100, 32, 51, 49, 32, 109, 101, 32, 51, 49, 32, 109, 102, 32, 51, 49, 32, 109, 103, 32, 51, 48, 32, 109, 104, 32, 51, 48, 32, 109, 105, 32, 51, 48, 32, 109, 106, 32, 51, 48, 32, 109, 107, 32, 51, 48, 32, 109, 108, 32, 50, 57, 47, 51, 48]⟩ : ByteArray)] from rfl) (Reps.one (show Kd.M Kd.string _ _ _ (⟨#[109, 97, 32, 51, 48, 47, 51, 49, 32, 109, 98, 32, 51, 49, 32, 109, 99, 32, 51, 49, 32, 109, 100, 32, 51, 49, 32, 109, 101, 32, 51, 49, 32, 109, 102, 32, 51, 49, 32, 109, 103, 32, 51, 48, 32, 109, 104, 32, 51, 48, 32, 109, 105, 32, 51, 48, 32, 109, 106, 32, 51, 48, 32, 109, 107, 32, 51, 48, 32, 109, 108, 32, 51, 48]⟩ : ByteArray) [.string (⟨#[109, 97, 32, 51, 48, 47, 51, 49, 32, 109, 98, 32, 51, 49, 32, 109, 99, 32, 51, 49, 32, 109, 100, 32, 51, 49, 32, 109, 101, 32, 51, 49, 32, 109, 102, 32, 51, 49, 32, 109, 103, 32, 51, 48, 32, 109, 104, 32, 51, 48, 32, 109, 105, 32, 51, 48, 32, 109, 106, 32, 51, 48, 32, 109, 107, 32, 51, 48, 32, 109, 108, 32, 51, 48]⟩ : ByteArray)] from rfl) (Reps.one (show Kd.M Kd.string _ _ _ (⟨#[109, 97, 32, 49, 57, 32, 109, 98, 32, 49, 57, 32, 109, 99, 32, 49, 57, 32, 109, 100, 32, 49, 57, 32, 109, 101, 32, 49, 57, 32, 109, 102, 32, 49, 57, 32, 109, 103, 32, 49, 57, 32, 109, 104, 32, 49, 57, 32, 109, 105, 32, 49, 57, 32, 109, 106, 32, 49, 57, 32, 109, 107, 32, 49, 57, 32, 109, 108, 32, 49, 57, 32, 109, 109, 32, 49, 57, 32, 109, 110, 32, 49, 57, 32, 109, 111, 32, 49, 57, 32, 109, 112, 32, 49, 57, 32, 109, 113, 32, 49, 57, 32, 109, 114, 32, 49, 57, 32, 103, 97, 112, 32, 52, 47, 53, 32, 109, 115, 32, 49, 57]⟩ : ByteArray) [.string (⟨#[109, 97, 32, 49, 57, 32, 109, 98, 32, 49, 57, 32, 109, 99, 32, 49, 57, 32, 109, 100, 32, 49, 57, 32, 109, 101, 32, 49, 57, 32, 109, 102, 32, 49, 57, 32, 109, 103, 32, 49, 57, 32, 109, 104, 32, 49, 57, 32, 109, 105, 32, 49, 57, 32, 109, 106, 32, 49, 57, 32, 109, 107, 32, 49, 57, 32, 109, 108, 32, 49, 57, 32, 109, 109, 32, 49, 57, 32, 109, 110, 32, 49, 57, 32, 109, 111, 32, 49, 57, 32, 109, 112, 32, 49, 57, 32, 109, 113, 32, 49, 57, 32, 109, 114, 32, 49, 57, 32, 103, 97, 112, 32, 52, 47, 53, 32, 109, 115, 32, 49, 57]⟩ : ByteArray)] from rfl) (Reps.one (show Kd.M Kd.string _ _ _ (⟨#[109, 97, 32, 51, 48, 32, 109, 98, 32, 51, 48, 32, 109, 99, 32, 51, 49, 32, 109, 100, 32, 51, 48, 32, 109, 101, 32, 51, 48, 32, 109, 102, 32, 51, 49, 32, 109, 103, 32, 51, 48, 32, 109, 104, 32, 51, 48, 32, 109, 105, 32, 51, 49, 32, 109, 106, 32, 51, 48, 32, 109, 107, 32, 51, 48, 32, 109, 108, 32, 51, 49, 32, 119, 101, 101, 107, 32, 48, 47, 55]⟩ : ByteArray) [.string (⟨#[109, 97, 32, 51, 48, 32, 109, 98, 32, 51, 48, 32, 109, 99, 32, 51, 49, 32, 109, 100, 32, 51, 48, 32, 109, 101, 32, 51, 48, 32, 109, 102, 32, 51, 49, 32, 109, 103, 32, 51, 48, 32, 109, 104, 32, 51, 48, 32, 109, 105, 32, 51, 49, 32, 109, 106, 32, 51, 48, 32, 109, 107, 32, 51, 48, 32, 109, 108, 32, 51, 49, 32, 119, 101, 101, 107, 32, 48, 47, 55]⟩ : ByteArray)] from rfl) (Reps.one (show Kd.M Kd.string _ _ _ (⟨#[109, 97, 32, 50, 56, 32, 109, 98, 32, 50, 56, 32, 109, 99, 32, 50, 56, 32, 109, 100, 32, 50, 56, 32, 109, 101, 32, 50, 56, 32, 109, 102, 32, 50, 56, 32, 109, 103, 32, 50, 56, 32, 109, 104, 32, 50, 56, 32, 109, 105, 32, 50, 56, 32, 109, 106, 32, 50, 56, 32, 109, 107, 32, 50, 56, 32, 109, 108, 32, 50, 56, 32, 109, 109, 32, 50, 56, 32, 114, 101, 115, 116, 32, 49, 47, 50]⟩ : ByteArray) [.string (⟨#[109, 97, 32, 50, 56, 32, 109, 98, 32, 50, 56, 32, 109, 99, 32, 50, 56, 32, 109, 100, 32, 50, 56, 32, 109, 101, 32, 50, 56, 32, 109, 102, 32, 50, 56, 32, 109, 103, 32, 50, 56, 32, 109, 104, 32, 50, 56, 32, 109, 105, 32, 50, 56, 32, 109, 106, 32, 50, 56, 32, 109, 107, 32, 50, 56, 32, 109, 108, 32, 50, 56, 32, 109, 109, 32, 50, 56, 32, 114, 101, 115, 116, 32, 49, 47, 50]⟩ : ByteArray)] from rfl) (Reps.one (show Kd.M Kd.string _ _ _ (⟨#[109, 97, 32, 51, 48, 32, 109, 98, 32, 51, 48, 32, 109, 99, 32, 51, 48, 32, 109, 100, 32, 51, 48, 32, 109, 101, 32, 51, 48, 32, 109, 102, 32, 51, 48, 32, 109, 103, 32, 51, 48, 32, 109, 104, 32, 51, 48, 32, 109, 105, 32, 51, 48, 32, 109, 106, 32, 51, 48, 32, 109, 107, 32, 51, 48, 32, 109, 108, 32, 51, 48, 32, 101, 110, 100, 32, 53]⟩ : ByteArray) [.string (⟨#[109, 97, 32, 51, 48, 32, 109, 98, 32, 51, 48, 32, 109, 99, 32, 51, 48, 32, 109, 100, 32, 51, 48, 32, 109, 101, 32, 51, 48, 32, 109, 102, 32, 51, 48, 32, 109, 103, 32, 51, 48, 32, 109, 104, 32, 51, 48, 32, 109, 105, 32, 51, 48, 32, 109, 106, 32, 51, 48, 32, 109, 107, 32, 51, 48, 32, 109, 108, 32, 51, 48, 32, 101, 110, 100, 32, 53]⟩ : ByteArray)] from rfl) (Reps.one (show Kd.M Kd.string _ _ _ (⟨#[109, 97, 32, 50, 48, 32, 109, 98, 32, 50, 48, 32, 109, 99, 32, 50, 48, 32, 109, 100, 32, 50, 48, 32, 109, 101, 32, 50, 48, 32, 109, 102, 32, 50, 48, 32, 109, 103, 32, 50, 48, 32, 109, 104, 32, 50, 48, 32, 109, 105, 32, 50, 48, 32, 109, 106, 32, 50, 48, 32, 109, 107, 32, 50, 48, 32, 109, 108, 32, 50, 48, 32, 109, 109, 32, 50, 48, 32, 109, 110, 32, 50, 48, 32, 109, 111, 32, 50, 48, 32, 109, 112, 32, 50, 48, 32, 109, 113, 32, 50, 48, 32, 109, 114, 32, 50, 48, 32, 101, 110, 100, 32, 53]⟩ : ByteArray) [.string (⟨#[109, 97, 32, 50, 48, 32, 109, 98, 32, 50, 48, 32, 109, 99, 32, 50, 48, 32, 109, 100, 32, 50, 48, 32, 109, 101, 32, 50, 48, 32, 109, 102, 32, 50, 48, 32, 109, 103, 32, 50, 48, 32, 109, 104, 32, 50, 48, 32, 109, 105, 32, 50, 48, 32, 109, 106, 32, 50, 48, 32, 109, 107, 32, 50, 48, 32, 109, 108, 32, 50, 48, 32, 109, 109, 32, 50, 48, 32, 109, 110, 32, 50, 48, 32, 109, 111, 32, 50, 48, 32, 109, 112, 32, 50, 48, 32, 109, 113, 32, 50, 48, 32, 109, 114, 32, 50, 48, 32, 101, 110, 100, 32, 53]⟩ : ByteArray)] from rfl) (Reps.one (show Kd.M Kd.string _ _ _ (⟨#[109, 97, 32, 50, 48, 32, 109, 98, 32, 50, 48, 32, 109, 99, 32, 50, 48, 32, 109, 100, 32, 50, 48, 32, 109, 101, 32, 50, 48, 32, 109, 102, 32, 50, 48, 32, 109, 103, 32, 50, 48, 32, 109, 104, 32, 50, 48, 32, 109, 105, 32, 50, 48, 32, 109, 106, 32, 50, 48, 32, 109, 107, 32, 50, 48, 32, 109, 108, 32, 50, 48, 32, 109, 109, 32, 50, 48, 32, 109, 110, 32, 50, 48, 32, 109, 111, 32, 50, 48, 32, 109, 112, 32, 50, 48, 32, 109, 113, 32, 50, 48, 32, 109, 114, 32, 50, 48]⟩ : ByteArray) [.string (⟨#[109, 97, 32, 50, 48, 32, 109, 98, 32, 50, 48, 32, 109, 99, 32, 50, 48, 32, 109, 100, 32, 50, 48, 32, 109, 101, 32, 50, 48, 32, 109, 102, 32, 50, 48, 32, 109, 103, 32, 50, 48, 32, 109, 104, 32, 50, 48, 32, 109, 105, 32, 50, 48, 32, 109, 106, 32, 50, 48, 32, 109, 107, 32, 50, 48, 32, 109, 108, 32, 50, 48, 32, 109, 109, 32, 50, 48, 32, 109, 110, 32, 50, 48, 32, 109, 111, 32, 50, 48, 32, 109, 112, 32, 50, 48, 32, 109, 113, 32, 50, 48, 32, 109, 114, 32, 50, 48]⟩ : ByteArray)] from rfl) (Reps.one (show Kd.M Kd.string _ _ _ (⟨#[109, 97, 32, 50, 48, 32, 109, 98, 32, 50, 48, 32, 109, 99, 32, 50, 48, 32, 109, 100, 32, 50, 48, 32, 109, 101, 32, 50, 48, 32, 109, 102, 32, 50, 48, 32, 109, 103, 32, 50, 48, 32, 109, 104, 32, 50, 48, 32, 109, 105, 32, 50, 48, 32, 109, 106, 32, 50, 48, 32, 109, 107, 32, 50, 48, 32, 109, 108, 32, 50, 48, 32, 109, 109, 32, 50, 48]⟩ : ByteArray) [.string (⟨#[109, 97, 32, 50, 48, 32, 109, 98, 32, 50, 48, 32, 109, 99, 32, 50, 48, 32, 109, 100, 32, 50, 48, 32, 109, 101, 32, 50, 48, 32, 109, 102, 32, 50, 48, 32, 109, 103, 32, 50, 48, 32, 109, 104, 32, 50, 48, 32, 109, 105, 32, 50, 48, 32, 109, 106, 32, 50, 48, 32, 109, 107, 32, 50, 48, 32, 109, 108, 32, 50, 48, 32, 109, 109, 32, 50, 48]⟩ : ByteArray)] from rfl) (Reps.one (show Kd.M Kd.string _ _ _ (⟨#[109, 97, 32, 51, 49, 32, 109, 98, 32, 51, 48, 32, 109, 99, 32, 51, 48, 32, 109, 100, 32, 51, 49, 32, 109, 101, 32, 51, 48, 32, 109, 102, 32, 51, 48, 32, 109, 103, 32, 51, 49, 32, 109, 104, 32, 51, 48, 32, 109, 105, 32, 51, 48, 32, 109, 106, 32, 51, 49, 32, 119, 105, 110, 116, 101, 114, 32, 54, 49, 47, 54, 50]⟩ : ByteArray) [.string (⟨#[109, 97, 32, 51, 49, 32, 109, 98, 32, 51, 48, 32, 109, 99, 32, 51, 48, 32, 109, 100, 32, 51, 49, 32, 109, 101, 32, 51, 48, 32, 109, 102, 32, 51, 48, 32, 109, 103, 32, 51, 49, 32, 109, 104, 32, 51, 48, 32, 109, 105, 32, 51, 48, 32, 109, 106, 32, 51, 49, 32, 119, 105, 110, 116, 101, 114, 32, 54, 49, 47, 54, 50]⟩ : ByteArray)] from rfl) (Reps.one (show Kd.M Kd.string _ _ _ (⟨#[115, 112, 114, 105, 110, 103, 32, 57, 49, 32, 115, 117, 109, 109, 101, 114, 32, 57, 49, 32, 97, 117, 116, 117, 109, 110, 32, 57, 49, 32, 119, 105, 110, 116, 101, 114, 32, 57, 49, 32, 114, 101, 115, 116, 32, 49, 47, 50]⟩ : ByteArray) [.string (⟨#[115, 112, 114, 105, 110, 103, 32, 57, 49, 32, 115, 117, 109, 109, 101, 114, 32, 57, 49, 32, 97, 117, 116, 117, 109, 110, 32, 57, 49, 32, 119, 105, 110, 116, 101, 114, 32, 57, 49, 32, 114, 101, 115, 116, 32, 49, 47, 50]⟩ : ByteArray)] from rfl) (Reps.one (show Kd.M Kd.string _ _ _ (⟨#[109, 97, 114, 32, 51, 49, 32, 97, 112, 114, 32, 51, 48, 32, 109, 97, 121, 32, 51, 49, 32, 106, 117, 110, 32, 51, 48, 32, 106, 117, 108, 32, 51, 49, 32, 97, 117, 103, 32, 51, 49, 32, 115, 101, 112, 32, 51, 48, 32, 111, 99, 116, 32, 51, 49, 32, 110, 111, 118, 32, 51, 48, 32, 100, 101, 99, 32, 51, 49, 32, 106, 97, 110, 32, 51, 49, 32, 102, 101, 98, 32, 50, 56, 47, 50, 57]⟩ : ByteArray) [.string (⟨#[109, 97, 114, 32, 51, 49, 32, 97, 112, 114, 32, 51, 48, 32, 109, 97, 121, 32, 51, 49, 32, 106, 117, 110, 32, 51, 48, 32, 106, 117, 108, 32, 51, 49, 32, 97, 117, 103, 32, 51, 49, 32, 115, 101, 112, 32, 51, 48, 32, 111, 99, 116, 32, 51, 49, 32, 110, 111, 118, 32, 51, 48, 32, 100, 101, 99, 32, 51, 49, 32, 106, 97, 110, 32, 51, 49, 32, 102, 101, 98, 32, 50, 56, 47, 50, 57]⟩ : ByteArray)] from rfl) (Reps.one (show Kd.M Kd.string _ _ _ (⟨#[109, 97, 32, 51, 48, 32, 109, 98, 32, 50, 57, 32, 109, 99, 32, 51, 48, 32, 109, 100, 32, 50, 57, 32, 109, 101, 32, 51, 48, 32, 109, 102, 32, 50, 57, 32, 109, 103, 32, 51, 48, 32, 109, 104, 32, 50, 57, 32, 109, 105, 32, 51, 48, 32, 109, 106, 32, 50, 57, 32, 109, 107, 32, 51, 48, 32, 109, 108, 32, 50, 57, 32, 101, 120, 116, 114, 97, 32, 48, 47, 51, 48]⟩ : ByteArray) [.string (⟨#[109, 97, 32, 51, 48, 32, 109, 98, 32, 50, 57, 32, 109, 99, 32, 51, 48, 32, 109, 100, 32, 50, 57, 32, 109, 101, 32, 51, 48, 32, 109, 102, 32, 50, 57, 32, 109, 103, 32, 51, 48, 32, 109, 104, 32, 50, 57, 32, 109, 105, 32, 51, 48, 32, 109, 106, 32, 50, 57, 32, 109, 107, 32, 51, 48, 32, 109, 108, 32, 50, 57, 32, 101, 120, 116, 114, 97, 32, 48, 47, 51, 48]⟩ : ByteArray)] from rfl) (Reps.one (show Kd.M Kd.string _ _ _ (⟨#[109, 97, 32, 50, 57, 47, 51, 48, 32, 109, 98, 32, 51, 49, 32, 109, 99, 32, 51, 49, 32, 109, 100, 32, 51, 49, 32, 109, 101, 32, 51, 49, 32, 109, 102, 32, 51, 49, 32, 109, 103, 32, 51, 49, 32, 109, 104, 32, 51, 48, 32, 109, 105, 32, 51, 48, 32, 109, 106, 32, 51, 48, 32, 109, 107, 32, 51, 48, 32, 109, 108, 32, 51, 48]⟩ : ByteArray) [.string (⟨#[109, 97, 32, 50, 57, 47, 51, 48, 32, 109, 98, 32, 51, 49, 32, 109, 99, 32, 51, 49, 32, 109, 100, 32, 51, 49, 32, 109, 101, 32, 51, 49, 32, 109, 102, 32, 51, 49, 32, 109, 103, 32, 51, 49, 32, 109, 104, 32, 51, 48, 32, 109, 105, 32, 51, 48, 32, 109, 106, 32, 51, 48, 32, 109, 107, 32, 51, 48, 32, 109, 108, 32, 51, 48]⟩ : ByteArray)] from rfl) (Reps.one (show Kd.M Kd.string _ _ _ (⟨#[115, 101, 112, 32, 51, 48, 32, 111, 99, 116, 32, 51, 49, 32, 110, 111, 118, 32, 51, 48, 32, 100, 101, 99, 32, 51, 49, 32, 106, 97, 110, 32, 51, 49, 32, 102, 101, 98, 32, 50, 56, 47, 50, 57, 32, 109, 97, 114, 32, 51, 49, 32, 97, 112, 114, 32, 51, 48, 32, 109, 97, 121, 32, 51, 49, 32, 106, 117, 110, 32, 51, 48, 32, 106, 117, 108, 32, 51, 49, 32, 97, 117, 103, 32, 51, 49]⟩ : ByteArray) [.string (⟨#[115, 101, 112, 32, 51, 48, 32, 111, 99, 116, 32, 51, 49, 32, 110, 111, 118, 32, 51, 48, 32, 100, 101, 99, 32, 51, 49, 32, 106, 97, 110, 32, 51, 49, 32, 102, 101, 98, 32, 50, 56, 47, 50, 57, 32, 109, 97, 114, 32, 51, 49, 32, 97, 112, 114, 32, 51, 48, 32, 109, 97, 121, 32, 51, 49, 32, 106, 117, 110, 32, 51, 48, 32, 106, 117, 108, 32, 51, 49, 32, 97, 117, 103, 32, 51, 49]⟩ : ByteArray)] from rfl) (Reps.one (show Kd.M Kd.string _ _ _ (⟨#[111, 99, 116, 32, 51, 49, 32, 110, 111, 118, 32, 51, 48, 32, 100, 101, 99, 32, 51, 49, 32, 106, 97, 110, 32, 51, 49, 32, 102, 101, 98, 32, 50, 56, 47, 50, 57, 32, 109, 97, 114, 32, 51, 49, 32, 97, 112, 114, 32, 51, 48, 32, 109, 97, 121, 32, 51, 49, 32, 106, 117, 110, 32, 51, 48, 32, 106, 117, 108, 32, 51, 49, 32, 97, 117, 103, 32, 51, 49, 32, 115, 101, 112, 32, 51, 48]⟩ : ByteArray) [.string (⟨#[111, 99, 116, 32, 51, 49, 32, 110, 111, 118, 32, 51, 48, 32, 100, 101, 99, 32, 51, 49, 32, 106, 97, 110, 32, 51, 49, 32, 102, 101, 98, 32, 50, 56, 47, 50, 57, 32, 109, 97, 114, 32, 51, 49, 32, 97, 112, 114, 32, 51, 48, 32, 109, 97, 121, 32, 51, 49, 32, 106, 117, 110, 32, 51, 48, 32, 106, 117, 108, 32, 51, 49, 32, 97, 117, 103, 32, 51, 49, 32, 115, 101, 112, 32, 51, 48]⟩ : ByteArray)] from rfl) (Reps.one (show Kd.M Kd.string _ _ _ (⟨#[109, 97, 32, 51, 54, 32, 109, 98, 32, 51, 54, 32, 109, 99, 32, 51, 54, 32, 109, 100, 32, 51, 54, 32, 109, 101, 32, 51, 54, 32, 109, 102, 32, 51, 54, 32, 109, 103, 32, 51, 54, 32, 109, 104, 32, 51, 54, 32, 109, 105, 32, 51, 54, 32, 109, 106, 32, 51, 54, 32, 114, 101, 115, 116, 32, 53, 47, 54]⟩ : ByteArray) [.string (⟨#[109, 97, 32, 51, 54, 32, 109, 98, 32, 51, 54, 32, 109, 99, 32, 51, 54, 32, 109, 100, 32, 51, 54, 32, 109, 101, 32, 51, 54, 32, 109, 102, 32, 51, 54, 32, 109, 103, 32, 51, 54, 32, 109, 104, 32, 51, 54, 32, 109, 105, 32, 51, 54, 32, 109, 106, 32, 51, 54, 32, 114, 101, 115, 116, 32, 53, 47, 54]⟩ : ByteArray)] from rfl) (Reps.none _ _)))))))))))))))))))))); intro v118 w1 ho2 hb hg_ hnew_; clear hg_ hnew_; (first | rw [← Ny117.out] at ho2 | (simp only [Int.reduceToNat] at ho2; rw [← Ny117.out] at ho2)); have n0_ := Aside0.mk (Kd.R_lower ho2 (below_size (by repeat (first | (with_reducible first | exact HB.out | apply below_alloc | apply pw_below_drewN | apply below_drew1) | exact HB.out)))); have n1_ := Aside0.mk (below_step (by repeat (first | (with_reducible first | exact HB.out | apply below_alloc | apply pw_below_drewN | apply below_drew1) | exact HB.out)) hb); clear HB; have HO119 := n0_; have HB := n1_; clear n0_ n1_; clear hb ho2))
  go_ret
  exact ⟨_, by first | rfl | (simp [errW_none, errW_some] <;> rfl) | (simp [*, errW_none, errW_some] <;> rfl), by (with_reducible repeat (first | apply Kd.R_alloc | apply Kd.R_drewN | apply Kd.R_drew)); exact HO119.out, by repeat (first | (with_reducible first | exact HB.out | apply below_alloc | apply pw_below_drewN | apply below_drew1) | exact HB.out)⟩

/-! ### strings_ReplaceAll: function 19 -/
/-- The variable bytealg.MaxLen holds some number. -/
def strings_Split.Tab (w : World) : Prop := ∃ m : Int, w.cell? ⟨3, 0, none⟩ = some (.int .i64 m)
theorem strings_Split.Tab.below {w W : World} {n : Nat} (h : strings_Split.Tab w) (hb : Below n w W) (hn : w.heap.size ≤ n) : strings_Split.Tab W := by
  obtain ⟨m, h⟩ := h
  exact ⟨m, (hb.cell (Nat.lt_of_lt_of_le (World.block_lt_of_cell? w _ h) hn)).trans h⟩
/-- A text with each place of a second one taken by a third one. -/
def strings_ReplaceAll.f (a0 a1 a2 : ByteArray) : Option ByteArray := if (a0.size ≤ 1000000 ∧ 1 ≤ a1.size) ∧ a2.size ≤ 1000 then some ⟨(Go.Lib.replaceAll a0.data.toList a1.data.toList a2.data.toList).toArray⟩ else none
def strings_ReplaceAll.ren : Go.Shelf.Ren := ⟨fun | 138 => 33 | 143 => 35 | 154 => 27 | 155 => 19 | 165 => 34 | 166 => 15 | 169 => 20 | 195 => 45 | 197 => 36 | 217 => 57 | 218 => 46 | 219 => 48 | 224 => 59 | 225 => 58 | 240 => 23 | 241 => 47 | 260 => 49 | 266 => 63 | 267 => 60 | 276 => 30 | 277 => 56 | 314 => 64 | n => n, fun | 0 => 0 | 3 => 3 | 4 => 4 | 5 => 5 | 9 => 9 | 20 => 20 | 21 => 21 | 37 => 38 | 46 => 102 | 51 => 70 | 70 => 43 | 72 => 45 | 75 => 47 | 76 => 48 | 105 => 75 | 119 => 56 | 127 => 60 | 138 => 108 | 139 => 109 | 146 => 111 | 164 => 64 | 80 => 55 | n => n, fun | 1 => 3 | 3 => 4 | 4 => 5 | n => n⟩
theorem strings_ReplaceAll.lays : Go.Proofs.Lays.n155 Tryd.prog strings_ReplaceAll.ren := {
  mixed := by kernel_rfl
  f138 := Tryd.func33.trans (congrArg some (by kernel_rfl))
  f143 := Tryd.func35.trans (congrArg some (by kernel_rfl))
  f154 := Tryd.func27.trans (congrArg some (by kernel_rfl))
  f155 := Tryd.func19.trans (congrArg some (by kernel_rfl))
  f165 := Tryd.func34.trans (congrArg some (by kernel_rfl))
  f166 := Tryd.func15.trans (congrArg some (by kernel_rfl))
  f169 := Tryd.func20.trans (congrArg some (by kernel_rfl))
  f195 := Tryd.func45.trans (congrArg some (by kernel_rfl))
  f197 := Tryd.func36.trans (congrArg some (by kernel_rfl))
  f217 := Tryd.func57.trans (congrArg some (by kernel_rfl))
  f218 := Tryd.func46.trans (congrArg some (by kernel_rfl))
  f219 := Tryd.func48.trans (congrArg some (by kernel_rfl))
  f224 := Tryd.func59.trans (congrArg some (by kernel_rfl))
  f225 := Tryd.func58.trans (congrArg some (by kernel_rfl))
  f240 := Tryd.func23.trans (congrArg some (by kernel_rfl))
  f241 := Tryd.func47.trans (congrArg some (by kernel_rfl))
  f260 := Tryd.func49.trans (congrArg some (by kernel_rfl))
  f266 := Tryd.func63.trans (congrArg some (by kernel_rfl))
  f267 := Tryd.func60.trans (congrArg some (by kernel_rfl))
  f276 := Tryd.func30.trans (congrArg some (by kernel_rfl))
  f277 := Tryd.func56.trans (congrArg some (by kernel_rfl))
  f314 := Tryd.func64.trans (congrArg some (by kernel_rfl))
  t0 := Tryd.underlying0
  a0 := Tryd.isAgg0
  z0 := Tryd.sizeOf0
  v0 := Tryd.zeroValue0
  t3 := Tryd.underlying3
  a3 := Tryd.isAgg3
  z3 := Tryd.sizeOf3
  v3 := Tryd.zeroValue3
  t4 := Tryd.underlying4
  a4 := Tryd.isAgg4
  z4 := Tryd.sizeOf4
  v4 := Tryd.zeroValue4
  t5 := Tryd.underlying5
  a5 := Tryd.isAgg5
  z5 := Tryd.sizeOf5
  v5 := Tryd.zeroValue5
  t9 := Tryd.underlying9
  a9 := Tryd.isAgg9
  z9 := Tryd.sizeOf9
  v9 := Tryd.zeroValue9
  t20 := Tryd.underlying20
  a20 := Tryd.isAgg20
  z20 := Tryd.sizeOf20
  v20 := Tryd.zeroValue20
  t21 := Tryd.underlying21
  a21 := Tryd.isAgg21
  z21 := Tryd.sizeOf21
  v21 := Tryd.zeroValue21
  t37 := Tryd.underlying38
  a37 := Tryd.isAgg38
  z37 := Tryd.sizeOf38
  v37 := Tryd.zeroValue38
  t46 := Tryd.underlying102
  a46 := Tryd.isAgg102
  z46 := Tryd.sizeOf102
  v46 := Tryd.zeroValue102
  t51 := Tryd.underlying70
  a51 := Tryd.isAgg70
  z51 := Tryd.sizeOf70
  v51 := Tryd.zeroValue70
  t70 := Tryd.underlying43
  a70 := Tryd.isAgg43
  z70 := Tryd.sizeOf43
  v70 := Tryd.zeroValue43
  t72 := Tryd.underlying45
  a72 := Tryd.isAgg45
  z72 := Tryd.sizeOf45
  v72 := Tryd.zeroValue45
  t75 := Tryd.underlying47
  a75 := Tryd.isAgg47
  z75 := Tryd.sizeOf47
  v75 := Tryd.zeroValue47
  t76 := Tryd.underlying48
  a76 := Tryd.isAgg48
  z76 := Tryd.sizeOf48
  v76 := Tryd.zeroValue48
  t105 := Tryd.underlying75
  a105 := Tryd.isAgg75
  z105 := Tryd.sizeOf75
  v105 := Tryd.zeroValue75
  t119 := Tryd.underlying56
  a119 := Tryd.isAgg56
  z119 := Tryd.sizeOf56
  t127 := Tryd.underlying60
  a127 := Tryd.isAgg60
  z127 := Tryd.sizeOf60
  v127 := Tryd.zeroValue60
  t138 := Tryd.underlying108
  a138 := Tryd.isAgg108
  z138 := Tryd.sizeOf108
  v138 := Tryd.zeroValue108
  t139 := Tryd.underlying109
  a139 := Tryd.isAgg109
  z139 := Tryd.sizeOf109
  v139 := Tryd.zeroValue109
  t146 := Tryd.underlying111
  a146 := Tryd.isAgg111
  z146 := Tryd.sizeOf111
  v146 := Tryd.zeroValue111
  t164 := Tryd.underlying64
  a164 := Tryd.isAgg64
  z164 := Tryd.sizeOf64
  v164 := Tryd.zeroValue64
  g1 := by kernel_rfl
  g3 := by kernel_rfl
  g4 := by kernel_rfl }
theorem strings_ReplaceAll.extra : Go.Proofs.Builder.Extra Tryd.prog strings_ReplaceAll.ren := { sizeBuilder := by kernel_rfl, liesBuilder := by kernel_rfl, t5 := Tryd.underlying5, a5 := Tryd.isAgg5, z5 := Tryd.sizeOf5, v5 := Tryd.zeroValue5, infoByte := by kernel_rfl, cellsByte := by kernel_rfl, sizeByte := by kernel_rfl, neB5 := by decide }
theorem strings_ReplaceAll.calls (a0 a1 a2 r : ByteArray) (w : World) (hM : strings_Split.Tab w) (h : strings_ReplaceAll.f a0 a1 a2 = some r) :
    Calls Tryd.prog 19 #[.string a0, .string a1, .string a2] w fun e w' => e = .returned (.string r) ∧ Below w.heap.size w w' := by
  unfold strings_ReplaceAll.f at h
  by_cases c : (a0.size ≤ 1000000 ∧ 1 ≤ a1.size) ∧ a2.size ≤ 1000
  · rw [if_pos c] at h
    obtain rfl := Option.some.inj h
    obtain ⟨⟨c0, c1⟩, c2⟩ := c
    obtain ⟨m, hm⟩ := hM
    have hle := Go.Lib.countB_le a1 c1 a0.size a0 (Nat.le_refl _)
    have hmu : Go.Lib.countB a0 a1 * a2.size ≤ 1000000 * 1000 := Nat.mul_le_mul (by omega) c2
    exact Go.Proofs.Any.strings_ReplaceAll strings_ReplaceAll.lays strings_ReplaceAll.extra a0 a1 a2 m w (by omega) hm c1 (by omega)
  · rw [if_neg c] at h; cases h

/-! ### strings_Builder_String: function 20 -/
/-- The text that a builder holds. -/
def strings_Builder_String.f (s0_0 : ByteArray) : Option (ByteArray × ByteArray) := some (s0_0, s0_0)
def strings_Builder_String.ren : Go.Shelf.Ren := ⟨fun | 169 => 20 | n => n, fun | 0 => 0 | 3 => 3 | 9 => 9 | 37 => 38 | 70 => 43 | 72 => 45 | 127 => 60 | 5 => 5 | n => n, fun | n => n⟩
theorem strings_Builder_String.lays : Go.Proofs.Lays.n169 Tryd.prog strings_Builder_String.ren := {
  mixed := by kernel_rfl
  f169 := Tryd.func20.trans (congrArg some (by kernel_rfl))
  t0 := Tryd.underlying0
  a0 := Tryd.isAgg0
  z0 := Tryd.sizeOf0
  v0 := Tryd.zeroValue0
  t3 := Tryd.underlying3
  a3 := Tryd.isAgg3
  z3 := Tryd.sizeOf3
  v3 := Tryd.zeroValue3
  t9 := Tryd.underlying9
  a9 := Tryd.isAgg9
  z9 := Tryd.sizeOf9
  v9 := Tryd.zeroValue9
  t37 := Tryd.underlying38
  a37 := Tryd.isAgg38
  z37 := Tryd.sizeOf38
  v37 := Tryd.zeroValue38
  t70 := Tryd.underlying43
  a70 := Tryd.isAgg43
  z70 := Tryd.sizeOf43
  v70 := Tryd.zeroValue43
  t72 := Tryd.underlying45
  a72 := Tryd.isAgg45
  z72 := Tryd.sizeOf45
  v72 := Tryd.zeroValue45
  t127 := Tryd.underlying60
  a127 := Tryd.isAgg60
  z127 := Tryd.sizeOf60
  v127 := Tryd.zeroValue60 }
theorem strings_Builder_String.extra : Go.Proofs.Builder.Extra Tryd.prog strings_Builder_String.ren := { sizeBuilder := by kernel_rfl, liesBuilder := by kernel_rfl, t5 := Tryd.underlying5, a5 := Tryd.isAgg5, z5 := Tryd.sizeOf5, v5 := Tryd.zeroValue5, infoByte := by kernel_rfl, cellsByte := by kernel_rfl, sizeByte := by kernel_rfl, neB5 := by decide }
theorem strings_Builder_String.calls (g : Nat) (s0_0 : ByteArray) (r1 : ByteArray) (r2 : ByteArray) (w0 w : World) (hI : IsS133 w0 w g s0_0) (hB : Below w0.heap.size w0 w) (h : strings_Builder_String.f s0_0 = some (r1, r2)) :
    Calls Tryd.prog 20 #[.pointer (some ⟨g, 0, none⟩)] w fun e w' => e = .returned (.string r1) ∧ IsS133 w0 w' g r2 ∧ Below w0.heap.size w0 w' ∧ KeepB133 w w' g none := by
  obtain ⟨rfl, rfl⟩ := Prod.mk.inj (Option.some.inj h)
  refine (Go.Proofs.Any.Builder_String_any_k strings_Builder_String.lays strings_Builder_String.extra w0.heap.size g s0_0.data.toList w hI hB.size).mono ?_
  rintro e w' ⟨rfl, h1, h2, h3⟩
  exact ⟨rfl, h1, hB.trans h2, KeepB133.of_others h3 h2.size⟩

/-! ### runtime_PanicNilError_RuntimeError: function 76 -/
/-- A strings.Builder that is made: the text that it holds. -/
def runtime_PanicNilError_RuntimeError.f (a0 : ByteArray) : Option ByteArray := some a0

end Go.Proofs.YtbcbghbmjgcbmaaDoor.PReformChecks
