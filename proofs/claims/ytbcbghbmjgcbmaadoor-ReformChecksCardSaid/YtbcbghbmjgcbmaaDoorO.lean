/- How an argument of any printed kind is opened: what the row's reading of a value tells of its cells. No program here. -/
import Derived.Test.YtbcbghbmjgcbmaaDoorWMore
import Derived.ProofKit
import Derived.OpenShut
import Derived.ShutString
import Derived.ChangeOld
import Derived.SizedLaws
import Derived.Carry
import Derived.DataElems
namespace Go.Proofs.YtbcbghbmjgcbmaaDoor.O
open Go.ChangeShapes Go.WideShapes Go.RowKit Go.Proofs.YtbcbghbmjgcbmaaDoorW.PrintWords
set_option linter.unusedVariables false

/-- Whatever is read at the type t (by a reading of at most N steps) is a value of the kind d with the property Ok. -/
def Opens (P : Program) (N : Nat) (t : TypeId) {α : Type} (d : Kd α) (Ok : α → Prop) : Prop :=
  P.cellsOf t = d.sz ∧ ∀ (H : Type) (enc : TypeId × Value → H) (W : World) (fuel : Nat) (cs : List Value) (x : DataW H × List MemPlace),
    fuel ≤ N → DataW.trod enc P W 0 (fun _ => true) true fuel t cs = some x → (∀ n ∈ x.1.weights P t, n ≤ reachBytes) → ∃ v : α, d.K W v cs ∧ Ok v

section
variable {P : Program} {N : Nat} {α β : Type}
theorem Opens.less {t : TypeId} {d : Kd α} {Ok : α → Prop} (h : Opens P N t d Ok) {M : Nat} (hM : M ≤ N) : Opens P M t d Ok :=
  ⟨h.1, fun H enc W fuel cs x hf => h.2 H enc W fuel cs x (by omega)⟩
theorem Opens.imp {t : TypeId} {d : Kd α} {Ok Ok' : α → Prop} (h : Opens P N t d Ok) (hi : ∀ v, Ok v → Ok' v) : Opens P N t d Ok' :=
  ⟨h.1, fun H enc W fuel cs x hf ht hw => (h.2 H enc W fuel cs x hf ht hw).imp fun v hv => ⟨hv.1, hi v hv.2⟩⟩
theorem Opens.int {t : TypeId} {k : IntKind} (ht : P.underlying t = some (.int k)) (hc : P.cellsOf t = 1) : Opens P N t (Kd.int k) (fun n => (Lit.int k n).wf = true) :=
  ⟨hc, fun H enc W fuel cs x hf h _ => by
    obtain ⟨n, rfl, _, hw⟩ := DataW.trod_int ht h
    exact ⟨n, rfl, hw⟩⟩
theorem Opens.bool {t : TypeId} (ht : P.underlying t = some .bool) (hc : P.cellsOf t = 1) : Opens P N t Kd.bool (fun _ => True) :=
  ⟨hc, fun H enc W fuel cs x hf h _ => by
    obtain ⟨n, rfl, _⟩ := DataW.trod_bool ht h
    exact ⟨n, rfl, trivial⟩⟩
theorem Opens.string {t : TypeId} (ht : P.underlying t = some .string) (hc : P.cellsOf t = 1) : Opens P N t Kd.string (fun s => s.size ≤ 140737488351232) :=
  ⟨hc, fun H enc W fuel cs x hf h hwt => by
    obtain ⟨s, rfl, rfl, _⟩ := DataW.trod_string ht h
    refine ⟨s, rfl, ?_⟩
    have := hwt s.data.toList.length (by simp [DataW.weights])
    rw [Array.length_toList] at this
    exact this⟩
/-- A list out of its elements. -/
theorem list_of (R : Nat → α → Prop) : ∀ (n : Nat), (∀ i, i < n → ∃ v, R i v) → ∃ l : List α, l.length = n ∧ ∀ i v, l[i]? = some v → R i v
  | 0, _ => ⟨[], rfl, fun i v h => by simp at h⟩
  | n + 1, h => by
    obtain ⟨l, hl, hr⟩ := list_of R n (fun i hi => h i (by omega))
    obtain ⟨v, hv⟩ := h n (by omega)
    refine ⟨l ++ [v], by simp [hl], fun i u hu => ?_⟩
    by_cases c : i < n
    · rw [List.getElem?_append_left (by omega)] at hu
      exact hr i u hu
    · have hi := (List.getElem?_eq_some_iff.1 hu).1
      simp only [List.length_append, List.length_cons, List.length_nil] at hi
      obtain rfl : i = n := by omega
      rw [List.getElem?_append_right (by omega), hl] at hu
      simp only [Nat.sub_self, List.getElem?_cons_zero, Option.some.injEq] at hu
      exact hu ▸ hv
theorem weightsAll_mem {H : Type} {e : TypeId} : ∀ {l : List (DataW H)} {i : Nat} {d : DataW H}, l[i]? = some d → ∀ n ∈ d.weights P e, n ∈ DataW.weightsAll P e l
  | [], i, d, h, n, hn => by simp at h
  | d0 :: l, 0, d, h, n, hn => by
    simp only [List.getElem?_cons_zero, Option.some.injEq] at h
    subst h
    simp only [DataW.weightsAll, List.mem_append]
    exact .inl hn
  | d0 :: l, i + 1, d, h, n, hn => by
    simp only [List.getElem?_cons_succ] at h
    simp only [DataW.weightsAll, List.mem_append]
    exact .inr (weightsAll_mem h n hn)
theorem Opens.slice {t e : TypeId} {d : Kd α} {Ok : α → Prop} {B : Nat} (he : Opens P N e d Ok) (ht : P.underlying t = some (.slice e)) (hc : P.cellsOf t = 1) (hB : P.bytesOf e = B) :
    Opens P N t (Kd.slice e d) (fun l => l.length * B ≤ 140737488351232 ∧ l.length ≤ 9223372036854775807 ∧ ∀ v ∈ l, Ok v) :=
  ⟨hc, fun H enc W fuel cs x hf h hwt => by
    rcases DataW.trod_slice ht h with ⟨rfl, _⟩ | ⟨a, len, cap, elems, rest, n, rfl, rfl, rfl, _, hl, hm, hlen, hel, _⟩
    · exact ⟨[], ⟨none, 0, rfl, Nat.le_refl _, rfl, by simp, fun h => by simp at h⟩, by simp, by simp, fun v hv => by simp at hv⟩
    · have hm' : cap ≤ 9223372036854775807 := hm
      simp only [DataW.weights, ht] at hwt
      have each : ∀ i, i < len → ∃ v : α, (∃ c, c.length = d.sz ∧ d.K W v c ∧ ∀ j u, c[j]? = some u → W.cell? (a.add (i * d.sz + j)) = some u) ∧ Ok v := fun i hi => by
        have hi' := hel i hi
        have hlt : i < elems.length := by omega
        rw [List.getElem?_eq_getElem hlt, Option.bind_eq_some_iff] at hi'
        obtain ⟨c, hcs, htr⟩ := hi'
        obtain ⟨_, hcl, hcell⟩ := World.cells?_some hcs
        obtain ⟨v, hK, hok⟩ := he.2 H enc W n c _ (by omega) htr (fun k hk => hwt k (List.mem_cons_of_mem _ (List.mem_append.2 (.inl (weightsAll_mem (i := i) (by rw [List.getElem?_map, List.getElem?_eq_getElem hlt]; rfl) k hk)))))
        rw [he.1] at hcl hcell
        refine ⟨v, ⟨c, hcl, hK, fun j u hu => ?_⟩, hok⟩
        have hj : j < d.sz := by have := (List.getElem?_eq_some_iff.1 hu).1; omega
        have := hcell j hj
        rw [hu] at this
        rw [← this, Addr.add_add]
      obtain ⟨l, hll, hR⟩ := list_of _ len each
      have hwl := hwt _ List.mem_cons_self
      simp only [List.length_map, hB] at hwl
      refine ⟨l, ⟨some a, cap, by rw [hll], by omega, rfl, by omega, fun _ => ⟨a, rfl, fun j v hv => (hR j v hv).1⟩⟩, ?_, by omega, fun v hv => ?_⟩
      · rw [hll, ← hlen]
        exact Nat.le_trans (Nat.mul_le_mul_right _ (by omega)) hwl
      · obtain ⟨i, hi⟩ := List.getElem?_of_mem hv
        exact (hR i v hi).2⟩
/-- The fields of a struct from the offset off on. -/
def OpensF (P : Program) (N : Nat) (fs : List Field) (off : Nat) {α : Type} (d : Kd α) (Ok : α → Prop) : Prop :=
  ∀ (H : Type) (enc : TypeId × Value → H) (W : World) (fuel : Nat) (cs : List Value) (ys : List (DataW H × List MemPlace)),
    fuel ≤ N → cs.length = off + d.sz → ys.length = fs.length → (∀ (i : Nat) (f : Field), fs[i]? = some f → DataW.trod enc P W 0 (fun _ => true) true fuel f.type ((cs.drop f.offset).take (P.cellsOf f.type)) = ys[i]?) →
    (∀ n ∈ DataW.weightsEach P (fs.map (·.type)) (ys.map (·.1)), n ≤ reachBytes) → ∃ v : α, d.K W v (cs.drop off) ∧ Ok v
theorem OpensF.one {f : Field} {off : Nat} {d : Kd α} {Ok : α → Prop} (h : Opens P N f.type d Ok) (ho : f.offset = off) : OpensF P N [f] off d Ok := by
  intro H enc W fuel cs ys hf hl hy hF hw
  match ys, hy with
  | [y], _ =>
    have h0 := hF 0 f rfl
    rw [ho, h.1, List.take_of_length_le (by rw [List.length_drop]; omega)] at h0
    refine h.2 H enc W fuel _ y hf (by simpa using h0) (fun n hn => hw n ?_)
    simp only [List.map_cons, List.map_nil, DataW.weightsEach, List.append_nil]
    exact hn
theorem OpensF.cons {f : Field} {fs : List Field} {off off' : Nat} {a : Kd α} {b : Kd β} {Ok : α → Prop} {Ok' : β → Prop} (h : Opens P N f.type a Ok) (hb : OpensF P N fs off' b Ok') (ho : f.offset = off) (ho' : off + a.sz = off') :
    OpensF P N (f :: fs) off (Kd.pair a b) (fun x => Ok x.1 ∧ Ok' x.2) := by
  intro H enc W fuel cs ys hf hl hy hF hw
  match ys, hy with
  | y :: ys, hy =>
    have hl' : cs.length = off + (a.sz + b.sz) := hl
    have h0 := hF 0 f rfl
    rw [ho, h.1] at h0
    obtain ⟨v, hK, hok⟩ := h.2 H enc W fuel _ y hf (by simpa using h0) (fun n hn => hw n (by
      simp only [List.map_cons, DataW.weightsEach, List.mem_append]
      exact .inl hn))
    obtain ⟨u, hK', hok'⟩ := hb H enc W fuel cs ys hf (by omega) (by simpa using hy) (fun i g hg => by
      have := hF (i + 1) g (by simpa using hg)
      simpa using this) (fun n hn => hw n (by
      simp only [List.map_cons, DataW.weightsEach, List.mem_append]
      exact .inr hn))
    refine ⟨(v, u), ⟨_, _, ?_, hK, hK'⟩, hok, hok'⟩
    rw [← ho', ← List.drop_drop, List.take_append_drop]
theorem Opens.struct {t : TypeId} {fs : Array Field} {d : Kd α} {Ok : α → Prop} (f : β → α) (g : α → β) (h : OpensF P N fs.toList 0 d Ok) (ht : P.underlying t = some (.struct fs)) (hc : P.cellsOf t = d.sz) (hg : ∀ x, f (g x) = x) :
    Opens P (N + 1) t (Kd.iso d f) (fun y => Ok (f y)) :=
  ⟨hc, fun H enc W fuel cs x hf htr hw => by
    obtain ⟨xs, n, rfl, rfl, hl, hx, hF⟩ := DataW.trod_struct ht htr
    obtain ⟨v, hK, hok⟩ := h H enc W n cs xs (by omega) (by omega) (by simpa using hx) (fun i f hf => hF i f (by simpa using hf)) (by
      simp only [DataW.weights, ht] at hw
      exact hw)
    refine ⟨g v, ?_, by show Ok (f (g v)); rw [hg]; exact hok⟩
    show d.K W (f (g v)) cs
    rw [hg]
    simpa using hK⟩
/-- A struct whose parts stay as they are told. -/
theorem Opens.structP {t : TypeId} {fs : Array Field} {d : Kd α} {Ok : α → Prop} (h : OpensF P N fs.toList 0 d Ok) (ht : P.underlying t = some (.struct fs)) (hc : P.cellsOf t = d.sz) :
    Opens P (N + 1) t d Ok :=
  ⟨hc, fun H enc W fuel cs x hf htr hw => by
    obtain ⟨xs, n, rfl, rfl, hl, hx, hF⟩ := DataW.trod_struct ht htr
    obtain ⟨v, hK, hok⟩ := h H enc W n cs xs (by omega) (by omega) (by simpa using hx) (fun i f hf => hF i f (by simpa using hf)) (by
      simp only [DataW.weights, ht] at hw
      exact hw)
    exact ⟨v, by simpa using hK, hok⟩⟩

/-- An argument of the row. -/
theorem open_arg {t : TypeId} {d : Kd α} {Ok : α → Prop} (ho : ∀ N, Opens P N t d Ok) {H : Type} {enc : TypeId × Value → H} {W : World} {v : Value} {x : DataW H} {ps : List MemPlace} {ts : List TypeId} {ds : List (DataW H)} {j : Nat}
    (hsz : (DataW.weightsEach P ts ds).all (· ≤ reachBytes) = true) (ht : ts[j]? = some t) (hd : ds[j]? = some x)
    (h : DataW.Trod enc P W 0 (fun _ => true) true t v x ps) : ∃ u : α, d.K W u v.cells.toList ∧ Ok u := by
  obtain ⟨fuel, hf⟩ := h
  refine (ho fuel).2 H enc W fuel _ _ (Nat.le_refl _) hf (fun n hn => ?_)
  have := List.all_eq_true.1 hsz n (DataW.weights_mem_each ht hd n hn)
  simpa using this
theorem trod_lt_of {H : Type} {enc : TypeId × Value → H} {W : World} {t : TypeId} {v : Value} {x : DataW H} {ps : List MemPlace} (h : DataW.Trod enc P W 0 (fun _ => true) true t v x ps) : ∀ q ∈ ps, q.block < W.heap.size := by
  obtain ⟨m, hm⟩ := h
  exact DataW.trod_lt m _ _ _ hm
end
end Go.Proofs.YtbcbghbmjgcbmaaDoor.O
