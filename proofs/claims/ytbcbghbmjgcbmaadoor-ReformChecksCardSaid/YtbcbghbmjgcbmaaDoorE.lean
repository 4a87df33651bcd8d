/- What a laid table of arrays over numbers and texts gives a walk: the variable's cells, one by one. No program here. -/
import Derived.LaidLaws
import Derived.ChangeArms
import Derived.OpenShut
import Derived.Lib.LaidTab
namespace Go.Proofs.YtbcbghbmjgcbmaaDoor.E
mutual
/-- The cells that a datum of arrays over numbers and texts tells. -/
def flat : DataW Unit → Option (List Value)
  | .lit (.int k z) => some [.int k z]
  | .lit (.string l) => some [.string ⟨l.toArray⟩]
  | .agg l => flats l
  | _ => none
def flats : List (DataW Unit) → Option (List Value)
  | [] => some []
  | x :: r => (flat x).bind fun a => (flats r).bind fun b => some (a ++ b)
end
/-- A type whose data tell its cells. -/
def Told (P : Program) (w : World) (t : TypeId) : Prop := ∀ fuel cs d p, DataW.trod (fun _ => ()) P w 0 (fun _ => true) false fuel t cs = some (d, p) → flat d = some cs
theorem told_int {P : Program} {w : World} {t : TypeId} {k : IntKind} (h : P.underlying t = some (.int k)) : Told P w t := by
  intro fuel cs d p e
  obtain ⟨n, rfl, hx, _⟩ := DataW.trod_int h e
  obtain ⟨rfl, rfl⟩ := Prod.mk.inj hx
  simp only [flat]
theorem told_string {P : Program} {w : World} {t : TypeId} (h : P.underlying t = some .string) : Told P w t := by
  intro fuel cs d p e
  obtain ⟨s, rfl, hx, _⟩ := DataW.trod_string h e
  obtain ⟨rfl, rfl⟩ := Prod.mk.inj hx
  simp only [flat, Array.toArray_toList]
theorem flats_all (c : Nat) : ∀ (xs : List (DataW Unit × List MemPlace)) (cs : List Value), cs.length = xs.length * c → (∀ i, i < xs.length → ∃ x, xs[i]? = some x ∧ flat x.1 = some ((cs.drop (i * c)).take c)) → flats (xs.map (·.1)) = some cs
  | [], cs, hl, _ => by
    have : cs = [] := List.eq_nil_of_length_eq_zero (by simpa using hl)
    subst this
    simp only [List.map_nil, flats]
  | x :: r, cs, hl, h => by
    obtain ⟨y, hy, hf⟩ := h 0 (by simp)
    simp only [List.getElem?_cons_zero, Option.some.injEq] at hy
    subst hy
    have h2 := flats_all c r (cs.drop c) (by rw [List.length_drop, hl, List.length_cons, Nat.succ_mul]; omega) (fun i hi => by
      obtain ⟨z, hz, hg⟩ := h (i + 1) (by simpa using hi)
      refine ⟨z, by simpa using hz, ?_⟩
      rw [hg, List.drop_drop, Nat.succ_mul, Nat.add_comm])
    simp only [Nat.zero_mul, List.drop_zero] at hf
    simp only [List.map_cons, flats, hf, h2, Option.bind_some, List.take_append_drop]
theorem told_array {P : Program} {w : World} {t e : TypeId} {n : Nat} (h : P.underlying t = some (.array n e)) (hc : P.cellsOf t = n * P.cellsOf e) (he : Told P w e) : Told P w t := by
  intro fuel cs d p h1
  obtain ⟨xs, m, rfl, hx, hl, hxl, hF⟩ := DataW.trod_array h h1
  obtain ⟨rfl, rfl⟩ := Prod.mk.inj hx
  simp only [flat]
  refine flats_all (P.cellsOf e) xs cs (by rw [hl, hc, hxl]) ?_
  intro i hi
  refine ⟨xs[i], List.getElem?_eq_getElem hi, ?_⟩
  have h2 := hF i (by omega)
  rw [List.getElem?_eq_getElem hi] at h2
  exact he m _ _ _ h2
theorem one {P : Program} {w : World} {name : String} {d : DataW Unit} {g : Nat} {t : TypeId} {L : List Value} (hg : P.globalNamed name = some g) (ht : (P.globals[g]?).map (·.type) = some t) (hT : Told P w t) (hL : flat d = some L) :
    ∀ (l : List (String × DataW Unit)) (ps : List MemPlace), DataW.LaidVars P w l ps → (name, d) ∈ l → ∀ (i : Nat) (v : Value), L[i]? = some v → w.cell? ⟨g, i, none⟩ = some v := by
  intro l
  induction l with
  | nil => intro ps _ hm; cases hm
  | cons x r ih =>
    intro ps h hm
    obtain ⟨g', t', cs, fuel, p, q, h1, h2, h3, h4, h5, _⟩ := h
    by_cases hx : (name, d) = x
    · subst hx
      obtain rfl := Option.some.inj (hg.symm.trans h1)
      obtain rfl := Option.some.inj (ht.symm.trans h2)
      have h7 := hT fuel cs.toList d p h4
      rw [hL] at h7
      obtain rfl := Option.some.inj h7
      intro i v hv
      have h6 := World.var?_cell hg h3 i
      rw [h6]
      simpa using hv
    · exact ih q h5 (by simpa [hx] using hm)
/-- The cells of a laid variable. -/
theorem cells {P : Program} {w : World} {l : List (String × DataW Unit)} {name : String} {d : DataW Unit} {g : Nat} {t : TypeId} {L : List Value} (h : laidMet P l w) (hm : (name, d) ∈ l)
    (hg : P.globalNamed name = some g) (ht : (P.globals[g]?).map (·.type) = some t) (hT : Told P w t) (hL : flat d = some L) : ∀ (i : Nat) (v : Value), L[i]? = some v → w.cell? ⟨g, i, none⟩ = some v := by
  obtain ⟨ps, hv, _⟩ := h
  exact one hg ht hT hL l ps hv hm
end Go.Proofs.YtbcbghbmjgcbmaaDoor.E
