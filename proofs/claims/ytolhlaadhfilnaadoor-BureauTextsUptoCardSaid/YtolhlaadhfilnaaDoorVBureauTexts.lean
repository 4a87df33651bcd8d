/- What the bulk of an input gives on the labels of a zone's changes. No program here. -/
import Derived.Test.YtolhlaadhfilnaaDoorRows
import Derived.Test.YtolhlaadhfilnaaDoorO
import Derived.Test.YtolhlaadhfilnaaDoorU
import Derived.Test.YtolhlaadhfilnaaDoorPBureauTextsx0
import Derived.DataShut
namespace Go.Proofs.YtolhlaadhfilnaaDoor.VBureauTexts
open Go.ChangeShapes Go.WideShapes Go.RowKit Go.Proofs.YtolhlaadhfilnaaDoorW.PrintWords Go.Proofs.YtolhlaadhfilnaaDoor.PBureauTexts
set_option linter.unusedVariables false
set_option linter.unusedSimpArgs false
theorem sum_le {H α : Type} (g : α → Nat) (z : α) : ∀ (l : List α) (ds : List (DataW H)), ds.length = l.length → (∀ i d, ds[i]? = some d → g (l.getD i z) ≤ Rows.uptoBulk d) → (l.map g).sum ≤ Rows.uptoBulkAll ds
  | [], ds, _, _ => by simp
  | a :: l, [], h, _ => by simp at h
  | a :: l, d :: ds, h, hd => by
    have h0 := hd 0 d rfl
    have ih := sum_le g z l ds (by simpa using h) (fun i e he => by have := hd (i + 1) e he; simpa using this)
    simp only [List.map_cons, List.sum_cons, Rows.uptoBulkAll]
    have h1 : g a ≤ Rows.uptoBulk d := by simpa using h0
    omega
/-- A string is shorter than its reading's bulk. -/
theorem str_le {P : Program} {t : TypeId} (ht : P.underlying t = some .string) {H : Type} {enc : TypeId × Value → H} {W : World} {fuel : Nat} {s : ByteArray} {x : DataW H × List MemPlace}
    (h : DataW.trod enc P W 0 (fun _ => true) true fuel t [.string s] = some x) : s.size + 1 ≤ Rows.uptoBulk x.1 := by
  obtain ⟨s', e, rfl, _⟩ := DataW.trod_string ht h
  simp only [List.cons.injEq, Value.string.injEq, and_true] at e
  subst e
  simp only [Rows.uptoBulk, Array.length_toList]
  exact Nat.le_refl _
set_option maxRecDepth 100000 in
theorem change_le {H : Type} {enc : TypeId × Value → H} {W : World} {fuel : Nat} {a b : Int} {s : ByteArray} {x : DataW H × List MemPlace}
    (h : DataW.trod enc Tryd.prog W 0 (fun _ => true) true fuel 43 [.int .i64 a, .int .i64 b, .string s] = some x) : s.size + 1 ≤ Rows.uptoBulk x.1 := by
  obtain ⟨ys, m, hb, hlen, hF⟩ := U.field_le Tryd.underlying43 h
  have h2 := hF 2 _ rfl
  have hlt : 2 < ys.length := by rw [hlen]; decide
  rw [List.getElem?_eq_getElem hlt] at h2
  rw [hb]
  have h3 := str_le Tryd.underlying9 (s := s) h2
  have h4 := U.part_le (List.mem_map_of_mem (f := fun y : DataW H × List MemPlace => y.1) (List.getElem_mem hlt))
  omega
set_option maxRecDepth 100000 in
theorem labels_le {H : Type} {enc : TypeId × Value → H} {W : World} {fuel : Nat} {A : Option Addr} {c : Nat} {l : List S43} {x : DataW H × List MemPlace} (hC : Kd.C k43 W A l.length l)
    (h : DataW.trod enc Tryd.prog W 0 (fun _ => true) true fuel 22 [.slice A l.length c] = some x) : (l.map fun v => v.f2.size + 1).sum ≤ Rows.uptoBulk x.1 := by
  rcases DataW.trod_slice Tryd.underlying22 h with ⟨h1, h2⟩ | ⟨a, len, cap, elems, rest, m, _, h1, rfl, _, _, _, hlen, hF, _⟩
  · simp only [List.cons.injEq, Value.slice.injEq, and_true] at h1
    have hl : l = [] := List.length_eq_zero_iff.1 h1.2.1
    rw [hl]; simp
  · simp only [List.cons.injEq, Value.slice.injEq, and_true] at h1
    obtain ⟨hA, hn, _⟩ := h1
    have hc3 : Tryd.prog.cellsOf 43 = 3 := by kernel_rfl
    have hs := sum_le (fun v : S43 => v.f2.size + 1) z43 l (elems.map (·.1)) (by rw [List.length_map]; omega) (fun i d hd => by
      rw [List.getElem?_map] at hd
      obtain ⟨y, hy, rfl⟩ := Option.map_eq_some_iff.1 hd
      have hi : i < len := by have := (List.getElem?_eq_some_iff.1 hy).1; omega
      have h2 := hF i hi
      rw [hc3, hy] at h2
      obtain ⟨ad, e, g0, g1, g2⟩ := at_T43 hC (i : Int) (by omega) (by omega)
      rw [hA] at e
      obtain rfl := Option.some.inj e
      have hcs := World.cells?_of_each (w := W) (base := 0) (a := a.add (i * 3)) (n := 3) (cs := [.int .i64 (rd_T43 l (i : Int)).f0, .int .i64 (rd_T43 l (i : Int)).f1, .string (rd_T43 l (i : Int)).f2]) (Nat.zero_le _) rfl (fun j hj => by
        have e3 : ((i : Int).toNat * 3) = i * 3 := rfl
        rcases j with _ | _ | _ | j
        · exact g0
        · exact g1
        · exact g2
        · omega)
      rw [hcs, Option.bind_some] at h2
      exact change_le h2)
    simp only [Rows.uptoBulk]
    omega
end Go.Proofs.YtolhlaadhfilnaaDoor.VBureauTexts
