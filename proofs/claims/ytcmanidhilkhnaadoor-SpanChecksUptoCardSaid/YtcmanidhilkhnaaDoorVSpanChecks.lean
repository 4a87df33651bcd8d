/- What the bulk of an input gives on the labels of a zone's changes. No program here. -/
import Derived.Test.YtcmanidhilkhnaaDoorRows
import Derived.Test.YtcmanidhilkhnaaDoorO
import Derived.Test.YtcmanidhilkhnaaDoorU
import Derived.Test.YtcmanidhilkhnaaDoorPSpanChecksx0
import Derived.DataShut
namespace Go.Proofs.YtcmanidhilkhnaaDoor.VSpanChecks
open Go.ChangeShapes Go.WideShapes Go.RowKit Go.Proofs.YtcmanidhilkhnaaDoorW.PrintWords Go.Proofs.YtcmanidhilkhnaaDoor.PSpanChecks
set_option linter.unusedVariables false
set_option linter.unusedSimpArgs false
theorem sum_le {H α : Type} (g : α → Nat) (z : α) : ∀ (l : List α) (ds : List (DataW H)), ds.length = l.length → (∀ i d, ds[i]? = some d → g (l.getD i z) ≤ Rows.uptoBulk d) → (l.map g).sum ≤ Rows.uptoBulkAll ds
  | [], ds, _, _ => by simp
  | a :: l, [], h, _ => by simp at h
  | a :: l, d :: ds, h, hd => by
    have h0 := hd 0 d rfl
    have ih := sum_le g z l ds (by simpa using h) (fun i e he => by have := hd (i + 1) e he; simpa using this)
    simp only [List.map_cons, List.sum_cons, Rows.uptoBulkAll]
    have h1 : g a ≤ Rows.uptoBulk d := by simpa using h0
    omega
/-- A string is shorter than its reading's bulk. -/
theorem str_le {P : Program} {t : TypeId} (ht : P.underlying t = some .string) {H : Type} {enc : TypeId × Value → H} {W : World} {fuel : Nat} {s : ByteArray} {x : DataW H × List MemPlace}
    (h : DataW.trod enc P W 0 (fun _ => true) true fuel t [.string s] = some x) : s.size + 1 ≤ Rows.uptoBulk x.1 := by
  obtain ⟨s', e, rfl, _⟩ := DataW.trod_string ht h
  simp only [List.cons.injEq, Value.string.injEq, and_true] at e
  subst e
  simp only [Rows.uptoBulk, Array.length_toList]
  exact Nat.le_refl _
end Go.Proofs.YtcmanidhilkhnaaDoor.VSpanChecks
