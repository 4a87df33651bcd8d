/- Plain facts on sets of cycles. No program here. -/
import Derived.Test.YteogcbhlilechaaM
import Derived.Test.YteogcbhlilechaaL
namespace Go.Proofs.Yteogcbhlilechaa.C
open Go.RowKit Go.Proofs.YteogcbhlilechaaW.PrintWords Go.Proofs.Yteogcbhlilechaa.M Go.Proofs.Yteogcbhlilechaa.L
set_option linter.unusedVariables false
/-- A valid set of cycles. -/
def okSet (l o : List Int) : Prop := (1 ≤ l.length ∧ l.length ≤ 8) ∧ l.length = o.length ∧ ∀ (i : Nat) (h : i < l.length) (h' : i < o.length), (1 ≤ l[i] ∧ l[i] ≤ 1000) ∧ (0 ≤ o[i] ∧ o[i] ≤ l[i] - 1)
/-- The places of a day. -/
def places (l o : List Int) (day : Int) : List Int := (l.zip o).map fun x => (day + x.2) % x.1
theorem places_length (l o : List Int) (day : Int) (h : l.length = o.length) : (places l o day).length = l.length := by
  unfold places; rw [List.length_map, List.length_zip]; omega
theorem places_get (l o : List Int) (day : Int) (i : Nat) (h : i < l.length) (h' : i < o.length) (h'' : i < (places l o day).length) : (places l o day)[i] = (day + o[i]) % l[i] := by
  simp only [places, List.getElem_map, List.getElem_zip]
theorem places_take (l o : List Int) (day : Int) (i : Nat) (h : i < l.length) (h' : i < o.length) : (places l o day).take i ++ [(day + o[i]) % l[i]] = (places l o day).take (i + 1) := by
  have hl : i < (places l o day).length := by unfold places; rw [List.length_map, List.length_zip]; omega
  rw [List.take_succ_eq_append_getElem hl, places_get l o day i h h' hl]
/-- One step to the least common multiple; beyond the bound it stands. -/
def lcmStep (f n : Int) : Int := if f ≤ 1000000000 then f / (Int.gcd f n : Int) * n else f
theorem lcm_bound {f n : Int} (h1 : 1 ≤ f) (h2 : f ≤ 1000000000) (h3 : 1 ≤ n) (h4 : n ≤ 1000) : 0 < (Int.gcd f n : Int) ∧ (Int.gcd f n : Int) ≤ 1000 ∧ 1 ≤ f / (Int.gcd f n : Int) ∧ f / (Int.gcd f n : Int) ≤ f ∧ 1 ≤ f / (Int.gcd f n : Int) * n ∧ f / (Int.gcd f n : Int) * n ≤ 1000000000000 := by
  obtain ⟨hg0, hg1⟩ := gcd_pos_le f (m := n) (by omega)
  obtain ⟨c, hc⟩ := Int.gcd_dvd_left f n
  have hcp := mul_pos_of hg0 hc (by omega)
  have e : f / (Int.gcd f n : Int) = c := by
    have := Int.mul_ediv_cancel_left c (show (Int.gcd f n : Int) ≠ 0 by omega)
    rw [← hc] at this; exact this
  have hp := mul_lt (n := 1000000000) (m := 1000) (show 0 ≤ c by omega) (by omega) (show 0 ≤ n by omega) h4
  have hq : 1 * 1 ≤ c * n := Int.mul_le_mul (by omega) h3 (by omega) (by omega)
  rw [e]
  omega
end Go.Proofs.Yteogcbhlilechaa.C
