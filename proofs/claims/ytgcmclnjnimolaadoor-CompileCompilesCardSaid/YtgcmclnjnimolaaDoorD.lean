/- What the laid table rule.kids gives a walk: the variable's cells. No walk here. -/
import Derived.Test.YtgcmclnjnimolaaDoorRows
import Derived.ProofKit
import Derived.LaidMore
import Derived.OpenShut
import Derived.Stop.Joined
namespace Go.Proofs.YtgcmclnjnimolaaDoor.D
open Go.ChangeShapes Go.WideShapes Go.RowKit
def table : List (String × DataW Unit) := [("ephemeris/rule.kids", Rows.laid_ephemeris_rule_kids)]
def kids : List Int := [0, 0, 0, 1, 2, 2, 2, 2, 2, 2, 2, 1, 2, 2]
theorem gKids : Tryd.prog.globalNamed "ephemeris/rule.kids" = some 0 := by kernel_rfl
theorem tKids : (Tryd.prog.globals[0]?).map (·.type) = some 81 := by kernel_rfl
theorem cInt : Tryd.prog.cellsOf 3 = 1 := by kernel_rfl
theorem data : Rows.laid_ephemeris_rule_kids = (.agg (kids.map fun k => .lit (.int .i64 k)) : DataW Unit) := rfl
theorem door_met (os : Os) (args : Array Value) : laidMetH Tryd.prog table ((World.doorLaid Tryd.prog 19 os).forCall (fun _ _ => 0) ⟨#[], args, []⟩).memory :=
  laidMetH_of_parts3 (fuel := 8) (laidMet_of_run' 8 (by kernel_rfl) (by kernel_rfl)) (by kernel_rfl) (by kernel_rfl)
theorem agg_inj {a b : List (DataW Unit)} (h : DataW.agg a = DataW.agg b) : a = b := by injection h
theorem lit_inj {a b : Int} (h : (DataW.lit (.int .i64 a) : DataW Unit) = .lit (.int .i64 b)) : a = b := by
  injection h with h
  injection h
theorem one_cell {l : List Value} {i : Nat} {a : Value} (h : (l.drop (i * 1)).take 1 = [a]) : l[i]? = some a := by
  have h1 := congrArg (fun s => s[0]?) h
  simpa using h1
theorem tab_of_laid {W : World} (h : laidMetH Tryd.prog table W) : 0 < W.heap.size ∧ ∀ i, i < 14 → W.cell? ⟨0, i, none⟩ = some (.int .i64 (kids.getD i 0)) := by
  rw [MakeChecks.laidMetH_plain _ _ _ (by kernel_rfl)] at h
  obtain ⟨ps, ⟨g, t, cs, fuel, p, q, hg, ht, hvar, hd, _, _⟩, _⟩ := h
  obtain rfl := Option.some.inj (gKids.symm.trans hg)
  obtain rfl := Option.some.inj (tKids.symm.trans ht)
  have all : ∀ i, i < 14 → W.cell? ⟨0, i, none⟩ = some (.int .i64 (kids.getD i 0)) := by
    intro i hi
    obtain ⟨xs, m, rfl, hx, hl, hxl, hF⟩ := DataW.trod_array Tryd.underlying81 hd
    have h1 := hF i hi
    rw [cInt] at h1
    have hlt : i < xs.length := by omega
    rw [List.getElem?_eq_getElem hlt] at h1
    obtain ⟨n, hc, hxi, _⟩ := DataW.trod_int Tryd.underlying3 h1
    have h2 := one_cell hc
    have h3 := congrArg Prod.fst hx
    rw [data] at h3
    have h4 := agg_inj h3
    have h6 := congrArg (fun s => s[i]?) h4
    simp only [List.getElem?_map, List.getElem?_eq_getElem hlt, Option.map_some, hxi] at h6
    have hk : i < kids.length := hi
    rw [List.getElem?_eq_getElem hk, Option.map_some] at h6
    have h7 : kids[i] = n := lit_inj (Option.some.inj h6)
    have h9 := World.var?_cell gKids hvar i
    rw [h9, List.getD_eq_getElem?_getD, List.getElem?_eq_getElem hk, Option.getD_some, h7]
    simpa using h2
  exact ⟨Nat.lt_of_le_of_lt (Nat.zero_le _) (World.block_lt_of_cell? W _ (all 0 (by omega))), all⟩
end Go.Proofs.YtgcmclnjnimolaaDoor.D
