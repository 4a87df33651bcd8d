/- The row of the law ObservedExtends, out of its pure statement and the contracts of the functions. -/
import Derived.Test.YtlfammlboncmeaaRows
import Derived.Test.YtlfammlboncmeaaPObservedExtendsx5
import Derived.Test.YtlfammlboncmeaaPureObservedExtends
import Derived.Test.YtlfammlboncmeaaO
import Derived.Test.YtlfammlboncmeaaU
import Derived.JoinedCond
import Derived.Deep.CondSized
import Derived.WalkKit
import Derived.ProofKit
import Derived.OpenShut
import Derived.ShutString
import Derived.ChangeOld
import Derived.Below
import Derived.SizedLaws
import Derived.Test.YtlfammlboncmeaaWSized
namespace Go.Proofs.Ytlfammlboncmeaa.observedExtends
open Go.ChangeShapes Go.WideShapes Go.ChangeAt Go.RowKit
open Go.Proofs.Ytlfammlboncmeaa.PObservedExtends Go.Proofs.YtlfammlboncmeaaW.PrintWords Go.Proofs.Ytlfammlboncmeaa.O
open Go.ChangeMaps (open_string shut_string)
set_option linter.unusedVariables false
set_option linter.unusedSimpArgs false
theorem own : ownKnob Try.prog.godebug = none := by kernel_rfl
theorem laidOut : laidOutB Try.prog = true := by kernel_rfl
set_option maxRecDepth 100000 in
theorem lifted (os : Os) (started : os.Started) (H : Type) (enc : TypeId × Value → H) (F : Stop.Interp) :
    ReturnsInHanded {} Try.checked os 3 .any ((Rows.OpenSpec.upto Rows.observedExtendsSpec).pre6 enc Try.prog Try.f3 Rows.observedExtendsUptoRow.domain false) (((Rows.OpenSpec.upto Rows.observedExtendsSpec).at F).post enc Try.prog Try.f3 false true false false) := by
  refine returnsInHanded_of_cond_sized (C := Try.checked) (s := Rows.OpenSpec.upto Rows.observedExtendsSpec) (k := Rows.uptoSmall) rfl own started (by kernel_rfl) Try.func3
    (OpenSpec.witness (enc := enc) (C := Try.checked) (s := Rows.OpenSpec.upto Rows.observedExtendsSpec) (k := Rows.uptoSmall) rfl false ⟨#[], #[.agg #[.string ByteArray.empty, .int .i64 0, .slice none 0 0, .slice none 0 0], .slice none 0 0], []⟩ 8 (by kernel_rfl) (by kernel_rfl) (by kernel_rfl)
      (x := ([.agg [.lit (.string []), .lit (.int .i64 0), .nil, .nil], .nil], [], [])) (by kernel_rfl) rfl (by kernel_rfl)) ?_
  intro W base args ds gs before hval0 hW hcnd hk0 hsz0 _
  have hbulk : Rows.uptoBulkAll (ds ++ gs) ≤ 1048576 := of_decide_eq_true hk0
  have hsz : (DataW.weightsEach Try.prog (Try.f3.params.toList ++ Rows.observedExtendsSpec.plain.varTypes Try.prog) (ds ++ gs)).all (· ≤ reachBytes) = true := hsz0
  have hval : ∀ (j : Nat) t v, Try.f3.params[j]? = some t → args[j]? = some v → Value.okWide Try.prog W .any base t v := hval0
  have hW' := hW
  obtain ⟨p, q, hA0, hV, rfl, hfz, hnd⟩ := hW
  have hA : DataW.TrodAll enc Try.prog W 0 (fun _ => true) true Try.f3.params.toList args.toList ds p := hA0
  rw [Try.params3] at hA hval hsz
  obtain ⟨v0, vs0, d0, ds0, p0, q0, hargs, rfl, rfl, h0, r0⟩ := trodAll_cons hA
  obtain ⟨v1, vs1, d1, ds1, p1, q1, rfl, rfl, rfl, h1, r1⟩ := trodAll_cons r0
  obtain ⟨rfl, rfl, rfl⟩ := trodAll_nil r1
  obtain rfl : args = #[v0, v1] := by cases args; simp_all
  obtain ⟨rfl, rfl⟩ := trodVars_none hV
  have k0 := h0
  have z0 := h0
  have lt0 := trod_lt_of k0
  obtain ⟨cs0, rfl, hcs0⟩ := okWide_struct Try.underlying24 (hval 0 24 v0 rfl rfl)
  obtain ⟨⟨a0_0, a0_1, l0_2, l0_3⟩, hk0, ⟨w0_0, w0_1, w0_2, w0_3⟩⟩ := open_arg (fun N => ((Opens.structP (OpensF.cons (Opens.string Try.underlying9 (by kernel_rfl)) (OpensF.cons (Opens.int Try.underlying3 (by kernel_rfl)) (OpensF.cons (Opens.slice (B := 8) (Opens.int Try.underlying3 (by kernel_rfl)) Try.underlying22 (by kernel_rfl) (by kernel_rfl)) (OpensF.one (Opens.slice (B := 8) (Opens.int Try.underlying3 (by kernel_rfl)) Try.underlying22 (by kernel_rfl) (by kernel_rfl)) rfl) rfl rfl) rfl rfl) rfl rfl) Try.underlying24 (by kernel_rfl)).less (Nat.le_succ _))) hsz (j := 0) (t := 24) rfl rfl h0
  obtain ⟨_, _, e0_0, rfl, ⟨_, _, e0_1, rfl, ⟨_, _, e0_2, ⟨A0_2, c0_2, rfl, hc0_2, hr0_2⟩, ⟨A0_3, c0_3, rfl, hc0_3, hr0_3⟩⟩⟩⟩ := hk0
  obtain rfl : cs0 = #[.string a0_0, .int .i64 a0_1, .slice A0_2 l0_2.length c0_2, .slice A0_3 l0_3.length c0_3] := by
    cases cs0
    simp only [Value.cells, List.cons_append, List.nil_append] at e0_0 e0_1 e0_2
    simp_all
  have k1 := h1
  have z1 := h1
  have lt1 := trod_lt_of k1
  obtain ⟨aa1, len1, cap1, rfl⟩ := okWide_slice Try.underlying22 (hval 1 22 v1 rfl rfl)
  obtain ⟨l1, ⟨A1, c1, e1, hc1, hr1⟩, w1⟩ := open_arg (fun N => (Opens.slice (B := 8) (Opens.int Try.underlying3 (by kernel_rfl)) Try.underlying22 (by kernel_rfl) (by kernel_rfl))) hsz (j := 1) (t := 22) rfl rfl h1
  simp only [Value.cells, List.cons.injEq, Value.slice.injEq, and_true] at e1
  obtain ⟨rfl, rfl, rfl⟩ := e1
  clear hA0 hval0 hsz0 hsz
  obtain ⟨fu1, hf1⟩ := z1
  have b1 := U.len_le Try.underlying22 hf1
  obtain ⟨fu0, hf0⟩ := z0
  obtain ⟨ys, m, hb, hlen, hF⟩ := U.field_le Try.underlying24 hf0
  have hc22 : Try.prog.cellsOf 22 = 1 := by kernel_rfl
  have b2 : l0_2.length ≤ Rows.uptoBulkAll (ys.map (·.1)) := by
    have h2 := hF 2 _ rfl
    have hlt : 2 < ys.length := by rw [hlen]; decide
    rw [List.getElem?_eq_getElem hlt] at h2
    exact Nat.le_trans (U.len_le (n := l0_2.length) (A := A0_2) (c := c0_2) Try.underlying22 h2) (U.part_le (List.mem_map_of_mem (List.getElem_mem hlt)))
  have b3 : l0_3.length ≤ Rows.uptoBulkAll (ys.map (·.1)) := by
    have h2 := hF 3 _ rfl
    have hlt : 3 < ys.length := by rw [hlen]; decide
    rw [List.getElem?_eq_getElem hlt] at h2
    exact Nat.le_trans (U.len_le (n := l0_3.length) (A := A0_3) (c := c0_3) Try.underlying22 h2) (U.part_le (List.mem_map_of_mem (List.getElem_mem hlt)))
  simp only [List.cons_append, List.nil_append, Rows.uptoBulkAll] at hbulk
  simp only at b1 hb
  obtain ⟨k, hP⟩ := Pure.ObservedExtends a0_0 a0_1 l0_2 l0_3 l1 w0_1 (by omega) (by omega) (by omega)
  refine (PObservedExtends.ephemerislaw1_ObservedExtends.calls k a0_0 a0_1 _ _ l0_2 _ _ l0_3 _ _ l1 true W hr0_2 hc0_2 hr0_3 hc0_3 hr1 hc1 hP).mono fun e W' ⟨he, bel0⟩ => ?_
  have bel : Below W.heap.size W W' := bel0
  subst he
  exact ⟨_, rfl, _, _, _, [], _, [], hW', trodAll_mk1 (shut_bool Try.underlying4 _), (trodAll_cons_mk (Below.trod laidOut (by kernel_rfl) (of_decide_eq_true (by kernel_rfl)) k0 bel lt0) (trodAll_cons_mk (Below.trod laidOut (by kernel_rfl) (of_decide_eq_true (by kernel_rfl)) k1 bel lt1) trodAll_mk0)), rfl, bel.frame _, fun h => by cases h⟩
theorem over : Rows.ObservedExtendsUptoSaid :=
  OpenClaim.holds_of_cond 3 Try.f3 rfl rfl rfl rfl rfl rfl rfl ⟨rfl, rfl, rfl, rfl, rfl⟩ rfl rfl rfl rfl rfl (by kernel_rfl) Try.func3 (by kernel_rfl)
    (of_decide_eq_true (by kernel_rfl)) (by unfold Func.isWrapper; first | (rw [if_pos (by decide +kernel)]; kernel_rfl) | (rw [if_neg (by decide +kernel)]; exact ⟨rfl, rfl⟩))
    (fun os started H enc _ F => lifted os started H enc F)
theorem proved : Rows.ObservedExtendsUptoSaid := over
#print axioms proved
end Go.Proofs.Ytlfammlboncmeaa.observedExtends
namespace Go.Proofs.Ytlfammlboncmeaa
/-- The row, under a short name, for the claim. -/
theorem observedExtendsUpto_holds : Rows.ObservedExtendsUptoSaid := observedExtends.proved
end Go.Proofs.Ytlfammlboncmeaa
