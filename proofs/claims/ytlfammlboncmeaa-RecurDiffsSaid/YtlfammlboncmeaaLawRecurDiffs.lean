/- The row of the law RecurDiffs, out of its pure statement and the contracts of the functions. -/
import Derived.Test.YtlfammlboncmeaaRows
import Derived.Test.YtlfammlboncmeaaPRecurDiffsx11
import Derived.Test.YtlfammlboncmeaaPureRecurDiffs
import Derived.Test.YtlfammlboncmeaaO
import Derived.WalkKit
import Derived.ProofKit
import Derived.OpenShut
import Derived.ShutString
import Derived.ChangeOld
import Derived.Below
import Derived.SizedLaws
import Derived.Test.YtlfammlboncmeaaWSized
namespace Go.Proofs.Ytlfammlboncmeaa.recurDiffs
open Go.ChangeShapes Go.WideShapes Go.ChangeAt Go.RowKit
open Go.Proofs.Ytlfammlboncmeaa.PRecurDiffs Go.Proofs.YtlfammlboncmeaaW.PrintWords Go.Proofs.Ytlfammlboncmeaa.O
open Go.ChangeMaps (open_string shut_string)
set_option linter.unusedVariables false
set_option linter.unusedSimpArgs false
theorem own : ownKnob Try.prog.godebug = none := by kernel_rfl
theorem laidOut : laidOutB Try.prog = true := by kernel_rfl
set_option maxRecDepth 100000 in
theorem lifted (os : Os) (started : os.Started) (H : Type) (enc : TypeId × Value → H) :
    ReturnsInHanded {} Try.checked os 7 .any (Rows.recurDiffsSpec.pre6 enc Try.prog Try.f7 Rows.recurDiffsRow.domain false) (Rows.recurDiffsSpec.post enc Try.prog Try.f7 false true false false) := by
  refine returnsInHanded_of_change_sized (C := Try.checked) own started (by kernel_rfl) Try.func7
    (ChangeSpec.witness6 (enc := enc) (C := Try.checked) false ⟨#[], #[.agg #[.int .i64 0, .int .i64 0, .int .i64 0, .int .i64 0, .int .i64 0, .slice none 0 0, .slice none 0 0, .slice none 0 0], .agg #[.int .i64 0, .int .i64 0, .int .i64 0, .int .i64 0, .int .i64 0, .slice none 0 0, .slice none 0 0, .slice none 0 0], .int .i64 0, .int .i64 0], []⟩ 8 (by kernel_rfl) (by kernel_rfl) (by kernel_rfl) (by kernel_rfl)) ?_
  intro W base args ds gs before hval0 hW hcnd hsz0 _
  have hsz : (DataW.weightsEach Try.prog (Try.f7.params.toList ++ Rows.recurDiffsSpec.plain.varTypes Try.prog) (ds ++ gs)).all (· ≤ reachBytes) = true := hsz0
  have hval : ∀ (j : Nat) t v, Try.f7.params[j]? = some t → args[j]? = some v → Value.okWide Try.prog W .any base t v := hval0
  have hW' := hW
  obtain ⟨p, q, hA0, hV, rfl, hfz, hnd⟩ := hW
  have hA : DataW.TrodAll enc Try.prog W 0 (fun _ => true) true Try.f7.params.toList args.toList ds p := hA0
  rw [Try.params7] at hA hval hsz
  obtain ⟨v0, vs0, d0, ds0, p0, q0, hargs, rfl, rfl, h0, r0⟩ := trodAll_cons hA
  obtain ⟨v1, vs1, d1, ds1, p1, q1, rfl, rfl, rfl, h1, r1⟩ := trodAll_cons r0
  obtain ⟨v2, vs2, d2, ds2, p2, q2, rfl, rfl, rfl, h2, r2⟩ := trodAll_cons r1
  obtain ⟨v3, vs3, d3, ds3, p3, q3, rfl, rfl, rfl, h3, r3⟩ := trodAll_cons r2
  obtain ⟨rfl, rfl, rfl⟩ := trodAll_nil r3
  obtain rfl : args = #[v0, v1, v2, v3] := by cases args; simp_all
  obtain ⟨rfl, rfl⟩ := trodVars_none hV
  have k0 := h0
  have lt0 := trod_lt_of k0
  obtain ⟨cs0, rfl, hcs0⟩ := okWide_struct Try.underlying33 (hval 0 33 v0 rfl rfl)
  obtain ⟨⟨a0_0, a0_1, a0_2, a0_3, a0_4, l0_5, l0_6, l0_7⟩, hk0, ⟨w0_0, w0_1, w0_2, w0_3, w0_4, w0_5, w0_6, w0_7⟩⟩ := open_arg (fun N => ((Opens.structP (OpensF.cons (Opens.int Try.underlying3 (by kernel_rfl)) (OpensF.cons (Opens.int Try.underlying3 (by kernel_rfl)) (OpensF.cons (Opens.int Try.underlying3 (by kernel_rfl)) (OpensF.cons (Opens.int Try.underlying3 (by kernel_rfl)) (OpensF.cons (Opens.int Try.underlying3 (by kernel_rfl)) (OpensF.cons (Opens.slice (B := 8) (Opens.int Try.underlying3 (by kernel_rfl)) Try.underlying22 (by kernel_rfl) (by kernel_rfl)) (OpensF.cons (Opens.slice (B := 8) (Opens.int Try.underlying3 (by kernel_rfl)) Try.underlying22 (by kernel_rfl) (by kernel_rfl)) (OpensF.one (Opens.slice (B := 8) (Opens.int Try.underlying3 (by kernel_rfl)) Try.underlying22 (by kernel_rfl) (by kernel_rfl)) rfl) rfl rfl) rfl rfl) rfl rfl) rfl rfl) rfl rfl) rfl rfl) rfl rfl) Try.underlying33 (by kernel_rfl)).less (Nat.le_succ _))) hsz (j := 0) (t := 33) rfl rfl h0
  obtain ⟨_, _, e0_0, rfl, ⟨_, _, e0_1, rfl, ⟨_, _, e0_2, rfl, ⟨_, _, e0_3, rfl, ⟨_, _, e0_4, rfl, ⟨_, _, e0_5, ⟨A0_5, c0_5, rfl, hc0_5, hr0_5⟩, ⟨_, _, e0_6, ⟨A0_6, c0_6, rfl, hc0_6, hr0_6⟩, ⟨A0_7, c0_7, rfl, hc0_7, hr0_7⟩⟩⟩⟩⟩⟩⟩⟩ := hk0
  obtain rfl : cs0 = #[.int .i64 a0_0, .int .i64 a0_1, .int .i64 a0_2, .int .i64 a0_3, .int .i64 a0_4, .slice A0_5 l0_5.length c0_5, .slice A0_6 l0_6.length c0_6, .slice A0_7 l0_7.length c0_7] := by
    cases cs0
    simp only [Value.cells, List.cons_append, List.nil_append] at e0_0 e0_1 e0_2 e0_3 e0_4 e0_5 e0_6
    simp_all
  have k1 := h1
  have lt1 := trod_lt_of k1
  obtain ⟨cs1, rfl, hcs1⟩ := okWide_struct Try.underlying33 (hval 1 33 v1 rfl rfl)
  obtain ⟨⟨a1_0, a1_1, a1_2, a1_3, a1_4, l1_5, l1_6, l1_7⟩, hk1, ⟨w1_0, w1_1, w1_2, w1_3, w1_4, w1_5, w1_6, w1_7⟩⟩ := open_arg (fun N => ((Opens.structP (OpensF.cons (Opens.int Try.underlying3 (by kernel_rfl)) (OpensF.cons (Opens.int Try.underlying3 (by kernel_rfl)) (OpensF.cons (Opens.int Try.underlying3 (by kernel_rfl)) (OpensF.cons (Opens.int Try.underlying3 (by kernel_rfl)) (OpensF.cons (Opens.int Try.underlying3 (by kernel_rfl)) (OpensF.cons (Opens.slice (B := 8) (Opens.int Try.underlying3 (by kernel_rfl)) Try.underlying22 (by kernel_rfl) (by kernel_rfl)) (OpensF.cons (Opens.slice (B := 8) (Opens.int Try.underlying3 (by kernel_rfl)) Try.underlying22 (by kernel_rfl) (by kernel_rfl)) (OpensF.one (Opens.slice (B := 8) (Opens.int Try.underlying3 (by kernel_rfl)) Try.underlying22 (by kernel_rfl) (by kernel_rfl)) rfl) rfl rfl) rfl rfl) rfl rfl) rfl rfl) rfl rfl) rfl rfl) rfl rfl) Try.underlying33 (by kernel_rfl)).less (Nat.le_succ _))) hsz (j := 1) (t := 33) rfl rfl h1
  obtain ⟨_, _, e1_0, rfl, ⟨_, _, e1_1, rfl, ⟨_, _, e1_2, rfl, ⟨_, _, e1_3, rfl, ⟨_, _, e1_4, rfl, ⟨_, _, e1_5, ⟨A1_5, c1_5, rfl, hc1_5, hr1_5⟩, ⟨_, _, e1_6, ⟨A1_6, c1_6, rfl, hc1_6, hr1_6⟩, ⟨A1_7, c1_7, rfl, hc1_7, hr1_7⟩⟩⟩⟩⟩⟩⟩⟩ := hk1
  obtain rfl : cs1 = #[.int .i64 a1_0, .int .i64 a1_1, .int .i64 a1_2, .int .i64 a1_3, .int .i64 a1_4, .slice A1_5 l1_5.length c1_5, .slice A1_6 l1_6.length c1_6, .slice A1_7 l1_7.length c1_7] := by
    cases cs1
    simp only [Value.cells, List.cons_append, List.nil_append] at e1_0 e1_1 e1_2 e1_3 e1_4 e1_5 e1_6
    simp_all
  obtain ⟨a2, rfl, rfl, rfl, w2⟩ := open_int Try.underlying3 (hval 2 3 v2 rfl rfl) h2
  obtain ⟨a3, rfl, rfl, rfl, w3⟩ := open_int Try.underlying3 (hval 3 3 v3 rfl rfl) h3
  clear hA0 hval0 hsz0 hsz
  obtain ⟨k, hP⟩ := Pure.RecurDiffs a0_0 a0_1 a0_2 a0_3 a0_4 l0_5 l0_6 l0_7 a1_0 a1_1 a1_2 a1_3 a1_4 l1_5 l1_6 l1_7 a2 a3 w0_0 w0_1 w0_2 w0_3 w0_4 w0_5 w0_6 w0_7 w1_0 w1_1 w1_2 w1_3 w1_4 w1_5 w1_6 w1_7 w2 w3
  refine (PRecurDiffs.ephemerislaw1_RecurDiffs.calls k a0_0 a0_1 a0_2 a0_3 a0_4 _ _ l0_5 _ _ l0_6 _ _ l0_7 a1_0 a1_1 a1_2 a1_3 a1_4 _ _ l1_5 _ _ l1_6 _ _ l1_7 a2 a3 true W hr0_5 hc0_5 hr0_6 hc0_6 hr0_7 hc0_7 hr1_5 hc1_5 hr1_6 hc1_6 hr1_7 hc1_7 hP).mono fun e W' ⟨he, bel0⟩ => ?_
  have bel : Below W.heap.size W W' := bel0
  subst he
  exact ⟨_, rfl, _, _, _, [], _, [], hW', trodAll_mk1 (shut_bool Try.underlying4 _), (trodAll_cons_mk (Below.trod laidOut (by kernel_rfl) (of_decide_eq_true (by kernel_rfl)) k0 bel lt0) (trodAll_cons_mk (Below.trod laidOut (by kernel_rfl) (of_decide_eq_true (by kernel_rfl)) k1 bel lt1) (trodAll_cons_mk (shut_int Try.underlying3 w2) (trodAll_cons_mk (shut_int Try.underlying3 w3) trodAll_mk0)))), rfl, bel.frame _, fun h => by cases h⟩
theorem over : Rows.recurDiffsRow.holds Try.pinned (OpenSpec.ofChange Rows.recurDiffsSpec) :=
  OpenClaim.holds_of_wide 7 Try.f7 rfl rfl rfl rfl rfl rfl rfl ⟨rfl, rfl, rfl, rfl, rfl⟩ rfl rfl rfl rfl rfl (by kernel_rfl) Try.func7 (by kernel_rfl)
    (of_decide_eq_true (by kernel_rfl)) (by unfold Func.isWrapper; first | (rw [if_pos (by decide +kernel)]; kernel_rfl) | (rw [if_neg (by decide +kernel)]; exact ⟨rfl, rfl⟩))
    (fun os started H enc _ => lifted os started H enc)
theorem proved : Rows.RecurDiffsSaid := over
#print axioms proved
end Go.Proofs.Ytlfammlboncmeaa.recurDiffs
namespace Go.Proofs.Ytlfammlboncmeaa
/-- The row, under a short name, for the claim. -/
theorem recurDiffs_holds : Rows.RecurDiffsSaid := recurDiffs.proved
end Go.Proofs.Ytlfammlboncmeaa
