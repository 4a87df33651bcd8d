/- The row of the law ObservedDates, out of its pure statement and the contracts of the functions. -/
import Derived.Test.YteogcbhlilechaaRows
import Derived.Test.YteogcbhlilechaaPObservedDatesx8
import Derived.Test.YteogcbhlilechaaPureObservedDates
import Derived.Test.YteogcbhlilechaaO
import Derived.WalkKit
import Derived.ProofKit
import Derived.OpenShut
import Derived.ShutString
import Derived.ChangeOld
import Derived.Below
import Derived.SizedLaws
import Derived.Test.YteogcbhlilechaaWSized
namespace Go.Proofs.Yteogcbhlilechaa.observedDates
open Go.ChangeShapes Go.WideShapes Go.ChangeAt Go.RowKit
open Go.Proofs.Yteogcbhlilechaa.PObservedDates Go.Proofs.YteogcbhlilechaaW.PrintWords Go.Proofs.Yteogcbhlilechaa.O
open Go.ChangeMaps (open_string shut_string)
set_option linter.unusedVariables false
set_option linter.unusedSimpArgs false
theorem own : ownKnob Try.prog.godebug = none := by kernel_rfl
theorem laidOut : laidOutB Try.prog = true := by kernel_rfl
set_option maxRecDepth 100000 in
theorem lifted (os : Os) (started : os.Started) (H : Type) (enc : TypeId × Value → H) :
    ReturnsInHanded {} Try.checked os 6 .any (Rows.observedDatesSpec.pre6 enc Try.prog Try.f6 Rows.observedDatesRow.domain false) (Rows.observedDatesSpec.post enc Try.prog Try.f6 false true false false) := by
  refine returnsInHanded_of_change_sized (C := Try.checked) own started (by kernel_rfl) Try.func6
    (ChangeSpec.witness6 (enc := enc) (C := Try.checked) false ⟨#[], #[.agg #[.string ByteArray.empty, .int .i64 0, .slice none 0 0, .slice none 0 0], .agg #[.int .i64 0, .int .i64 0, .int .i64 0], .int .i64 0], []⟩ 8 (by kernel_rfl) (by kernel_rfl) (by kernel_rfl) (by kernel_rfl)) ?_
  intro W base args ds gs before hval0 hW hcnd hsz0 _
  have hsz : (DataW.weightsEach Try.prog (Try.f6.params.toList ++ Rows.observedDatesSpec.plain.varTypes Try.prog) (ds ++ gs)).all (· ≤ reachBytes) = true := hsz0
  have hval : ∀ (j : Nat) t v, Try.f6.params[j]? = some t → args[j]? = some v → Value.okWide Try.prog W .any base t v := hval0
  have hW' := hW
  obtain ⟨p, q, hA0, hV, rfl, hfz, hnd⟩ := hW
  have hA : DataW.TrodAll enc Try.prog W 0 (fun _ => true) true Try.f6.params.toList args.toList ds p := hA0
  rw [Try.params6] at hA hval hsz
  obtain ⟨v0, vs0, d0, ds0, p0, q0, hargs, rfl, rfl, h0, r0⟩ := trodAll_cons hA
  obtain ⟨v1, vs1, d1, ds1, p1, q1, rfl, rfl, rfl, h1, r1⟩ := trodAll_cons r0
  obtain ⟨v2, vs2, d2, ds2, p2, q2, rfl, rfl, rfl, h2, r2⟩ := trodAll_cons r1
  obtain ⟨rfl, rfl, rfl⟩ := trodAll_nil r2
  obtain rfl : args = #[v0, v1, v2] := by cases args; simp_all
  obtain ⟨rfl, rfl⟩ := trodVars_none hV
  have k0 := h0
  have lt0 := trod_lt_of k0
  obtain ⟨cs0, rfl, hcs0⟩ := okWide_struct Try.underlying29 (hval 0 29 v0 rfl rfl)
  obtain ⟨⟨a0_0, a0_1, l0_2, l0_3⟩, hk0, ⟨w0_0, w0_1, w0_2, w0_3⟩⟩ := open_arg (fun N => ((Opens.structP (OpensF.cons (Opens.string Try.underlying9 (by kernel_rfl)) (OpensF.cons (Opens.int Try.underlying3 (by kernel_rfl)) (OpensF.cons (Opens.slice (B := 8) (Opens.int Try.underlying3 (by kernel_rfl)) Try.underlying22 (by kernel_rfl) (by kernel_rfl)) (OpensF.one (Opens.slice (B := 8) (Opens.int Try.underlying3 (by kernel_rfl)) Try.underlying22 (by kernel_rfl) (by kernel_rfl)) rfl) rfl rfl) rfl rfl) rfl rfl) Try.underlying29 (by kernel_rfl)).less (Nat.le_succ _))) hsz (j := 0) (t := 29) rfl rfl h0
  obtain ⟨_, _, e0_0, rfl, ⟨_, _, e0_1, rfl, ⟨_, _, e0_2, ⟨A0_2, c0_2, rfl, hc0_2, hr0_2⟩, ⟨A0_3, c0_3, rfl, hc0_3, hr0_3⟩⟩⟩⟩ := hk0
  obtain rfl : cs0 = #[.string a0_0, .int .i64 a0_1, .slice A0_2 l0_2.length c0_2, .slice A0_3 l0_3.length c0_3] := by
    cases cs0
    simp only [Value.cells, List.cons_append, List.nil_append] at e0_0 e0_1 e0_2
    simp_all
  have k1 := h1
  have lt1 := trod_lt_of k1
  obtain ⟨cs1, rfl, hcs1⟩ := okWide_struct Try.underlying56 (hval 1 56 v1 rfl rfl)
  obtain ⟨⟨a1_0, a1_1, a1_2⟩, hk1, ⟨w1_0, w1_1, w1_2⟩⟩ := open_arg (fun N => ((Opens.structP (OpensF.cons (Opens.int Try.underlying3 (by kernel_rfl)) (OpensF.cons (Opens.int Try.underlying3 (by kernel_rfl)) (OpensF.one (Opens.int Try.underlying3 (by kernel_rfl)) rfl) rfl rfl) rfl rfl) Try.underlying56 (by kernel_rfl)).less (Nat.le_succ _))) hsz (j := 1) (t := 56) rfl rfl h1
  obtain ⟨_, _, e1_0, rfl, ⟨_, _, e1_1, rfl, rfl⟩⟩ := hk1
  obtain rfl : cs1 = #[.int .i64 a1_0, .int .i64 a1_1, .int .i64 a1_2] := by
    cases cs1
    simp only [Value.cells, List.cons_append, List.nil_append] at e1_0 e1_1
    simp_all
  obtain ⟨a2, rfl, rfl, rfl, w2⟩ := open_int Try.underlying3 (hval 2 3 v2 rfl rfl) h2
  clear hA0 hval0 hsz0 hsz
  obtain ⟨k, hP⟩ := Pure.ObservedDates a0_0 a0_1 l0_2 l0_3 a1_0 a1_1 a1_2 a2 w0_0 w0_1 w0_2 w0_3 w1_0 w1_1 w1_2 w2
  refine (PObservedDates.ephemerislaw1_ObservedDates.calls k a0_0 a0_1 _ _ l0_2 _ _ l0_3 a1_0 a1_1 a1_2 a2 true W hr0_2 hc0_2 hr0_3 hc0_3 hP).mono fun e W' ⟨he, bel0⟩ => ?_
  have bel : Below W.heap.size W W' := bel0
  subst he
  exact ⟨_, rfl, _, _, _, [], _, [], hW', trodAll_mk1 (shut_bool Try.underlying4 _), (trodAll_cons_mk (Below.trod laidOut (by kernel_rfl) (of_decide_eq_true (by kernel_rfl)) k0 bel lt0) (trodAll_cons_mk (Below.trod laidOut (by kernel_rfl) (of_decide_eq_true (by kernel_rfl)) k1 bel lt1) (trodAll_cons_mk (shut_int Try.underlying3 w2) trodAll_mk0))), rfl, bel.frame _, fun h => by cases h⟩
theorem over : Rows.observedDatesRow.holds Try.pinned (OpenSpec.ofChange Rows.observedDatesSpec) :=
  OpenClaim.holds_of_wide 6 Try.f6 rfl rfl rfl rfl rfl rfl rfl ⟨rfl, rfl, rfl, rfl, rfl⟩ rfl rfl rfl rfl rfl (by kernel_rfl) Try.func6 (by kernel_rfl)
    (of_decide_eq_true (by kernel_rfl)) (by unfold Func.isWrapper; first | (rw [if_pos (by decide +kernel)]; kernel_rfl) | (rw [if_neg (by decide +kernel)]; exact ⟨rfl, rfl⟩))
    (fun os started H enc _ => lifted os started H enc)
theorem proved : Rows.ObservedDatesSaid := over
#print axioms proved
end Go.Proofs.Yteogcbhlilechaa.observedDates
namespace Go.Proofs.Yteogcbhlilechaa
/-- The row, under a short name, for the claim. -/
theorem observedDates_holds : Rows.ObservedDatesSaid := observedDates.proved
end Go.Proofs.Yteogcbhlilechaa
