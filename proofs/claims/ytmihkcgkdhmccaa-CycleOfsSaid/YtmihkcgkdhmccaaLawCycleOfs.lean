/- The row of the law CycleOfs, out of its pure statement and the contracts of the functions. -/
import Derived.Test.YtmihkcgkdhmccaaRows
import Derived.Test.YtmihkcgkdhmccaaPCycleOfsx4
import Derived.Test.YtmihkcgkdhmccaaPureCycleOfs
import Derived.Test.YtmihkcgkdhmccaaO
import Derived.WalkKit
import Derived.ProofKit
import Derived.OpenShut
import Derived.ShutString
import Derived.ChangeOld
import Derived.Below
import Derived.SizedLaws
import Derived.Test.YtmihkcgkdhmccaaWSized
namespace Go.Proofs.Ytmihkcgkdhmccaa.cycleOfs
open Go.ChangeShapes Go.WideShapes Go.ChangeAt Go.RowKit
open Go.Proofs.Ytmihkcgkdhmccaa.PCycleOfs Go.Proofs.YtmihkcgkdhmccaaW.PrintWords Go.Proofs.Ytmihkcgkdhmccaa.O
open Go.ChangeMaps (open_string shut_string)
set_option linter.unusedVariables false
set_option linter.unusedSimpArgs false
theorem own : ownKnob Try.prog.godebug = none := by kernel_rfl
theorem laidOut : laidOutB Try.prog = true := by kernel_rfl
set_option maxRecDepth 100000 in
theorem lifted (os : Os) (started : os.Started) (H : Type) (enc : TypeId × Value → H) :
    ReturnsInHanded {} Try.checked os 11 .any (Rows.cycleOfsSpec.pre6 enc Try.prog Try.f11 Rows.cycleOfsRow.domain false) (Rows.cycleOfsSpec.post enc Try.prog Try.f11 false true false false) := by
  refine returnsInHanded_of_change_sized (C := Try.checked) own started (by kernel_rfl) Try.func11
    (ChangeSpec.witness6 (enc := enc) (C := Try.checked) false ⟨#[], #[.agg #[.slice none 0 0, .slice none 0 0], .int .i64 0], []⟩ 8 (by kernel_rfl) (by kernel_rfl) (by kernel_rfl) (by kernel_rfl)) ?_
  intro W base args ds gs before hval0 hW hcnd hsz0 _
  have hsz : (DataW.weightsEach Try.prog (Try.f11.params.toList ++ Rows.cycleOfsSpec.plain.varTypes Try.prog) (ds ++ gs)).all (· ≤ reachBytes) = true := hsz0
  have hval : ∀ (j : Nat) t v, Try.f11.params[j]? = some t → args[j]? = some v → Value.okWide Try.prog W .any base t v := hval0
  have hW' := hW
  obtain ⟨p, q, hA0, hV, rfl, hfz, hnd⟩ := hW
  have hA : DataW.TrodAll enc Try.prog W 0 (fun _ => true) true Try.f11.params.toList args.toList ds p := hA0
  rw [Try.params11] at hA hval hsz
  obtain ⟨v0, vs0, d0, ds0, p0, q0, hargs, rfl, rfl, h0, r0⟩ := trodAll_cons hA
  obtain ⟨v1, vs1, d1, ds1, p1, q1, rfl, rfl, rfl, h1, r1⟩ := trodAll_cons r0
  obtain ⟨rfl, rfl, rfl⟩ := trodAll_nil r1
  obtain rfl : args = #[v0, v1] := by cases args; simp_all
  obtain ⟨rfl, rfl⟩ := trodVars_none hV
  have k0 := h0
  have lt0 := trod_lt_of k0
  obtain ⟨cs0, rfl, hcs0⟩ := okWide_struct Try.underlying71 (hval 0 71 v0 rfl rfl)
  obtain ⟨⟨l0_0, l0_1⟩, hk0, ⟨w0_0, w0_1⟩⟩ := open_arg (fun N => ((Opens.structP (OpensF.cons (Opens.slice (B := 8) (Opens.int Try.underlying3 (by kernel_rfl)) Try.underlying30 (by kernel_rfl) (by kernel_rfl)) (OpensF.one (Opens.slice (B := 8) (Opens.int Try.underlying3 (by kernel_rfl)) Try.underlying30 (by kernel_rfl) (by kernel_rfl)) rfl) rfl rfl) Try.underlying71 (by kernel_rfl)).less (Nat.le_succ _))) hsz (j := 0) (t := 71) rfl rfl h0
  obtain ⟨_, _, e0_0, ⟨A0_0, c0_0, rfl, hc0_0, hr0_0⟩, ⟨A0_1, c0_1, rfl, hc0_1, hr0_1⟩⟩ := hk0
  obtain rfl : cs0 = #[.slice A0_0 l0_0.length c0_0, .slice A0_1 l0_1.length c0_1] := by
    cases cs0
    simp only [Value.cells, List.cons_append, List.nil_append] at e0_0
    simp_all
  obtain ⟨a1, rfl, rfl, rfl, w1⟩ := open_int Try.underlying3 (hval 1 3 v1 rfl rfl) h1
  clear hA0 hval0 hsz0 hsz
  obtain ⟨k, hP⟩ := Pure.CycleOfs l0_0 l0_1 a1 w0_0 w0_1 w1
  refine (PCycleOfs.ephemerislaw1_CycleOfs.calls k _ _ l0_0 _ _ l0_1 a1 true W hr0_0 hc0_0 hr0_1 hc0_1 hP).mono fun e W' ⟨he, bel0⟩ => ?_
  have bel : Below W.heap.size W W' := bel0
  subst he
  exact ⟨_, rfl, _, _, _, [], _, [], hW', trodAll_mk1 (shut_bool Try.underlying4 _), (trodAll_cons_mk (Below.trod laidOut (by kernel_rfl) (of_decide_eq_true (by kernel_rfl)) k0 bel lt0) (trodAll_cons_mk (shut_int Try.underlying3 w1) trodAll_mk0)), rfl, bel.frame _, fun h => by cases h⟩
theorem over : Rows.cycleOfsRow.holds Try.pinned (OpenSpec.ofChange Rows.cycleOfsSpec) :=
  OpenClaim.holds_of_wide 11 Try.f11 rfl rfl rfl rfl rfl rfl rfl ⟨rfl, rfl, rfl, rfl, rfl⟩ rfl rfl rfl rfl rfl (by kernel_rfl) Try.func11 (by kernel_rfl)
    (of_decide_eq_true (by kernel_rfl)) (by unfold Func.isWrapper; first | (rw [if_pos (by decide +kernel)]; kernel_rfl) | (rw [if_neg (by decide +kernel)]; exact ⟨rfl, rfl⟩))
    (fun os started H enc _ => lifted os started H enc)
theorem proved : Rows.CycleOfsSaid := over
#print axioms proved
end Go.Proofs.Ytmihkcgkdhmccaa.cycleOfs
namespace Go.Proofs.Ytmihkcgkdhmccaa
/-- The row, under a short name, for the claim. -/
theorem cycleOfs_holds : Rows.CycleOfsSaid := cycleOfs.proved
end Go.Proofs.Ytmihkcgkdhmccaa
