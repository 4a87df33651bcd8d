/- The row of the law EraChecks, out of its pure statement and the contracts of the functions. -/
import Derived.Test.YtmnemnoaijldjaaRows
import Derived.Test.YtmnemnoaijldjaaPEraChecksx2
import Derived.Test.YtmnemnoaijldjaaPureEraChecks
import Derived.Test.YtmnemnoaijldjaaO
import Derived.WalkKit
import Derived.ProofKit
import Derived.OpenShut
import Derived.ShutString
import Derived.ChangeOld
import Derived.Below
import Derived.SizedLaws
import Derived.Test.YtmnemnoaijldjaaWSized
namespace Go.Proofs.Ytmnemnoaijldjaa.eraChecks
open Go.ChangeShapes Go.WideShapes Go.ChangeAt Go.RowKit
open Go.Proofs.Ytmnemnoaijldjaa.PEraChecks Go.Proofs.YtmnemnoaijldjaaW.PrintWords Go.Proofs.Ytmnemnoaijldjaa.O
open Go.ChangeMaps (open_string shut_string)
set_option linter.unusedVariables false
set_option linter.unusedSimpArgs false
theorem own : ownKnob Try.prog.godebug = none := by kernel_rfl
theorem laidOut : laidOutB Try.prog = true := by kernel_rfl
set_option maxRecDepth 100000 in
theorem lifted (os : Os) (started : os.Started) (H : Type) (enc : TypeId × Value → H) :
    ReturnsInHanded {} Try.checked os 10 .any (Rows.eraChecksSpec.pre6 enc Try.prog Try.f10 Rows.eraChecksRow.domain false) (Rows.eraChecksSpec.post enc Try.prog Try.f10 false true false false) := by
  refine returnsInHanded_of_change_sized (C := Try.checked) own started (by kernel_rfl) Try.func10
    (ChangeSpec.witness6 (enc := enc) (C := Try.checked) false ⟨#[], #[.slice none 0 0], []⟩ 8 (by kernel_rfl) (by kernel_rfl) (by kernel_rfl) (by kernel_rfl)) ?_
  intro W base args ds gs before hval0 hW hcnd hsz0 _
  have hsz : (DataW.weightsEach Try.prog (Try.f10.params.toList ++ Rows.eraChecksSpec.plain.varTypes Try.prog) (ds ++ gs)).all (· ≤ reachBytes) = true := hsz0
  have hval : ∀ (j : Nat) t v, Try.f10.params[j]? = some t → args[j]? = some v → Value.okWide Try.prog W .any base t v := hval0
  have hW' := hW
  obtain ⟨p, q, hA0, hV, rfl, hfz, hnd⟩ := hW
  have hA : DataW.TrodAll enc Try.prog W 0 (fun _ => true) true Try.f10.params.toList args.toList ds p := hA0
  rw [Try.params10] at hA hval hsz
  obtain ⟨v0, vs0, d0, ds0, p0, q0, hargs, rfl, rfl, h0, r0⟩ := trodAll_cons hA
  obtain ⟨rfl, rfl, rfl⟩ := trodAll_nil r0
  obtain rfl : args = #[v0] := by cases args; simp_all
  obtain ⟨rfl, rfl⟩ := trodVars_none hV
  have k0 := h0
  have lt0 := trod_lt_of k0
  obtain ⟨aa0, len0, cap0, rfl⟩ := okWide_slice Try.underlying41 (hval 0 41 v0 rfl rfl)
  obtain ⟨l0, ⟨A0, c0, e0, hc0, hr0⟩, w0⟩ := open_arg (fun N => (Opens.slice (B := 24) ((Opens.struct (fun x : S44 => (x.f0, x.f1)) (fun p => ⟨p.1, p.2⟩) (OpensF.cons (Opens.string Try.underlying9 (by kernel_rfl)) (OpensF.one (Opens.int Try.underlying3 (by kernel_rfl)) rfl) rfl rfl) Try.underlying44 (by kernel_rfl) (fun _ => rfl)).less (Nat.le_succ _)) Try.underlying41 (by kernel_rfl) (by kernel_rfl))) hsz (j := 0) (t := 41) rfl rfl h0
  simp only [Value.cells, List.cons.injEq, Value.slice.injEq, and_true] at e0
  obtain ⟨rfl, rfl, rfl⟩ := e0
  clear hA0 hval0 hsz0 hsz
  obtain ⟨k, hP⟩ := Pure.EraChecks l0 w0
  refine (PEraChecks.ephemerislaw1_EraChecks.calls k _ _ l0 true W hr0 hc0 hP).mono fun e W' ⟨he, bel0⟩ => ?_
  have bel : Below W.heap.size W W' := bel0
  subst he
  exact ⟨_, rfl, _, _, _, [], _, [], hW', trodAll_mk1 (shut_bool Try.underlying4 _), (trodAll_cons_mk (Below.trod laidOut (by kernel_rfl) (of_decide_eq_true (by kernel_rfl)) k0 bel lt0) trodAll_mk0), rfl, bel.frame _, fun h => by cases h⟩
theorem over : Rows.eraChecksRow.holds Try.pinned (OpenSpec.ofChange Rows.eraChecksSpec) :=
  OpenClaim.holds_of_wide 10 Try.f10 rfl rfl rfl rfl rfl rfl rfl ⟨rfl, rfl, rfl, rfl, rfl⟩ rfl rfl rfl rfl rfl (by kernel_rfl) Try.func10 (by kernel_rfl)
    (of_decide_eq_true (by kernel_rfl)) (by unfold Func.isWrapper; first | (rw [if_pos (by decide +kernel)]; kernel_rfl) | (rw [if_neg (by decide +kernel)]; exact ⟨rfl, rfl⟩))
    (fun os started H enc _ => lifted os started H enc)
theorem proved : Rows.EraChecksSaid := over
#print axioms proved
end Go.Proofs.Ytmnemnoaijldjaa.eraChecks
namespace Go.Proofs.Ytmnemnoaijldjaa
/-- The row, under a short name, for the claim. -/
theorem eraChecks_holds : Rows.EraChecksSaid := eraChecks.proved
end Go.Proofs.Ytmnemnoaijldjaa
