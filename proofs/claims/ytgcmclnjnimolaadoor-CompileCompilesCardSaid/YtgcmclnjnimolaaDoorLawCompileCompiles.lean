/- The card of the law CompileCompiles: the row out of the law's pure statement and the contracts of the functions, what the table rule.kids holds tied to the program's text. -/
import Derived.Test.YtgcmclnjnimolaaDoorD
import Derived.Test.YtgcmclnjnimolaaDoorTie
import Derived.Test.YtgcmclnjnimolaaDoorCards
import Derived.LaidMore
import Derived.Stop.Joined
import Derived.SevenTiedAt
import Derived.Test.YtgcmclnjnimolaaDoorRows
import Derived.Test.YtgcmclnjnimolaaDoorPCompileCompilesx15
import Derived.Test.YtgcmclnjnimolaaDoorPureCompileCompiles
import Derived.Test.YtgcmclnjnimolaaDoorO
import Derived.WalkKit
import Derived.ProofKit
import Derived.OpenShut
import Derived.ShutString
import Derived.ChangeOld
import Derived.Below
import Derived.SizedLaws
import Derived.Test.YtgcmclnjnimolaaDoorWSized
namespace Go.Proofs.YtgcmclnjnimolaaDoor.compileCompiles
open Go.ChangeShapes Go.WideShapes Go.ChangeAt Go.RowKit
open Go.Proofs.YtgcmclnjnimolaaDoor.PCompileCompiles Go.Proofs.YtgcmclnjnimolaaDoorW.PrintWords Go.Proofs.YtgcmclnjnimolaaDoor.O
open Go.ChangeMaps (open_string shut_string)
set_option linter.unusedVariables false
set_option linter.unusedSimpArgs false
theorem own : ownKnob Tryd.prog.godebug = none := by kernel_rfl
theorem laidOut : laidOutB Tryd.prog = true := by kernel_rfl
set_option maxRecDepth 100000 in
theorem opensR24 : ∀ N, Opens Tryd.prog N 24 k24 (fun _ => True)
  | 0 => ⟨by kernel_rfl, fun H enc W fuel cs x hf ht hw => by
    obtain rfl : fuel = 0 := by omega
    simp [DataW.trod] at ht⟩
  | N + 1 => by
    have h := Opens.struct (fun x : S24 => (x.f0, x.f1, x.f2)) (fun p => ⟨p.1, p.2.1, p.2.2⟩) (OpensF.cons (Opens.int Tryd.underlying3 (by kernel_rfl)) (OpensF.cons (Opens.int Tryd.underlying3 (by kernel_rfl)) (OpensF.one (Opens.slice (B := 40) (opensR24 N) Tryd.underlying22 (by kernel_rfl) (by kernel_rfl)) rfl) rfl rfl) rfl rfl) Tryd.underlying24 (by kernel_rfl) (fun _ => rfl)
    refine ⟨by kernel_rfl, fun H enc W fuel cs x hf ht hw => ?_⟩
    obtain ⟨v, hK, _⟩ := h.2 H enc W fuel cs x hf ht hw
    obtain ⟨_, _, rfl, rfl, ⟨_, _, rfl, rfl, ⟨A2, c2, rfl, hl2, hC2⟩⟩⟩ := hK
    exact ⟨v, k24_mk W v hl2 hC2, trivial⟩
set_option maxRecDepth 100000 in
theorem lifted (os : Os) (started : os.Started) (H : Type) (enc : TypeId × Value → H) :
    ReturnsInHanded {} Tryd.checked os 5 .any (fun w args => (Rows.compileCompilesSpec.pre enc Tryd.prog Tryd.f5 [] false w args ∧ laidMetH Tryd.prog D.table w) ∧ sizedMet enc Tryd.prog Tryd.f5 (OpenSpec.ofChange Rows.compileCompilesSpec) false w args) (Rows.compileCompilesSpec.post enc Tryd.prog Tryd.f5 false true false false) := by
  refine returnsInHanded_of_change_and (C := Tryd.checked) (X := (fun w _ => laidMetH Tryd.prog D.table w)) (fun _ _ _ hh h => h.of_heap hh) own started (by kernel_rfl) Tryd.func5
    (ChangeSpec.witness_shaped (enc := enc) (C := Tryd.checked) (os := os) (X := (fun w _ => laidMetH Tryd.prog D.table w)) false (World.doorLaid Tryd.prog 19 os) #[.agg #[.string ByteArray.empty, .int .i64 0, .int .i64 0, .int .i64 0, .int .i64 0, .slice none 0 0, .slice none 0 0]] 8 rfl (World.shaped_of_RefB (by kernel_rfl) (by kernel_rfl)) (by kernel_rfl) (by kernel_rfl) (by kernel_rfl) (D.door_met os _)) ?_
  intro W base args ds gs before hval0 hW hcnd hsz0 hL _
  have hT : PCompileCompiles.rule_walk.Tab W := D.tab_of_laid hL
  have hsz : (DataW.weightsEach Tryd.prog (Tryd.f5.params.toList ++ Rows.compileCompilesSpec.plain.varTypes Tryd.prog) (ds ++ gs)).all (· ≤ reachBytes) = true := hsz0
  have hval : ∀ (j : Nat) t v, Tryd.f5.params[j]? = some t → args[j]? = some v → Value.okWide Tryd.prog W .any base t v := hval0
  have hW' := hW
  obtain ⟨p, q, hA0, hV, rfl, hfz, hnd⟩ := hW
  have hA : DataW.TrodAll enc Tryd.prog W 0 (fun _ => true) true Tryd.f5.params.toList args.toList ds p := hA0
  rw [Tryd.params5] at hA hval hsz
  obtain ⟨v0, vs0, d0, ds0, p0, q0, hargs, rfl, rfl, h0, r0⟩ := trodAll_cons hA
  obtain ⟨rfl, rfl, rfl⟩ := trodAll_nil r0
  obtain rfl : args = #[v0] := by cases args; simp_all
  obtain ⟨rfl, rfl⟩ := trodVars_none hV
  have k0 := h0
  have lt0 := trod_lt_of k0
  obtain ⟨cs0, rfl, hcs0⟩ := okWide_struct Tryd.underlying27 (hval 0 27 v0 rfl rfl)
  obtain ⟨⟨a0_0, a0_1, a0_2, ⟨a0_3, a0_4, l0_5⟩, l0_6⟩, hk0, ⟨w0_0, w0_1, w0_2, ⟨w0_3, w0_4, w0_5⟩, w0_6⟩⟩ := open_arg (fun N => ((Opens.structP (OpensF.cons (Opens.string Tryd.underlying9 (by kernel_rfl)) (OpensF.cons (Opens.int Tryd.underlying3 (by kernel_rfl)) (OpensF.cons (Opens.int Tryd.underlying3 (by kernel_rfl)) (OpensF.cons ((Opens.structP (OpensF.cons (Opens.int Tryd.underlying3 (by kernel_rfl)) (OpensF.cons (Opens.int Tryd.underlying3 (by kernel_rfl)) (OpensF.one (Opens.slice (B := 40) (opensR24 _) Tryd.underlying22 (by kernel_rfl) (by kernel_rfl)) rfl) rfl rfl) rfl rfl) Tryd.underlying24 (by kernel_rfl)).less (Nat.le_succ _)) (OpensF.one (Opens.slice (B := 32) ((Opens.struct (fun x : S53 => (x.f0, x.f1, x.f2)) (fun p => ⟨p.1, p.2.1, p.2.2⟩) (OpensF.cons (Opens.string Tryd.underlying9 (by kernel_rfl)) (OpensF.cons (Opens.int Tryd.underlying3 (by kernel_rfl)) (OpensF.one (Opens.int Tryd.underlying3 (by kernel_rfl)) rfl) rfl rfl) rfl rfl) Tryd.underlying53 (by kernel_rfl) (fun _ => rfl)).less (Nat.le_succ _)) Tryd.underlying25 (by kernel_rfl) (by kernel_rfl)) rfl) rfl rfl) rfl rfl) rfl rfl) rfl rfl) Tryd.underlying27 (by kernel_rfl)).less (Nat.le_succ _))) hsz (j := 0) (t := 27) rfl rfl h0
  obtain ⟨_, _, e0_0, rfl, ⟨_, _, e0_1, rfl, ⟨_, _, e0_2, rfl, ⟨_, _, e0_3, ⟨_, _, e0_4, rfl, ⟨_, _, e0_5, rfl, ⟨A0_5, c0_5, rfl, hc0_5, hr0_5⟩⟩⟩, ⟨A0_6, c0_6, rfl, hc0_6, hr0_6⟩⟩⟩⟩⟩ := hk0
  obtain rfl : cs0 = #[.string a0_0, .int .i64 a0_1, .int .i64 a0_2, .int .i64 a0_3, .int .i64 a0_4, .slice A0_5 l0_5.length c0_5, .slice A0_6 l0_6.length c0_6] := by
    cases cs0
    simp only [Value.cells, List.cons_append, List.nil_append] at e0_0 e0_1 e0_2 e0_3 e0_4 e0_5
    simp_all
  clear hA0 hval0 hsz0 hsz
  obtain ⟨k, hP⟩ := Pure.CompileCompiles a0_0 a0_1 a0_2 a0_3 a0_4 l0_5 l0_6 w0_0 w0_1 w0_2 w0_3 w0_4 w0_5 w0_6
  refine (PCompileCompiles.ephemerislaw1_CompileCompiles.calls k a0_0 a0_1 a0_2 a0_3 a0_4 _ _ l0_5 _ _ l0_6 true W hr0_5 hc0_5 hr0_6 hc0_6 hT hP).mono fun e W' ⟨he, bel0⟩ => ?_
  have bel : Below W.heap.size W W' := bel0
  subst he
  exact ⟨_, rfl, _, _, _, [], _, [], hW', trodAll_mk1 (shut_bool Tryd.underlying4 _), (trodAll_cons_mk (Below.trod laidOut (by kernel_rfl) (of_decide_eq_true (by kernel_rfl)) k0 bel lt0) trodAll_mk0), rfl, bel.frame _, fun h => by cases h⟩
theorem over : Rows.compileCompilesRow.holds Tryd.pinned (OpenSpec.ofChange Rows.compileCompilesSpec) :=
  OpenClaim.holds_of_wide 5 Tryd.f5 rfl rfl rfl rfl rfl rfl rfl ⟨rfl, rfl, rfl, rfl, rfl⟩ rfl rfl rfl rfl rfl (by kernel_rfl) Tryd.func5 (by kernel_rfl)
    (of_decide_eq_true (by kernel_rfl)) (by unfold Func.isWrapper; first | (rw [if_pos (by decide +kernel)]; kernel_rfl) | (rw [if_neg (by decide +kernel)]; exact ⟨rfl, rfl⟩))
    (fun os started H enc _ => lifted os started H enc)
theorem card_holds : Rows.CompileCompilesCardSaid :=
  Claim7.holds_tied_plain_at .later [] [.data] true (true, "a4eb7e8751c48e72138074469af6cecb74923f58dfa708a65bb0f5397189b90e") false
    over (fun _ h => by cases h) (by kernel_rfl) (fun _ h => by cases h) compileCompiles_row_tie rfl ⟨rfl, rfl⟩ (by kernel_rfl) rfl
    (fun f fn hf hfn => by
      obtain rfl : f = 5 := Option.some.inj ((show Tryd.prog.funcNamed Rows.compileCompilesRow.func = some 5 by kernel_rfl).symm.trans hf) |>.symm
      obtain rfl : fn = Tryd.f5 := (Option.some.inj (Tryd.func5.symm.trans hfn)).symm
      exact ⟨by kernel_rfl, fun j t ht => by
        rw [Tryd.params5] at ht
        have hm : t ∈ [27] := by simpa using Array.mem_of_getElem? ht
        have hall : ([27].all fun u => !Tryd.prog.wantsStandIn u) = true := by kernel_rfl
        exact (show Tryd.prog.wantsStandIn t = false by simpa using List.all_eq_true.1 hall t hm)⟩)
    (by kernel_rfl)
theorem proved : Rows.CompileCompilesCardSaid := card_holds
#print axioms proved
end Go.Proofs.YtgcmclnjnimolaaDoor.compileCompiles
namespace Go.Proofs.YtgcmclnjnimolaaDoor
/-- The row, under a short name, for the claim. -/
theorem compileCompiles_holds : Rows.CompileCompilesCardSaid := compileCompiles.proved
end Go.Proofs.YtgcmclnjnimolaaDoor
