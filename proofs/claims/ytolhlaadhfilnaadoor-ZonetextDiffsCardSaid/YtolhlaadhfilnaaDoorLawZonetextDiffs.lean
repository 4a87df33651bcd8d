/- The card of the law ZonetextDiffs: the row out of the law's pure statement and the contracts of the functions; the tables that the row lists are laid in the witness and not read. -/
import Derived.Lay
import Derived.Test.YtolhlaadhfilnaaDoorTie
import Derived.Test.YtolhlaadhfilnaaDoorCards
import Derived.LaidMore
import Derived.Stop.Joined
import Derived.SevenTiedAt
import Derived.Test.YtolhlaadhfilnaaDoorRows
import Derived.Test.YtolhlaadhfilnaaDoorPZonetextDiffsx8
import Derived.Test.YtolhlaadhfilnaaDoorPureZonetextDiffs
import Derived.Test.YtolhlaadhfilnaaDoorO
import Derived.WalkKit
import Derived.ProofKit
import Derived.OpenShut
import Derived.ShutString
import Derived.ChangeOld
import Derived.Below
import Derived.SizedLaws
import Derived.Test.YtolhlaadhfilnaaDoorWSized
namespace Go.Proofs.YtolhlaadhfilnaaDoor.zonetextDiffs
open Go.ChangeShapes Go.WideShapes Go.ChangeAt Go.RowKit
open Go.Proofs.YtolhlaadhfilnaaDoor.PZonetextDiffs Go.Proofs.YtolhlaadhfilnaaDoorW.PrintWords Go.Proofs.YtolhlaadhfilnaaDoor.O
open Go.ChangeMaps (open_string shut_string)
set_option linter.unusedVariables false
set_option linter.unusedSimpArgs false
theorem own : ownKnob Tryd.prog.godebug = none := by kernel_rfl
theorem laidOut : laidOutB Tryd.prog = true := by kernel_rfl
def laidTable : List (String × DataW Unit) := [("unicode/utf8.acceptRanges", Rows.laid_unicode_utf8_acceptRanges), ("unicode/utf8.first", Rows.laid_unicode_utf8_first)]
set_option maxRecDepth 100000 in
theorem lifted (os : Os) (started : os.Started) (H : Type) (enc : TypeId × Value → H) :
    ReturnsInHanded {} Tryd.checked os 6 .any (fun w args => (Rows.zonetextDiffsSpec.pre enc Tryd.prog Tryd.f6 [] false w args ∧ laidMetH Tryd.prog laidTable w) ∧ sizedMet enc Tryd.prog Tryd.f6 (OpenSpec.ofChange Rows.zonetextDiffsSpec) false w args) (Rows.zonetextDiffsSpec.post enc Tryd.prog Tryd.f6 false true false false) := by
  refine returnsInHanded_of_change_and (C := Tryd.checked) (X := (fun w _ => laidMetH Tryd.prog laidTable w)) (fun _ _ _ hh h => h.of_heap hh) own started (by kernel_rfl) Tryd.func6
    (ChangeSpec.witness_shaped (enc := enc) (C := Tryd.checked) (os := os) (X := (fun w _ => laidMetH Tryd.prog laidTable w)) false (World.laidAll Tryd.prog os laidTable) #[.agg #[.string ByteArray.empty, .int .i64 0, .slice none 0 0], .agg #[.string ByteArray.empty, .int .i64 0, .slice none 0 0]] 8 (World.laidAll_os _ _ _) (World.shaped_of_ZipB (by kernel_rfl) (by kernel_rfl)) (by kernel_rfl) (by kernel_rfl) (by kernel_rfl) (by rw [MakeChecks.laidMetH_plain _ _ _ (by kernel_rfl)]; exact laidMet_laidAll _ (by kernel_rfl) (by kernel_rfl))) ?_
  intro W base args ds gs before hval0 hW hcnd hsz0 hL _
  have hsz : (DataW.weightsEach Tryd.prog (Tryd.f6.params.toList ++ Rows.zonetextDiffsSpec.plain.varTypes Tryd.prog) (ds ++ gs)).all (· ≤ reachBytes) = true := hsz0
  have hval : ∀ (j : Nat) t v, Tryd.f6.params[j]? = some t → args[j]? = some v → Value.okWide Tryd.prog W .any base t v := hval0
  have hW' := hW
  obtain ⟨p, q, hA0, hV, rfl, hfz, hnd⟩ := hW
  have hA : DataW.TrodAll enc Tryd.prog W 0 (fun _ => true) true Tryd.f6.params.toList args.toList ds p := hA0
  rw [Tryd.params6] at hA hval hsz
  obtain ⟨v0, vs0, d0, ds0, p0, q0, hargs, rfl, rfl, h0, r0⟩ := trodAll_cons hA
  obtain ⟨v1, vs1, d1, ds1, p1, q1, rfl, rfl, rfl, h1, r1⟩ := trodAll_cons r0
  obtain ⟨rfl, rfl, rfl⟩ := trodAll_nil r1
  obtain rfl : args = #[v0, v1] := by cases args; simp_all
  obtain ⟨rfl, rfl⟩ := trodVars_none hV
  have k0 := h0
  have lt0 := trod_lt_of k0
  obtain ⟨cs0, rfl, hcs0⟩ := okWide_struct Tryd.underlying24 (hval 0 24 v0 rfl rfl)
  obtain ⟨⟨a0_0, a0_1, l0_2⟩, hk0, ⟨w0_0, w0_1, w0_2⟩⟩ := open_arg (fun N => ((Opens.structP (OpensF.cons (Opens.string Tryd.underlying9 (by kernel_rfl)) (OpensF.cons (Opens.int Tryd.underlying3 (by kernel_rfl)) (OpensF.one (Opens.slice (B := 32) ((Opens.struct (fun x : S43 => (x.f0, x.f1, x.f2)) (fun p => ⟨p.1, p.2.1, p.2.2⟩) (OpensF.cons (Opens.int Tryd.underlying3 (by kernel_rfl)) (OpensF.cons (Opens.int Tryd.underlying3 (by kernel_rfl)) (OpensF.one (Opens.string Tryd.underlying9 (by kernel_rfl)) rfl) rfl rfl) rfl rfl) Tryd.underlying43 (by kernel_rfl) (fun _ => rfl)).less (Nat.le_succ _)) Tryd.underlying22 (by kernel_rfl) (by kernel_rfl)) rfl) rfl rfl) rfl rfl) Tryd.underlying24 (by kernel_rfl)).less (Nat.le_succ _))) hsz (j := 0) (t := 24) rfl rfl h0
  obtain ⟨_, _, e0_0, rfl, ⟨_, _, e0_1, rfl, ⟨A0_2, c0_2, rfl, hc0_2, hr0_2⟩⟩⟩ := hk0
  obtain rfl : cs0 = #[.string a0_0, .int .i64 a0_1, .slice A0_2 l0_2.length c0_2] := by
    cases cs0
    simp only [Value.cells, List.cons_append, List.nil_append] at e0_0 e0_1
    simp_all
  have k1 := h1
  have lt1 := trod_lt_of k1
  obtain ⟨cs1, rfl, hcs1⟩ := okWide_struct Tryd.underlying24 (hval 1 24 v1 rfl rfl)
  obtain ⟨⟨a1_0, a1_1, l1_2⟩, hk1, ⟨w1_0, w1_1, w1_2⟩⟩ := open_arg (fun N => ((Opens.structP (OpensF.cons (Opens.string Tryd.underlying9 (by kernel_rfl)) (OpensF.cons (Opens.int Tryd.underlying3 (by kernel_rfl)) (OpensF.one (Opens.slice (B := 32) ((Opens.struct (fun x : S43 => (x.f0, x.f1, x.f2)) (fun p => ⟨p.1, p.2.1, p.2.2⟩) (OpensF.cons (Opens.int Tryd.underlying3 (by kernel_rfl)) (OpensF.cons (Opens.int Tryd.underlying3 (by kernel_rfl)) (OpensF.one (Opens.string Tryd.underlying9 (by kernel_rfl)) rfl) rfl rfl) rfl rfl) Tryd.underlying43 (by kernel_rfl) (fun _ => rfl)).less (Nat.le_succ _)) Tryd.underlying22 (by kernel_rfl) (by kernel_rfl)) rfl) rfl rfl) rfl rfl) Tryd.underlying24 (by kernel_rfl)).less (Nat.le_succ _))) hsz (j := 1) (t := 24) rfl rfl h1
  obtain ⟨_, _, e1_0, rfl, ⟨_, _, e1_1, rfl, ⟨A1_2, c1_2, rfl, hc1_2, hr1_2⟩⟩⟩ := hk1
  obtain rfl : cs1 = #[.string a1_0, .int .i64 a1_1, .slice A1_2 l1_2.length c1_2] := by
    cases cs1
    simp only [Value.cells, List.cons_append, List.nil_append] at e1_0 e1_1
    simp_all
  clear hA0 hval0 hsz0 hsz
  obtain ⟨k, hP⟩ := Pure.ZonetextDiffs a0_0 a0_1 l0_2 a1_0 a1_1 l1_2 w0_0 w0_1 w0_2 w1_0 w1_1 w1_2
  refine (PZonetextDiffs.ephemerislaw1_ZonetextDiffs.calls k a0_0 a0_1 _ _ l0_2 a1_0 a1_1 _ _ l1_2 true W hr0_2 hc0_2 hr1_2 hc1_2 hP).mono fun e W' ⟨he, bel0⟩ => ?_
  have bel : Below W.heap.size W W' := bel0
  subst he
  exact ⟨_, rfl, _, _, _, [], _, [], hW', trodAll_mk1 (shut_bool Tryd.underlying4 _), (trodAll_cons_mk (Below.trod laidOut (by kernel_rfl) (of_decide_eq_true (by kernel_rfl)) k0 bel lt0) (trodAll_cons_mk (Below.trod laidOut (by kernel_rfl) (of_decide_eq_true (by kernel_rfl)) k1 bel lt1) trodAll_mk0)), rfl, bel.frame _, fun h => by cases h⟩
theorem over : Rows.zonetextDiffsRow.holds Tryd.pinned (OpenSpec.ofChange Rows.zonetextDiffsSpec) :=
  OpenClaim.holds_of_wide 6 Tryd.f6 rfl rfl rfl rfl rfl rfl rfl ⟨rfl, rfl, rfl, rfl, rfl⟩ rfl rfl rfl rfl rfl (by kernel_rfl) Tryd.func6 (by kernel_rfl)
    (of_decide_eq_true (by kernel_rfl)) (by unfold Func.isWrapper; first | (rw [if_pos (by decide +kernel)]; kernel_rfl) | (rw [if_neg (by decide +kernel)]; exact ⟨rfl, rfl⟩))
    (fun os started H enc _ => lifted os started H enc)
theorem card_holds : Rows.ZonetextDiffsCardSaid :=
  Claim7.holds_tied_plain_at .later [] [.data, .pinned] true (true, "5fd0661532a3fe7e4aade94f91e9c8e175056ac86f69ab761ed09e5e5e424509") false
    over (fun _ h => by cases h) (by kernel_rfl) (fun _ h => by cases h) zonetextDiffs_row_tie rfl ⟨rfl, rfl⟩ (by kernel_rfl) rfl
    (fun f fn hf hfn => by
      obtain rfl : f = 6 := Option.some.inj ((show Tryd.prog.funcNamed Rows.zonetextDiffsRow.func = some 6 by kernel_rfl).symm.trans hf) |>.symm
      obtain rfl : fn = Tryd.f6 := (Option.some.inj (Tryd.func6.symm.trans hfn)).symm
      exact ⟨by kernel_rfl, fun j t ht => by
        rw [Tryd.params6] at ht
        have hm : t ∈ [24] := by simpa using Array.mem_of_getElem? ht
        have hall : ([24].all fun u => !Tryd.prog.wantsStandIn u) = true := by kernel_rfl
        exact (show Tryd.prog.wantsStandIn t = false by simpa using List.all_eq_true.1 hall t hm)⟩)
    (by kernel_rfl)
theorem proved : Rows.ZonetextDiffsCardSaid := card_holds
#print axioms proved
end Go.Proofs.YtolhlaadhfilnaaDoor.zonetextDiffs
namespace Go.Proofs.YtolhlaadhfilnaaDoor
/-- The row, under a short name, for the claim. -/
theorem zonetextDiffs_holds : Rows.ZonetextDiffsCardSaid := zonetextDiffs.proved
end Go.Proofs.YtolhlaadhfilnaaDoor
