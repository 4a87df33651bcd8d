/- The card of the law ForecastExtends: the row out of the law's pure statement and the contracts of the functions; the tables that the row lists are laid in the witness and not read. -/
import Derived.Lay
import Derived.Test.YtolhlaadhfilnaaDoorTie
import Derived.Test.YtolhlaadhfilnaaDoorCards
import Derived.LaidMore
import Derived.Stop.Joined
import Derived.SevenTiedAt
import Derived.Test.YtolhlaadhfilnaaDoorRows
import Derived.Test.YtolhlaadhfilnaaDoorPForecastExtendsx16
import Derived.Test.YtolhlaadhfilnaaDoorPureForecastExtends
import Derived.Test.YtolhlaadhfilnaaDoorO
import Derived.WalkKit
import Derived.ProofKit
import Derived.OpenShut
import Derived.ShutString
import Derived.ChangeOld
import Derived.Below
import Derived.SizedLaws
import Derived.Test.YtolhlaadhfilnaaDoorWSized
namespace Go.Proofs.YtolhlaadhfilnaaDoor.forecastExtends
open Go.ChangeShapes Go.WideShapes Go.ChangeAt Go.RowKit
open Go.Proofs.YtolhlaadhfilnaaDoor.PForecastExtends Go.Proofs.YtolhlaadhfilnaaDoorW.PrintWords Go.Proofs.YtolhlaadhfilnaaDoor.O
open Go.ChangeMaps (open_string shut_string)
set_option linter.unusedVariables false
set_option linter.unusedSimpArgs false
theorem own : ownKnob Tryd.prog.godebug = none := by kernel_rfl
theorem laidOut : laidOutB Tryd.prog = true := by kernel_rfl
def laidTable : List (String × DataW Unit) := [("unicode/utf8.acceptRanges", Rows.laid_unicode_utf8_acceptRanges), ("unicode/utf8.first", Rows.laid_unicode_utf8_first)]
set_option maxRecDepth 100000 in
theorem lifted (os : Os) (started : os.Started) (H : Type) (enc : TypeId × Value → H) :
    ReturnsInHanded {} Tryd.checked os 4 .any (fun w args => (Rows.forecastExtendsSpec.pre enc Tryd.prog Tryd.f4 [] false w args ∧ laidMetH Tryd.prog laidTable w) ∧ sizedMet enc Tryd.prog Tryd.f4 (OpenSpec.ofChange Rows.forecastExtendsSpec) false w args) (Rows.forecastExtendsSpec.post enc Tryd.prog Tryd.f4 false true false false) := by
  refine returnsInHanded_of_change_and (C := Tryd.checked) (X := (fun w _ => laidMetH Tryd.prog laidTable w)) (fun _ _ _ hh h => h.of_heap hh) own started (by kernel_rfl) Tryd.func4
    (ChangeSpec.witness_shaped (enc := enc) (C := Tryd.checked) (os := os) (X := (fun w _ => laidMetH Tryd.prog laidTable w)) false (World.laidAll Tryd.prog os laidTable) #[.agg #[.string ByteArray.empty, .int .i64 0, .slice none 0 0], .slice none 0 0, .int .i64 0, .int .i64 0] 8 (World.laidAll_os _ _ _) (World.shaped_of_ZipB (by kernel_rfl) (by kernel_rfl)) (by kernel_rfl) (by kernel_rfl) (by kernel_rfl) (by rw [MakeChecks.laidMetH_plain _ _ _ (by kernel_rfl)]; exact laidMet_laidAll _ (by kernel_rfl) (by kernel_rfl))) ?_
  intro W base args ds gs before hval0 hW hcnd hsz0 hL _
  have hsz : (DataW.weightsEach Tryd.prog (Tryd.f4.params.toList ++ Rows.forecastExtendsSpec.plain.varTypes Tryd.prog) (ds ++ gs)).all (· ≤ reachBytes) = true := hsz0
  have hval : ∀ (j : Nat) t v, Tryd.f4.params[j]? = some t → args[j]? = some v → Value.okWide Tryd.prog W .any base t v := hval0
  have hW' := hW
  obtain ⟨p, q, hA0, hV, rfl, hfz, hnd⟩ := hW
  have hA : DataW.TrodAll enc Tryd.prog W 0 (fun _ => true) true Tryd.f4.params.toList args.toList ds p := hA0
  rw [Tryd.params4] at hA hval hsz
  obtain ⟨v0, vs0, d0, ds0, p0, q0, hargs, rfl, rfl, h0, r0⟩ := trodAll_cons hA
  obtain ⟨v1, vs1, d1, ds1, p1, q1, rfl, rfl, rfl, h1, r1⟩ := trodAll_cons r0
  obtain ⟨v2, vs2, d2, ds2, p2, q2, rfl, rfl, rfl, h2, r2⟩ := trodAll_cons r1
  obtain ⟨v3, vs3, d3, ds3, p3, q3, rfl, rfl, rfl, h3, r3⟩ := trodAll_cons r2
  obtain ⟨rfl, rfl, rfl⟩ := trodAll_nil r3
  obtain rfl : args = #[v0, v1, v2, v3] := by cases args; simp_all
  obtain ⟨rfl, rfl⟩ := trodVars_none hV
  have k0 := h0
  have lt0 := trod_lt_of k0
  obtain ⟨cs0, rfl, hcs0⟩ := okWide_struct Tryd.underlying24 (hval 0 24 v0 rfl rfl)
  obtain ⟨⟨a0_0, a0_1, l0_2⟩, hk0, ⟨w0_0, w0_1, w0_2⟩⟩ := open_arg (fun N => ((Opens.structP (OpensF.cons (Opens.string Tryd.underlying9 (by kernel_rfl)) (OpensF.cons (Opens.int Tryd.underlying3 (by kernel_rfl)) (OpensF.one (Opens.slice (B := 32) ((Opens.struct (fun x : S43 => (x.f0, x.f1, x.f2)) (fun p => ⟨p.1, p.2.1, p.2.2⟩) (OpensF.cons (Opens.int Tryd.underlying3 (by kernel_rfl)) (OpensF.cons (Opens.int Tryd.underlying3 (by kernel_rfl)) (OpensF.one (Opens.string Tryd.underlying9 (by kernel_rfl)) rfl) rfl rfl) rfl rfl) Tryd.underlying43 (by kernel_rfl) (fun _ => rfl)).less (Nat.le_succ _)) Tryd.underlying22 (by kernel_rfl) (by kernel_rfl)) rfl) rfl rfl) rfl rfl) Tryd.underlying24 (by kernel_rfl)).less (Nat.le_succ _))) hsz (j := 0) (t := 24) rfl rfl h0
  obtain ⟨_, _, e0_0, rfl, ⟨_, _, e0_1, rfl, ⟨A0_2, c0_2, rfl, hc0_2, hr0_2⟩⟩⟩ := hk0
  obtain rfl : cs0 = #[.string a0_0, .int .i64 a0_1, .slice A0_2 l0_2.length c0_2] := by
    cases cs0
    simp only [Value.cells, List.cons_append, List.nil_append] at e0_0 e0_1
    simp_all
  have k1 := h1
  have lt1 := trod_lt_of k1
  obtain ⟨aa1, len1, cap1, rfl⟩ := okWide_slice Tryd.underlying38 (hval 1 38 v1 rfl rfl)
  obtain ⟨l1, ⟨A1, c1, e1, hc1, hr1⟩, w1⟩ := open_arg (fun N => (Opens.slice (B := 56) ((Opens.struct (fun x : S92 => (x.f0, x.f1, x.f2, x.f3, x.f4, x.f5)) (fun p => ⟨p.1, p.2.1, p.2.2.1, p.2.2.2.1, p.2.2.2.2.1, p.2.2.2.2.2⟩) (OpensF.cons (Opens.int Tryd.underlying3 (by kernel_rfl)) (OpensF.cons (Opens.int Tryd.underlying3 (by kernel_rfl)) (OpensF.cons (Opens.int Tryd.underlying3 (by kernel_rfl)) (OpensF.cons (Opens.int Tryd.underlying3 (by kernel_rfl)) (OpensF.cons (Opens.int Tryd.underlying3 (by kernel_rfl)) (OpensF.one (Opens.string Tryd.underlying9 (by kernel_rfl)) rfl) rfl rfl) rfl rfl) rfl rfl) rfl rfl) rfl rfl) Tryd.underlying92 (by kernel_rfl) (fun _ => rfl)).less (Nat.le_succ _)) Tryd.underlying38 (by kernel_rfl) (by kernel_rfl))) hsz (j := 1) (t := 38) rfl rfl h1
  simp only [Value.cells, List.cons.injEq, Value.slice.injEq, and_true] at e1
  obtain ⟨rfl, rfl, rfl⟩ := e1
  obtain ⟨a2, rfl, rfl, rfl, w2⟩ := open_int Tryd.underlying3 (hval 2 3 v2 rfl rfl) h2
  obtain ⟨a3, rfl, rfl, rfl, w3⟩ := open_int Tryd.underlying3 (hval 3 3 v3 rfl rfl) h3
  clear hA0 hval0 hsz0 hsz
  obtain ⟨k, hP⟩ := Pure.ForecastExtends a0_0 a0_1 l0_2 l1 a2 a3 w0_0 w0_1 w0_2 w1 w2 w3
  refine (PForecastExtends.ephemerislaw1_ForecastExtends.calls k a0_0 a0_1 _ _ l0_2 _ _ l1 a2 a3 true W hr0_2 hc0_2 hr1 hc1 hP).mono fun e W' ⟨he, bel0⟩ => ?_
  have bel : Below W.heap.size W W' := bel0
  subst he
  exact ⟨_, rfl, _, _, _, [], _, [], hW', trodAll_mk1 (shut_bool Tryd.underlying4 _), (trodAll_cons_mk (Below.trod laidOut (by kernel_rfl) (of_decide_eq_true (by kernel_rfl)) k0 bel lt0) (trodAll_cons_mk (Below.trod laidOut (by kernel_rfl) (of_decide_eq_true (by kernel_rfl)) k1 bel lt1) (trodAll_cons_mk (shut_int Tryd.underlying3 w2) (trodAll_cons_mk (shut_int Tryd.underlying3 w3) trodAll_mk0)))), rfl, bel.frame _, fun h => by cases h⟩
theorem over : Rows.forecastExtendsRow.holds Tryd.pinned (OpenSpec.ofChange Rows.forecastExtendsSpec) :=
  OpenClaim.holds_of_wide 4 Tryd.f4 rfl rfl rfl rfl rfl rfl rfl ⟨rfl, rfl, rfl, rfl, rfl⟩ rfl rfl rfl rfl rfl (by kernel_rfl) Tryd.func4 (by kernel_rfl)
    (of_decide_eq_true (by kernel_rfl)) (by unfold Func.isWrapper; first | (rw [if_pos (by decide +kernel)]; kernel_rfl) | (rw [if_neg (by decide +kernel)]; exact ⟨rfl, rfl⟩))
    (fun os started H enc _ => lifted os started H enc)
theorem card_holds : Rows.ForecastExtendsCardSaid :=
  Claim7.holds_tied_plain_at .later [] [.data, .pinned] true (true, "5fd0661532a3fe7e4aade94f91e9c8e175056ac86f69ab761ed09e5e5e424509") false
    over (fun _ h => by cases h) (by kernel_rfl) (fun _ h => by cases h) forecastExtends_row_tie rfl ⟨rfl, rfl⟩ (by kernel_rfl) rfl
    (fun f fn hf hfn => by
      obtain rfl : f = 4 := Option.some.inj ((show Tryd.prog.funcNamed Rows.forecastExtendsRow.func = some 4 by kernel_rfl).symm.trans hf) |>.symm
      obtain rfl : fn = Tryd.f4 := (Option.some.inj (Tryd.func4.symm.trans hfn)).symm
      exact ⟨by kernel_rfl, fun j t ht => by
        rw [Tryd.params4] at ht
        have hm : t ∈ [24, 38, 3] := by simpa using Array.mem_of_getElem? ht
        have hall : ([24, 38, 3].all fun u => !Tryd.prog.wantsStandIn u) = true := by kernel_rfl
        exact (show Tryd.prog.wantsStandIn t = false by simpa using List.all_eq_true.1 hall t hm)⟩)
    (by kernel_rfl)
theorem proved : Rows.ForecastExtendsCardSaid := card_holds
#print axioms proved
end Go.Proofs.YtolhlaadhfilnaaDoor.forecastExtends
namespace Go.Proofs.YtolhlaadhfilnaaDoor
/-- The row, under a short name, for the claim. -/
theorem forecastExtends_holds : Rows.ForecastExtendsCardSaid := forecastExtends.proved
end Go.Proofs.YtolhlaadhfilnaaDoor
