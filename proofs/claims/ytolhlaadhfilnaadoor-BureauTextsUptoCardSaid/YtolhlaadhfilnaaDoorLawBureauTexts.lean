/- The second form's card of the law BureauTexts: where the input's bulk is at most 1048576; the row out of the law's pure statement and the contracts of the functions; the tables that the row lists are laid in the witness and not read. -/
import Derived.Lib.LaidTab
import Derived.Stop.LaidErr
import Derived.Lay
import Derived.Test.YtolhlaadhfilnaaDoorTie
import Derived.Test.YtolhlaadhfilnaaDoorCards
import Derived.Deep.DeepHandedRow
import Derived.JoinedCond
import Derived.LaidLaws
import Derived.Test.YtolhlaadhfilnaaDoorU
import Derived.Test.YtolhlaadhfilnaaDoorVBureauTexts
import Derived.LaidMore
import Derived.Stop.Joined
import Derived.SevenTiedAt
import Derived.Test.YtolhlaadhfilnaaDoorRows
import Derived.Test.YtolhlaadhfilnaaDoorPBureauTextsx5
import Derived.Test.YtolhlaadhfilnaaDoorPureBureauTexts
import Derived.Test.YtolhlaadhfilnaaDoorO
import Derived.WalkKit
import Derived.ProofKit
import Derived.OpenShut
import Derived.ShutString
import Derived.ChangeOld
import Derived.Below
import Derived.SizedLaws
import Derived.Test.YtolhlaadhfilnaaDoorWSized
namespace Go.Proofs.YtolhlaadhfilnaaDoor.bureauTexts
open Go.ChangeShapes Go.WideShapes Go.ChangeAt Go.RowKit
open Go.Proofs.YtolhlaadhfilnaaDoor.PBureauTexts Go.Proofs.YtolhlaadhfilnaaDoorW.PrintWords Go.Proofs.YtolhlaadhfilnaaDoor.O
open Go.ChangeMaps (open_string shut_string)
set_option linter.unusedVariables false
set_option linter.unusedSimpArgs false
theorem own : ownKnob Tryd.prog.godebug = none := by kernel_rfl
theorem laidOut : laidOutB Tryd.prog = true := by kernel_rfl
def laidTable : List (String × DataW Unit) := [("math/bits.deBruijn32tab", Rows.laid_math_bits_deBruijn32tab), ("math/bits.deBruijn64tab", Rows.laid_math_bits_deBruijn64tab), ("internal/strconv.uint64pow10", Rows.laid_internal_strconv_uint64pow10), ("unicode/utf8.acceptRanges", Rows.laid_unicode_utf8_acceptRanges), ("unicode/utf8.first", Rows.laid_unicode_utf8_first)]
set_option maxRecDepth 100000 in
theorem lifted (os : Os) (started : os.Started) (H : Type) (enc : TypeId × Value → H) (F : Stop.Interp) :
    ReturnsInHanded {} Tryd.checked os 5 .any ((Rows.OpenSpec.upto Rows.bureauTextsSpec).preRow enc Tryd.prog Tryd.f5 Rows.bureauTextsUptoRow.domain false Rows.bureauTextsUptoRow.laid) (((Rows.OpenSpec.upto Rows.bureauTextsSpec).at F).post enc Tryd.prog Tryd.f5 false true false false) := by
  have hok : Input.okWideB Tryd.prog ((World.laidAll Tryd.prog os laidTable).forCall (fun _ _ => 0) ⟨#[], #[.agg #[.string ByteArray.empty, .int .i64 0, .slice none 0 0], .int .i64 0], []⟩) 5 ⟨#[], #[.agg #[.string ByteArray.empty, .int .i64 0, .slice none 0 0], .int .i64 0], []⟩ = true := by kernel_rfl
  refine returnsInHanded_of_row (C := Tryd.checked) (s := (Rows.OpenSpec.upto Rows.bureauTextsSpec)) own started (by kernel_rfl) Tryd.func5
    ⟨(World.laidAll Tryd.prog os laidTable), fun _ _ => 0, ⟨#[], #[.agg #[.string ByteArray.empty, .int .i64 0, .slice none 0 0], .int .i64 0], []⟩, World.laidAll_os _ _ _, World.shaped_of_ZipB (by kernel_rfl) (by kernel_rfl), (Input.okWide_of_okWideB (base := 0) hok).1, (Input.okWide_of_okWideB hok).2, ⟨⟨(OpenSpec.pre_some (k := Rows.uptoSmall) rfl _ _ _ _).2 ⟨_, _, _, DataW.Whole_of_whole (fuel := 8) (x := ([.agg [.lit (.string []), .lit (.int .i64 0), .nil], .lit (.int .i64 0)], [], [])) (by kernel_rfl), rfl, by kernel_rfl⟩, (by rw [MakeChecks.laidMetH_plain _ _ _ (by kernel_rfl)]; exact laidMet_laidAll _ (by kernel_rfl) (by kernel_rfl))⟩, sizedMet_of_sizedB (s := Rows.bureauTextsSpec) (fuel := 8) (by kernel_rfl)⟩, by
      simp only [Assume.holds]
      exact ⟨by simp, by simp, fun _ => Modest.zero, by simp, by simp⟩⟩ ?_
  intro W base args ds gs before hval0 hW hcnd hk0 hsz0 hL _ _
  have hbulk : Rows.uptoBulkAll (ds ++ gs) ≤ 1048576 := of_decide_eq_true (hk0 _ rfl)
  have hT : PBureauTexts.strconv_Itoa.Tab W := by
    have h0 : laidMet Tryd.prog laidTable W := by
      have h1 := hL
      rw [MakeChecks.laidMetH_plain _ _ _ (by kernel_rfl)] at h1
      exact h1
    have h3 : laidMet Tryd.prog (("internal/strconv.uint64pow10", Go.Lib.tabData .u64 Go.Lib.pow10Tab) :: [("unicode/utf8.acceptRanges", Rows.laid_unicode_utf8_acceptRanges), ("unicode/utf8.first", Rows.laid_unicode_utf8_first)]) W := (laidMet.tail (laidMet.tail h0))
    exact Go.Lib.tabIs_of_head (g := 9) (t := 188) (e := 171) (n := 20) (by kernel_rfl) (by kernel_rfl) Tryd.underlying188 Tryd.underlying171 (by kernel_rfl) (by kernel_rfl) h3
  have hsz : (DataW.weightsEach Tryd.prog (Tryd.f5.params.toList ++ Rows.bureauTextsSpec.plain.varTypes Tryd.prog) (ds ++ gs)).all (· ≤ reachBytes) = true := hsz0
  have hval : ∀ (j : Nat) t v, Tryd.f5.params[j]? = some t → args[j]? = some v → Value.okWide Tryd.prog W .any base t v := hval0
  have hW' := hW
  obtain ⟨p, q, hA0, hV, rfl, hfz, hnd⟩ := hW
  have hA : DataW.TrodAll enc Tryd.prog W 0 (fun _ => true) true Tryd.f5.params.toList args.toList ds p := hA0
  rw [Tryd.params5] at hA hval hsz
  obtain ⟨v0, vs0, d0, ds0, p0, q0, hargs, rfl, rfl, h0, r0⟩ := trodAll_cons hA
  obtain ⟨v1, vs1, d1, ds1, p1, q1, rfl, rfl, rfl, h1, r1⟩ := trodAll_cons r0
  obtain ⟨rfl, rfl, rfl⟩ := trodAll_nil r1
  obtain rfl : args = #[v0, v1] := by cases args; simp_all
  obtain ⟨rfl, rfl⟩ := trodVars_none hV
  have k0 := h0
  have z0 := h0
  have lt0 := trod_lt_of k0
  obtain ⟨cs0, rfl, hcs0⟩ := okWide_struct Tryd.underlying24 (hval 0 24 v0 rfl rfl)
  obtain ⟨⟨a0_0, a0_1, l0_2⟩, hk0, ⟨w0_0, w0_1, w0_2⟩⟩ := open_arg (fun N => ((Opens.structP (OpensF.cons (Opens.string Tryd.underlying9 (by kernel_rfl)) (OpensF.cons (Opens.int Tryd.underlying3 (by kernel_rfl)) (OpensF.one (Opens.slice (B := 32) ((Opens.struct (fun x : S43 => (x.f0, x.f1, x.f2)) (fun p => ⟨p.1, p.2.1, p.2.2⟩) (OpensF.cons (Opens.int Tryd.underlying3 (by kernel_rfl)) (OpensF.cons (Opens.int Tryd.underlying3 (by kernel_rfl)) (OpensF.one (Opens.string Tryd.underlying9 (by kernel_rfl)) rfl) rfl rfl) rfl rfl) Tryd.underlying43 (by kernel_rfl) (fun _ => rfl)).less (Nat.le_succ _)) Tryd.underlying22 (by kernel_rfl) (by kernel_rfl)) rfl) rfl rfl) rfl rfl) Tryd.underlying24 (by kernel_rfl)).less (Nat.le_succ _))) hsz (j := 0) (t := 24) rfl rfl h0
  obtain ⟨_, _, e0_0, rfl, ⟨_, _, e0_1, rfl, ⟨A0_2, c0_2, rfl, hc0_2, hr0_2⟩⟩⟩ := hk0
  obtain rfl : cs0 = #[.string a0_0, .int .i64 a0_1, .slice A0_2 l0_2.length c0_2] := by
    cases cs0
    simp only [Value.cells, List.cons_append, List.nil_append] at e0_0 e0_1
    simp_all
  obtain ⟨a1, rfl, rfl, rfl, w1⟩ := open_int Tryd.underlying3 (hval 1 3 v1 rfl rfl) h1
  clear hA0 hval0 hsz0 hsz
  obtain ⟨fu0, hf0⟩ := z0
  obtain ⟨ys0, m0, hb0, hlen0, hF0⟩ := U.field_le Tryd.underlying24 hf0
  have b0_0 := by
    have h2 := hF0 0 _ rfl
    have hlt : 0 < ys0.length := by rw [hlen0]; decide
    rw [List.getElem?_eq_getElem hlt] at h2
    exact Nat.le_trans (VBureauTexts.str_le Tryd.underlying9 (s := a0_0) h2) (U.part_le (List.mem_map_of_mem (f := fun y : DataW H × List MemPlace => y.1) (List.getElem_mem hlt)))
  have b0_2 := by
    have h2 := hF0 2 _ rfl
    have hlt : 2 < ys0.length := by rw [hlen0]; decide
    rw [List.getElem?_eq_getElem hlt] at h2
    exact Nat.le_trans (VBureauTexts.labels_le (A := A0_2) (c := c0_2) hr0_2 h2) (U.part_le (List.mem_map_of_mem (f := fun y : DataW H × List MemPlace => y.1) (List.getElem_mem hlt)))
  simp only [List.cons_append, List.nil_append, List.append_nil, Rows.uptoBulkAll] at hbulk
  simp only at hb0
  try simp only at b0_0
  try simp only at b0_2
  obtain ⟨k, hP⟩ := Pure.BureauTexts a0_0 a0_1 l0_2 a1 w0_0 w0_1 w0_2 w1 (by omega) (by omega)
  refine (PBureauTexts.ephemerislaw1_BureauTexts.calls k a0_0 a0_1 _ _ l0_2 a1 true W hr0_2 hc0_2 hT hP).mono fun e W' ⟨he, bel0⟩ => ?_
  have bel : Below W.heap.size W W' := bel0
  subst he
  exact ⟨_, rfl, _, _, _, [], _, [], hW', trodAll_mk1 (shut_bool Tryd.underlying4 _), (trodAll_cons_mk (Below.trod laidOut (by kernel_rfl) (of_decide_eq_true (by kernel_rfl)) k0 bel lt0) (trodAll_cons_mk (shut_int Tryd.underlying3 w1) trodAll_mk0)), rfl, bel.frame _, fun h => by cases h⟩
theorem over : Rows.bureauTextsUptoRow.holds Tryd.pinned (Rows.OpenSpec.upto Rows.bureauTextsSpec) :=
  OpenClaim.holds_of_cond 5 Tryd.f5 rfl rfl rfl rfl rfl rfl rfl ⟨rfl, rfl, rfl, rfl, rfl⟩ rfl rfl rfl rfl rfl (by kernel_rfl) Tryd.func5 (by kernel_rfl)
    (of_decide_eq_true (by kernel_rfl)) (by unfold Func.isWrapper; first | (rw [if_pos (by decide +kernel)]; kernel_rfl) | (rw [if_neg (by decide +kernel)]; exact ⟨rfl, rfl⟩))
    (fun os started H enc _ F => by rw [OpenClaim.pre_eq_preRow]; exact lifted os started H enc F)
theorem card_holds : Rows.BureauTextsUptoCardSaid :=
  Claim7.holds_tied_plain_at .later [] [.data, .data, .data, .data, .pinned] true (true, "5fd0661532a3fe7e4aade94f91e9c8e175056ac86f69ab761ed09e5e5e424509") false
    over (fun _ h => by cases h) (by kernel_rfl) (fun _ h => by cases h) bureauTextsUpto_row_tie rfl ⟨rfl, rfl⟩ (by kernel_rfl) rfl
    (fun f fn hf hfn => by
      obtain rfl : f = 5 := Option.some.inj ((show Tryd.prog.funcNamed Rows.bureauTextsUptoRow.func = some 5 by kernel_rfl).symm.trans hf) |>.symm
      obtain rfl : fn = Tryd.f5 := (Option.some.inj (Tryd.func5.symm.trans hfn)).symm
      exact ⟨by kernel_rfl, fun j t ht => by
        rw [Tryd.params5] at ht
        have hm : t ∈ [24, 3] := by simpa using Array.mem_of_getElem? ht
        have hall : ([24, 3].all fun u => !Tryd.prog.wantsStandIn u) = true := by kernel_rfl
        exact (show Tryd.prog.wantsStandIn t = false by simpa using List.all_eq_true.1 hall t hm)⟩)
    (by kernel_rfl)
theorem proved : Rows.BureauTextsUptoCardSaid := card_holds
#print axioms proved
end Go.Proofs.YtolhlaadhfilnaaDoor.bureauTexts
namespace Go.Proofs.YtolhlaadhfilnaaDoor
/-- The row, under a short name, for the claim. -/
theorem bureauTextsUpto_holds : Rows.BureauTextsUptoCardSaid := bureauTexts.proved
end Go.Proofs.YtolhlaadhfilnaaDoor
