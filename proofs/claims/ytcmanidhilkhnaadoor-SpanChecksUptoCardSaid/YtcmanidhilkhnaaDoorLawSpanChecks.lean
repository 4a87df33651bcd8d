/- The second form's card of the law SpanChecks: where the input's bulk is at most 1048576; the row out of the law's pure statement and the contracts of the functions; the tables that the row lists are laid in the witness and not read. -/
import Derived.Lib.LaidTab
import Derived.Stop.LaidErr
import Derived.Lay
import Derived.Test.YtcmanidhilkhnaaDoorTie
import Derived.Test.YtcmanidhilkhnaaDoorCards
import Derived.Deep.DeepHandedRow
import Derived.JoinedCond
import Derived.LaidLaws
import Derived.Test.YtcmanidhilkhnaaDoorU
import Derived.Test.YtcmanidhilkhnaaDoorVSpanChecks
import Derived.LaidMore
import Derived.Stop.Joined
import Derived.SevenTiedAt
import Derived.Test.YtcmanidhilkhnaaDoorRows
import Derived.Test.YtcmanidhilkhnaaDoorPSpanChecksx7
import Derived.Test.YtcmanidhilkhnaaDoorPureSpanChecks
import Derived.Test.YtcmanidhilkhnaaDoorO
import Derived.WalkKit
import Derived.ProofKit
import Derived.OpenShut
import Derived.ShutString
import Derived.ChangeOld
import Derived.Below
import Derived.SizedLaws
import Derived.Test.YtcmanidhilkhnaaDoorWSized
namespace Go.Proofs.YtcmanidhilkhnaaDoor.spanChecks
open Go.ChangeShapes Go.WideShapes Go.ChangeAt Go.RowKit
open Go.Proofs.YtcmanidhilkhnaaDoor.PSpanChecks Go.Proofs.YtcmanidhilkhnaaDoorW.PrintWords Go.Proofs.YtcmanidhilkhnaaDoor.O
open Go.ChangeMaps (open_string shut_string)
set_option linter.unusedVariables false
set_option linter.unusedSimpArgs false
theorem own : ownKnob Tryd.prog.godebug = none := by kernel_rfl
theorem laidOut : laidOutB Tryd.prog = true := by kernel_rfl
def laidTable : List (String × DataW Unit) := [("math/bits.deBruijn32tab", Rows.laid_math_bits_deBruijn32tab), ("math/bits.deBruijn64tab", Rows.laid_math_bits_deBruijn64tab), ("internal/strconv.uint64pow10", Rows.laid_internal_strconv_uint64pow10), ("unicode/utf8.acceptRanges", Rows.laid_unicode_utf8_acceptRanges), ("strconv.ErrRange", Rows.laid_strconv_ErrRange), ("strconv.ErrSyntax", Rows.laid_strconv_ErrSyntax), ("unicode/utf8.first", Rows.laid_unicode_utf8_first)]
set_option maxRecDepth 100000 in
theorem lifted (os : Os) (started : os.Started) (H : Type) (enc : TypeId × Value → H) (F : Stop.Interp) :
    ReturnsInHanded {} Tryd.checked os 7 .any ((Rows.OpenSpec.upto Rows.spanChecksSpec).preRow enc Tryd.prog Tryd.f7 Rows.spanChecksUptoRow.domain false Rows.spanChecksUptoRow.laid) (((Rows.OpenSpec.upto Rows.spanChecksSpec).at F).post enc Tryd.prog Tryd.f7 false true false false) := by
  have hok : Input.okWideB Tryd.prog ((World.laidAll Tryd.prog os laidTable).forCall (fun _ _ => 0) ⟨#[], #[.agg #[.int .i64 0, .int .i64 0, .int .i64 0, .int .i64 0], .string ByteArray.empty], []⟩) 7 ⟨#[], #[.agg #[.int .i64 0, .int .i64 0, .int .i64 0, .int .i64 0], .string ByteArray.empty], []⟩ = true := by kernel_rfl
  refine returnsInHanded_of_row (C := Tryd.checked) (s := (Rows.OpenSpec.upto Rows.spanChecksSpec)) own started (by kernel_rfl) Tryd.func7
    ⟨(World.laidAll Tryd.prog os laidTable), fun _ _ => 0, ⟨#[], #[.agg #[.int .i64 0, .int .i64 0, .int .i64 0, .int .i64 0], .string ByteArray.empty], []⟩, World.laidAll_os _ _ _, World.shaped_of_ZipB (by kernel_rfl) (by kernel_rfl), (Input.okWide_of_okWideB (base := 0) hok).1, (Input.okWide_of_okWideB hok).2, ⟨⟨(OpenSpec.pre_some (k := Rows.uptoSmall) rfl _ _ _ _).2 ⟨_, _, _, DataW.Whole_of_whole (fuel := 8) (x := ([.agg [.lit (.int .i64 0), .lit (.int .i64 0), .lit (.int .i64 0), .lit (.int .i64 0)], .lit (.string [])], [], [])) (by kernel_rfl), rfl, by kernel_rfl⟩, (by rw [MakeChecks.laidMetH_plain _ _ _ (by kernel_rfl)]; exact laidMet_laidAll _ (by kernel_rfl) (by kernel_rfl))⟩, sizedMet_of_sizedB (s := Rows.spanChecksSpec) (fuel := 8) (by kernel_rfl)⟩, by
      simp only [Assume.holds]
      exact ⟨by simp, by simp, fun _ => Modest.zero, by simp, by simp⟩⟩ ?_
  intro W base args ds gs before hval0 hW hcnd hk0 hsz0 hL hsh _
  have hbulk : Rows.uptoBulkAll (ds ++ gs) ≤ 1048576 := of_decide_eq_true (hk0 _ rfl)
  have hM : PSpanChecks.strings_Split.Tab W := cell_of_shapedOpen_int (g := 9) (t := 3) (zero := #[.int .i64 0]) hsh (of_decide_eq_true (by kernel_rfl)) (by kernel_rfl) rfl (by kernel_rfl) (by kernel_rfl) Tryd.underlying3
  have hT : PSpanChecks.strconv_Itoa.Tab W := by
    have h0 : laidMet Tryd.prog laidTable W := by
      have h1 := hL
      rw [MakeChecks.laidMetH_plain _ _ _ (by kernel_rfl)] at h1
      exact h1
    have h3 : laidMet Tryd.prog (("internal/strconv.uint64pow10", Go.Lib.tabData .u64 Go.Lib.pow10Tab) :: [("unicode/utf8.acceptRanges", Rows.laid_unicode_utf8_acceptRanges), ("strconv.ErrRange", Rows.laid_strconv_ErrRange), ("strconv.ErrSyntax", Rows.laid_strconv_ErrSyntax), ("unicode/utf8.first", Rows.laid_unicode_utf8_first)]) W := (laidMet.tail (laidMet.tail h0))
    exact Go.Lib.tabIs_of_head (g := 12) (t := 226) (e := 192) (n := 20) (by kernel_rfl) (by kernel_rfl) Tryd.underlying226 Tryd.underlying192 (by kernel_rfl) (by kernel_rfl) h3
  have hE : PSpanChecks.strconv_Atoi.Laid W := by
    have h0 : laidMet Tryd.prog laidTable W := by
      have h1 := hL
      rw [MakeChecks.laidMetH_plain _ _ _ (by kernel_rfl)] at h1
      exact h1
    have hst : "*" ++ "errors.errorString" = "*errors.errorString" := by decide
    have hrow : ∀ u, Tryd.prog.typeName? 3 u = some "*errors.errorString" → u = 230 := fun u h => typeName_ptr_named (nm := "errors.errorString") (by rw [hst]; kernel_rfl) (by kernel_rfl) (by decide) u (by rw [hst]; exact h)
    have hs : laidMet Tryd.prog (("strconv.ErrSyntax", Rows.laid_strconv_ErrSyntax) :: [("unicode/utf8.first", Rows.laid_unicode_utf8_first)]) W := (laidMet.tail (laidMet.tail (laidMet.tail (laidMet.tail (laidMet.tail h0)))))
    obtain ⟨ahs, shs, vhs, _⟩ := laid_sentinel (g := 10) (ti := 125) (tp := 230) (te := 232) (ts := 9) hs (by kernel_rfl) (by kernel_rfl) Tryd.underlying125 hrow Tryd.underlying230 Tryd.underlying232 rfl rfl Tryd.underlying9 (by kernel_rfl) (by kernel_rfl)
    have hr : laidMet Tryd.prog (("strconv.ErrRange", Rows.laid_strconv_ErrRange) :: [("strconv.ErrSyntax", Rows.laid_strconv_ErrSyntax), ("unicode/utf8.first", Rows.laid_unicode_utf8_first)]) W := (laidMet.tail (laidMet.tail (laidMet.tail (laidMet.tail h0))))
    obtain ⟨ahr, shr, vhr, _⟩ := laid_sentinel (g := 11) (ti := 125) (tp := 230) (te := 232) (ts := 9) hr (by kernel_rfl) (by kernel_rfl) Tryd.underlying125 hrow Tryd.underlying230 Tryd.underlying232 rfl rfl Tryd.underlying9 (by kernel_rfl) (by kernel_rfl)
    exact ⟨⟨_, _, vhs⟩, ⟨_, _, vhr⟩⟩
  have hsz : (DataW.weightsEach Tryd.prog (Tryd.f7.params.toList ++ Rows.spanChecksSpec.plain.varTypes Tryd.prog) (ds ++ gs)).all (· ≤ reachBytes) = true := hsz0
  have hval : ∀ (j : Nat) t v, Tryd.f7.params[j]? = some t → args[j]? = some v → Value.okWide Tryd.prog W .any base t v := hval0
  have hW' := hW
  obtain ⟨p, q, hA0, hV, rfl, hfz, hnd⟩ := hW
  have hA : DataW.TrodAll enc Tryd.prog W 0 (fun _ => true) true Tryd.f7.params.toList args.toList ds p := hA0
  rw [Tryd.params7] at hA hval hsz
  obtain ⟨v0, vs0, d0, ds0, p0, q0, hargs, rfl, rfl, h0, r0⟩ := trodAll_cons hA
  obtain ⟨v1, vs1, d1, ds1, p1, q1, rfl, rfl, rfl, h1, r1⟩ := trodAll_cons r0
  obtain ⟨rfl, rfl, rfl⟩ := trodAll_nil r1
  obtain rfl : args = #[v0, v1] := by cases args; simp_all
  obtain ⟨rfl, rfl⟩ := trodVars_none hV
  have k0 := h0
  have z0 := h0
  have lt0 := trod_lt_of k0
  obtain ⟨cs0, rfl, hcs0⟩ := okWide_struct Tryd.underlying48 (hval 0 48 v0 rfl rfl)
  obtain ⟨⟨a0_0, a0_1, a0_2, a0_3⟩, hk0, ⟨w0_0, w0_1, w0_2, w0_3⟩⟩ := open_arg (fun N => ((Opens.structP (OpensF.cons (Opens.int Tryd.underlying3 (by kernel_rfl)) (OpensF.cons (Opens.int Tryd.underlying3 (by kernel_rfl)) (OpensF.cons (Opens.int Tryd.underlying3 (by kernel_rfl)) (OpensF.one (Opens.int Tryd.underlying3 (by kernel_rfl)) rfl) rfl rfl) rfl rfl) rfl rfl) Tryd.underlying48 (by kernel_rfl)).less (Nat.le_succ _))) hsz (j := 0) (t := 48) rfl rfl h0
  obtain ⟨_, _, e0_0, rfl, ⟨_, _, e0_1, rfl, ⟨_, _, e0_2, rfl, rfl⟩⟩⟩ := hk0
  obtain rfl : cs0 = #[.int .i64 a0_0, .int .i64 a0_1, .int .i64 a0_2, .int .i64 a0_3] := by
    cases cs0
    simp only [Value.cells, List.cons_append, List.nil_append] at e0_0 e0_1 e0_2
    simp_all
  have z1 := h1
  obtain ⟨a1, rfl, rfl, rfl, y1⟩ := open_string Tryd.underlying9 (hval 1 9 v1 rfl rfl) h1
  have w1 : a1.size ≤ 140737488351232 := by
    have z := sized_string hsz (j := 1) (t := 9) rfl rfl
    rw [Array.length_toList] at z
    exact z
  clear hA0 hval0 hsz0 hsz
  obtain ⟨fu1, hf1⟩ := z1
  have b1 := VSpanChecks.str_le Tryd.underlying9 (s := a1) hf1
  simp only [List.cons_append, List.nil_append, List.append_nil, Rows.uptoBulkAll] at hbulk
  try simp only at b1
  obtain ⟨k, hP⟩ := Pure.SpanChecks a0_0 a0_1 a0_2 a0_3 a1 w0_0 w0_1 w0_2 w0_3 w1 (by omega)
  refine (PSpanChecks.ephemerislaw1_SpanChecks.calls k a0_0 a0_1 a0_2 a0_3 a1 true W hT hE hM hP).mono fun e W' ⟨he, bel0⟩ => ?_
  have bel : Below W.heap.size W W' := bel0
  subst he
  exact ⟨_, rfl, _, _, _, [], _, [], hW', trodAll_mk1 (shut_bool Tryd.underlying4 _), (trodAll_cons_mk (Below.trod laidOut (by kernel_rfl) (of_decide_eq_true (by kernel_rfl)) k0 bel lt0) (trodAll_cons_mk (shut_string Tryd.underlying9 y1) trodAll_mk0)), rfl, bel.frame _, fun h => by cases h⟩
theorem over : Rows.spanChecksUptoRow.holds Tryd.pinned (Rows.OpenSpec.upto Rows.spanChecksSpec) :=
  OpenClaim.holds_of_cond 7 Tryd.f7 rfl rfl rfl rfl rfl rfl rfl ⟨rfl, rfl, rfl, rfl, rfl⟩ rfl rfl rfl rfl rfl (by kernel_rfl) Tryd.func7 (by kernel_rfl)
    (of_decide_eq_true (by kernel_rfl)) (by unfold Func.isWrapper; first | (rw [if_pos (by decide +kernel)]; kernel_rfl) | (rw [if_neg (by decide +kernel)]; exact ⟨rfl, rfl⟩))
    (fun os started H enc _ F => by rw [OpenClaim.pre_eq_preRow]; exact lifted os started H enc F)
theorem card_holds : Rows.SpanChecksUptoCardSaid :=
  Claim7.holds_tied_plain_at .later [] [.data, .data, .data, .data, .sentinel, .sentinel, .pinned] true (true, "38314187aaf6b5ec3f515b9a9886a0ef24638fef8079173373d06d77ba7c38b8") true
    over (fun _ h => by cases h) (by kernel_rfl) (fun _ h => by cases h) spanChecksUpto_row_tie rfl ⟨rfl, rfl⟩ (by kernel_rfl) rfl
    (fun f fn hf hfn => by
      obtain rfl : f = 7 := Option.some.inj ((show Tryd.prog.funcNamed Rows.spanChecksUptoRow.func = some 7 by kernel_rfl).symm.trans hf) |>.symm
      obtain rfl : fn = Tryd.f7 := (Option.some.inj (Tryd.func7.symm.trans hfn)).symm
      exact ⟨by kernel_rfl, fun j t ht => by
        rw [Tryd.params7] at ht
        have hm : t ∈ [48, 9] := by simpa using Array.mem_of_getElem? ht
        have hall : ([48, 9].all fun u => !Tryd.prog.wantsStandIn u) = true := by kernel_rfl
        exact (show Tryd.prog.wantsStandIn t = false by simpa using List.all_eq_true.1 hall t hm)⟩)
    (by kernel_rfl)
theorem proved : Rows.SpanChecksUptoCardSaid := card_holds
#print axioms proved
end Go.Proofs.YtcmanidhilkhnaaDoor.spanChecks
namespace Go.Proofs.YtcmanidhilkhnaaDoor
/-- The row, under a short name, for the claim. -/
theorem spanChecksUpto_holds : Rows.SpanChecksUptoCardSaid := spanChecks.proved
end Go.Proofs.YtcmanidhilkhnaaDoor
