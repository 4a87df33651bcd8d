/- The card of the law CatalogTexts: the row out of the law's pure statement and the contracts of the functions; the tables that the row lists are laid in the witness and not read. -/
import Derived.LaidLaws
import Derived.Test.YtiijhabfdjnmaaaDoorH
import Derived.Test.YtiijhabfdjnmaaaDoorE
import Derived.Lib.LaidTab
import Derived.Stop.LaidErr
import Derived.Lay
import Derived.Test.YtiijhabfdjnmaaaDoorTie
import Derived.Test.YtiijhabfdjnmaaaDoorCards
import Derived.LaidMore
import Derived.Stop.Joined
import Derived.SevenTiedAt
import Derived.Test.YtiijhabfdjnmaaaDoorRows
import Derived.Test.YtiijhabfdjnmaaaDoorPCatalogTextsx3
import Derived.Test.YtiijhabfdjnmaaaDoorPureCatalogTexts
import Derived.Test.YtiijhabfdjnmaaaDoorO
import Derived.WalkKit
import Derived.ProofKit
import Derived.OpenShut
import Derived.ShutString
import Derived.ChangeOld
import Derived.Below
import Derived.SizedLaws
import Derived.Test.YtiijhabfdjnmaaaDoorWSized
namespace Go.Proofs.YtiijhabfdjnmaaaDoor.catalogTexts
open Go.ChangeShapes Go.WideShapes Go.ChangeAt Go.RowKit
open Go.Proofs.YtiijhabfdjnmaaaDoor.PCatalogTexts Go.Proofs.YtiijhabfdjnmaaaDoorW.PrintWords Go.Proofs.YtiijhabfdjnmaaaDoor.O
open Go.ChangeMaps (open_string shut_string)
set_option linter.unusedVariables false
set_option linter.unusedSimpArgs false
theorem own : ownKnob Tryd.prog.godebug = none := by kernel_rfl
theorem laidOut : laidOutB Tryd.prog = true := by kernel_rfl
def laidTable : List (String × DataW Unit) := [("math/bits.deBruijn32tab", Rows.laid_math_bits_deBruijn32tab), ("math/bits.deBruijn64tab", Rows.laid_math_bits_deBruijn64tab), ("internal/strconv.uint64pow10", Rows.laid_internal_strconv_uint64pow10), ("unicode/utf8.acceptRanges", Rows.laid_unicode_utf8_acceptRanges), ("unicode.White_Space", Rows.laid_unicode_White_Space), ("strings.asciiSpace", Rows.laid_strings_asciiSpace), ("unicode/utf8.first", Rows.laid_unicode_utf8_first)]
set_option maxRecDepth 100000 in
theorem lifted (os : Os) (started : os.Started) (H : Type) (enc : TypeId × Value → H) :
    ReturnsInHanded {} Tryd.checked os 8 .any (fun w args => (Rows.catalogTextsSpec.pre enc Tryd.prog Tryd.f8 [] false w args ∧ laidMetH Tryd.prog laidTable w) ∧ sizedMet enc Tryd.prog Tryd.f8 (OpenSpec.ofChange Rows.catalogTextsSpec) false w args) (Rows.catalogTextsSpec.post enc Tryd.prog Tryd.f8 false true false false) := by
  refine Go.Proofs.YtiijhabfdjnmaaaDoor.H.handed (C := Tryd.checked) (X := (fun w _ => laidMetH Tryd.prog laidTable w)) (fun _ _ _ hh h => h.of_heap hh) own started (by kernel_rfl) Tryd.func8
    (ChangeSpec.witness_shaped (enc := enc) (C := Tryd.checked) (os := os) (X := (fun w _ => laidMetH Tryd.prog laidTable w)) false (World.laidAll Tryd.prog os laidTable) #[.string ByteArray.empty] 8 (World.laidAll_os _ _ _) (World.shaped_of_ZipB (by kernel_rfl) (by kernel_rfl)) (by kernel_rfl) (by kernel_rfl) (by kernel_rfl) (by rw [MakeChecks.laidMetH_plain _ _ _ (by kernel_rfl)]; exact laidMet_laidAll _ (by kernel_rfl) (by kernel_rfl))) ?_
  intro W base args ds gs before hval0 hW hcnd hsz0 hL hsh _
  have hM : PCatalogTexts.strings_Split.Tab W := cell_of_shapedOpen_int (g := 14) (t := 3) (zero := #[.int .i64 0]) hsh (of_decide_eq_true (by kernel_rfl)) (by kernel_rfl) rfl (by kernel_rfl) (by kernel_rfl) Tryd.underlying3
  have hT : PCatalogTexts.strconv_Itoa.Tab W := by
    have h0 : laidMet Tryd.prog laidTable W := by
      have h1 := hL
      rw [MakeChecks.laidMetH_plain _ _ _ (by kernel_rfl)] at h1
      exact h1
    have h3 : laidMet Tryd.prog (("internal/strconv.uint64pow10", Go.Lib.tabData .u64 Go.Lib.pow10Tab) :: [("unicode/utf8.acceptRanges", Rows.laid_unicode_utf8_acceptRanges), ("unicode.White_Space", Rows.laid_unicode_White_Space), ("strings.asciiSpace", Rows.laid_strings_asciiSpace), ("unicode/utf8.first", Rows.laid_unicode_utf8_first)]) W := (laidMet.tail (laidMet.tail h0))
    exact Go.Lib.tabIs_of_head (g := 15) (t := 257) (e := 223) (n := 20) (by kernel_rfl) (by kernel_rfl) Tryd.underlying257 Tryd.underlying223 (by kernel_rfl) (by kernel_rfl) h3
  have hF : PCatalogTexts.strings_Fields.Tab W := by
    have h0 : laidMet Tryd.prog laidTable W := by
      have h1 := hL
      rw [MakeChecks.laidMetH_plain _ _ _ (by kernel_rfl)] at h1
      exact h1
    exact (E.cells (d := Rows.laid_strings_asciiSpace) (L := strings_Fields.Tab_space) h0 (by simp [laidTable]) (show Tryd.prog.globalNamed "strings.asciiSpace" = some 8 by kernel_rfl) (t := 183) (by kernel_rfl) (E.told_array Tryd.underlying183 (by kernel_rfl) (E.told_int Tryd.underlying5)) (by kernel_rfl))
  have hsz : (DataW.weightsEach Tryd.prog (Tryd.f8.params.toList ++ Rows.catalogTextsSpec.plain.varTypes Tryd.prog) (ds ++ gs)).all (· ≤ reachBytes) = true := hsz0
  have hval : ∀ (j : Nat) t v, Tryd.f8.params[j]? = some t → args[j]? = some v → Value.okWide Tryd.prog W .any base t v := hval0
  have hW' := hW
  obtain ⟨p, q, hA0, hV, rfl, hfz, hnd⟩ := hW
  have hA : DataW.TrodAll enc Tryd.prog W 0 (fun _ => true) true Tryd.f8.params.toList args.toList ds p := hA0
  rw [Tryd.params8] at hA hval hsz
  obtain ⟨v0, vs0, d0, ds0, p0, q0, hargs, rfl, rfl, h0, r0⟩ := trodAll_cons hA
  obtain ⟨rfl, rfl, rfl⟩ := trodAll_nil r0
  obtain rfl : args = #[v0] := by cases args; simp_all
  obtain ⟨rfl, rfl⟩ := trodVars_none hV
  obtain ⟨a0, rfl, rfl, rfl, y0⟩ := open_string Tryd.underlying9 (hval 0 9 v0 rfl rfl) h0
  have w0 : a0.size ≤ 140737488351232 := by
    have z := sized_string hsz (j := 0) (t := 9) rfl rfl
    rw [Array.length_toList] at z
    exact z
  clear hA0 hval0 hsz0 hsz
  obtain ⟨k, hP⟩ := Pure.CatalogTexts a0 w0
  refine (PCatalogTexts.ephemerislaw1_CatalogTexts.calls k a0 true W hT hF hM hP).mono fun e W' ⟨he, bel0⟩ => ?_
  have bel : Below W.heap.size W W' := bel0
  subst he
  exact ⟨_, rfl, _, _, _, [], _, [], hW', trodAll_mk1 (shut_bool Tryd.underlying4 _), (trodAll_cons_mk (shut_string Tryd.underlying9 y0) trodAll_mk0), rfl, bel.frame _, fun h => by cases h⟩
theorem over : Rows.catalogTextsRow.holds Tryd.pinned (OpenSpec.ofChange Rows.catalogTextsSpec) :=
  OpenClaim.holds_of_wide 8 Tryd.f8 rfl rfl rfl rfl rfl rfl rfl ⟨rfl, rfl, rfl, rfl, rfl⟩ rfl rfl rfl rfl rfl (by kernel_rfl) Tryd.func8 (by kernel_rfl)
    (of_decide_eq_true (by kernel_rfl)) (by unfold Func.isWrapper; first | (rw [if_pos (by decide +kernel)]; kernel_rfl) | (rw [if_neg (by decide +kernel)]; exact ⟨rfl, rfl⟩))
    (fun os started H enc _ => lifted os started H enc)
theorem card_holds : Rows.CatalogTextsCardSaid :=
  Claim7.holds_tied_plain_at .later [] [.data, .data, .data, .data, .listed, .data, .pinned] true (true, "fb3ec01df522bc53a7cf9bb089993aa7b0fa881977e3c9afc1696c8710403537") true
    over (fun _ h => by cases h) (by kernel_rfl) (fun _ h => by cases h) catalogTexts_row_tie rfl ⟨rfl, rfl⟩ (by kernel_rfl) rfl
    (fun f fn hf hfn => by
      obtain rfl : f = 8 := Option.some.inj ((show Tryd.prog.funcNamed Rows.catalogTextsRow.func = some 8 by kernel_rfl).symm.trans hf) |>.symm
      obtain rfl : fn = Tryd.f8 := (Option.some.inj (Tryd.func8.symm.trans hfn)).symm
      exact ⟨by kernel_rfl, fun j t ht => by
        rw [Tryd.params8] at ht
        have hm : t ∈ [9] := by simpa using Array.mem_of_getElem? ht
        have hall : ([9].all fun u => !Tryd.prog.wantsStandIn u) = true := by kernel_rfl
        exact (show Tryd.prog.wantsStandIn t = false by simpa using List.all_eq_true.1 hall t hm)⟩)
    (by kernel_rfl)
theorem proved : Rows.CatalogTextsCardSaid := card_holds
#print axioms proved
end Go.Proofs.YtiijhabfdjnmaaaDoor.catalogTexts
namespace Go.Proofs.YtiijhabfdjnmaaaDoor
/-- The row, under a short name, for the claim. -/
theorem catalogTexts_holds : Rows.CatalogTextsCardSaid := catalogTexts.proved
end Go.Proofs.YtiijhabfdjnmaaaDoor
