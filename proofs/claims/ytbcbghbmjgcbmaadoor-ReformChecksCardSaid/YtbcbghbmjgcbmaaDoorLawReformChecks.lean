/- The card of the law ReformChecks: the row out of the law's pure statement and the contracts of the functions; the tables that the row lists are laid in the witness and not read. -/
import Derived.LaidLaws
import Derived.Test.YtbcbghbmjgcbmaaDoorH
import Derived.Test.YtbcbghbmjgcbmaaDoorE
import Derived.Lib.LaidTab
import Derived.Stop.LaidErr
import Derived.Lay
import Derived.Test.YtbcbghbmjgcbmaaDoorTie
import Derived.Test.YtbcbghbmjgcbmaaDoorCards
import Derived.LaidMore
import Derived.Stop.Joined
import Derived.SevenTiedAt
import Derived.Test.YtbcbghbmjgcbmaaDoorRows
import Derived.Test.YtbcbghbmjgcbmaaDoorPReformChecksx5
import Derived.Test.YtbcbghbmjgcbmaaDoorPureReformChecks
import Derived.Test.YtbcbghbmjgcbmaaDoorO
import Derived.WalkKit
import Derived.ProofKit
import Derived.OpenShut
import Derived.ShutString
import Derived.ChangeOld
import Derived.Below
import Derived.SizedLaws
import Derived.Test.YtbcbghbmjgcbmaaDoorWSized
namespace Go.Proofs.YtbcbghbmjgcbmaaDoor.reformChecks
open Go.ChangeShapes Go.WideShapes Go.ChangeAt Go.RowKit
open Go.Proofs.YtbcbghbmjgcbmaaDoor.PReformChecks Go.Proofs.YtbcbghbmjgcbmaaDoorW.PrintWords Go.Proofs.YtbcbghbmjgcbmaaDoor.O
open Go.ChangeMaps (open_string shut_string)
set_option linter.unusedVariables false
set_option linter.unusedSimpArgs false
theorem own : ownKnob Tryd.prog.godebug = none := by kernel_rfl
theorem laidOut : laidOutB Tryd.prog = true := by kernel_rfl
def laidTable : List (String × DataW Unit) := [("math/bits.deBruijn32tab", Rows.laid_math_bits_deBruijn32tab), ("math/bits.deBruijn64tab", Rows.laid_math_bits_deBruijn64tab), ("internal/strconv.uint64pow10", Rows.laid_internal_strconv_uint64pow10), ("unicode/utf8.acceptRanges", Rows.laid_unicode_utf8_acceptRanges), ("unicode.White_Space", Rows.laid_unicode_White_Space), ("strings.asciiSpace", Rows.laid_strings_asciiSpace), ("unicode/utf8.first", Rows.laid_unicode_utf8_first)]
set_option maxRecDepth 100000 in
theorem lifted (os : Os) (started : os.Started) (H : Type) (enc : TypeId × Value → H) :
    ReturnsInHanded {} Tryd.checked os 3 .any (fun w args => (Rows.reformChecksSpec.pre enc Tryd.prog Tryd.f3 [] false w args ∧ laidMetH Tryd.prog laidTable w) ∧ sizedMet enc Tryd.prog Tryd.f3 (OpenSpec.ofChange Rows.reformChecksSpec) false w args) (Rows.reformChecksSpec.post enc Tryd.prog Tryd.f3 false true false false) := by
  refine Go.Proofs.YtbcbghbmjgcbmaaDoor.H.handed (C := Tryd.checked) (X := (fun w _ => laidMetH Tryd.prog laidTable w)) (fun _ _ _ hh h => h.of_heap hh) own started (by kernel_rfl) Tryd.func3
    (ChangeSpec.witness_shaped (enc := enc) (C := Tryd.checked) (os := os) (X := (fun w _ => laidMetH Tryd.prog laidTable w)) false (World.laidAll Tryd.prog os laidTable) #[.agg #[.string ByteArray.empty, .slice none 0 0]] 8 (World.laidAll_os _ _ _) (World.shaped_of_ZipB (by kernel_rfl) (by kernel_rfl)) (by kernel_rfl) (by kernel_rfl) (by kernel_rfl) (by rw [MakeChecks.laidMetH_plain _ _ _ (by kernel_rfl)]; exact laidMet_laidAll _ (by kernel_rfl) (by kernel_rfl))) ?_
  intro W base args ds gs before hval0 hW hcnd hsz0 hL hsh _
  have hM : PReformChecks.strings_Split.Tab W := cell_of_shapedOpen_int (g := 3) (t := 3) (zero := #[.int .i64 0]) hsh (of_decide_eq_true (by kernel_rfl)) (by kernel_rfl) rfl (by kernel_rfl) (by kernel_rfl) Tryd.underlying3
  have hT : PReformChecks.strconv_Itoa.Tab W := by
    have h0 : laidMet Tryd.prog laidTable W := by
      have h1 := hL
      rw [MakeChecks.laidMetH_plain _ _ _ (by kernel_rfl)] at h1
      exact h1
    have h3 : laidMet Tryd.prog (("internal/strconv.uint64pow10", Go.Lib.tabData .u64 Go.Lib.pow10Tab) :: [("unicode/utf8.acceptRanges", Rows.laid_unicode_utf8_acceptRanges), ("unicode.White_Space", Rows.laid_unicode_White_Space), ("strings.asciiSpace", Rows.laid_strings_asciiSpace), ("unicode/utf8.first", Rows.laid_unicode_utf8_first)]) W := (laidMet.tail (laidMet.tail h0))
    exact Go.Lib.tabIs_of_head (g := 2) (t := 100) (e := 79) (n := 20) (by kernel_rfl) (by kernel_rfl) Tryd.underlying100 Tryd.underlying79 (by kernel_rfl) (by kernel_rfl) h3
  have hF : PReformChecks.strings_Fields.Tab W := by
    have h0 : laidMet Tryd.prog laidTable W := by
      have h1 := hL
      rw [MakeChecks.laidMetH_plain _ _ _ (by kernel_rfl)] at h1
      exact h1
    exact (E.cells (d := Rows.laid_strings_asciiSpace) (L := strings_Fields.Tab_space) h0 (by simp [laidTable]) (show Tryd.prog.globalNamed "strings.asciiSpace" = some 0 by kernel_rfl) (t := 56) (by kernel_rfl) (E.told_array Tryd.underlying56 (by kernel_rfl) (E.told_int Tryd.underlying5)) (by kernel_rfl))
  have hsz : (DataW.weightsEach Tryd.prog (Tryd.f3.params.toList ++ Rows.reformChecksSpec.plain.varTypes Tryd.prog) (ds ++ gs)).all (· ≤ reachBytes) = true := hsz0
  have hval : ∀ (j : Nat) t v, Tryd.f3.params[j]? = some t → args[j]? = some v → Value.okWide Tryd.prog W .any base t v := hval0
  have hW' := hW
  obtain ⟨p, q, hA0, hV, rfl, hfz, hnd⟩ := hW
  have hA : DataW.TrodAll enc Tryd.prog W 0 (fun _ => true) true Tryd.f3.params.toList args.toList ds p := hA0
  rw [Tryd.params3] at hA hval hsz
  obtain ⟨v0, vs0, d0, ds0, p0, q0, hargs, rfl, rfl, h0, r0⟩ := trodAll_cons hA
  obtain ⟨rfl, rfl, rfl⟩ := trodAll_nil r0
  obtain rfl : args = #[v0] := by cases args; simp_all
  obtain ⟨rfl, rfl⟩ := trodVars_none hV
  have k0 := h0
  have lt0 := trod_lt_of k0
  obtain ⟨cs0, rfl, hcs0⟩ := okWide_struct Tryd.underlying24 (hval 0 24 v0 rfl rfl)
  obtain ⟨⟨a0_0, l0_1⟩, hk0, ⟨w0_0, w0_1⟩⟩ := open_arg (fun N => ((Opens.structP (OpensF.cons (Opens.string Tryd.underlying9 (by kernel_rfl)) (OpensF.one (Opens.slice (B := 24) ((Opens.struct (fun x : S27 => (x.f0, x.f1)) (fun p => ⟨p.1, p.2⟩) (OpensF.cons (Opens.int Tryd.underlying3 (by kernel_rfl)) (OpensF.one (Opens.string Tryd.underlying9 (by kernel_rfl)) rfl) rfl rfl) Tryd.underlying27 (by kernel_rfl) (fun _ => rfl)).less (Nat.le_succ _)) Tryd.underlying22 (by kernel_rfl) (by kernel_rfl)) rfl) rfl rfl) Tryd.underlying24 (by kernel_rfl)).less (Nat.le_succ _))) hsz (j := 0) (t := 24) rfl rfl h0
  obtain ⟨_, _, e0_0, rfl, ⟨A0_1, c0_1, rfl, hc0_1, hr0_1⟩⟩ := hk0
  obtain rfl : cs0 = #[.string a0_0, .slice A0_1 l0_1.length c0_1] := by
    cases cs0
    simp only [Value.cells, List.cons_append, List.nil_append] at e0_0
    simp_all
  clear hA0 hval0 hsz0 hsz
  obtain ⟨k, hP⟩ := Pure.ReformChecks a0_0 l0_1 w0_0 w0_1
  refine (PReformChecks.ephemerislaw1_ReformChecks.calls k a0_0 _ _ l0_1 true W hr0_1 hc0_1 hT hF hM hP).mono fun e W' ⟨he, bel0⟩ => ?_
  have bel : Below W.heap.size W W' := bel0
  subst he
  exact ⟨_, rfl, _, _, _, [], _, [], hW', trodAll_mk1 (shut_bool Tryd.underlying4 _), (trodAll_cons_mk (Below.trod laidOut (by kernel_rfl) (of_decide_eq_true (by kernel_rfl)) k0 bel lt0) trodAll_mk0), rfl, bel.frame _, fun h => by cases h⟩
theorem over : Rows.reformChecksRow.holds Tryd.pinned (OpenSpec.ofChange Rows.reformChecksSpec) :=
  OpenClaim.holds_of_wide 3 Tryd.f3 rfl rfl rfl rfl rfl rfl rfl ⟨rfl, rfl, rfl, rfl, rfl⟩ rfl rfl rfl rfl rfl (by kernel_rfl) Tryd.func3 (by kernel_rfl)
    (of_decide_eq_true (by kernel_rfl)) (by unfold Func.isWrapper; first | (rw [if_pos (by decide +kernel)]; kernel_rfl) | (rw [if_neg (by decide +kernel)]; exact ⟨rfl, rfl⟩))
    (fun os started H enc _ => lifted os started H enc)
theorem card_holds : Rows.ReformChecksCardSaid :=
  Claim7.holds_tied_plain_at .later [] [.data, .data, .data, .data, .listed, .data, .pinned] true (true, "2b0e94b05726a6c23793faeb2f7ad8bce5388324b416f129f91a45aa193d1027") false
    over (fun _ h => by cases h) (by kernel_rfl) (fun _ h => by cases h) reformChecks_row_tie rfl ⟨rfl, rfl⟩ (by kernel_rfl) rfl
    (fun f fn hf hfn => by
      obtain rfl : f = 3 := Option.some.inj ((show Tryd.prog.funcNamed Rows.reformChecksRow.func = some 3 by kernel_rfl).symm.trans hf) |>.symm
      obtain rfl : fn = Tryd.f3 := (Option.some.inj (Tryd.func3.symm.trans hfn)).symm
      exact ⟨by kernel_rfl, fun j t ht => by
        rw [Tryd.params3] at ht
        have hm : t ∈ [24] := by simpa using Array.mem_of_getElem? ht
        have hall : ([24].all fun u => !Tryd.prog.wantsStandIn u) = true := by kernel_rfl
        exact (show Tryd.prog.wantsStandIn t = false by simpa using List.all_eq_true.1 hall t hm)⟩)
    (by kernel_rfl)
theorem proved : Rows.ReformChecksCardSaid := card_holds
#print axioms proved
end Go.Proofs.YtbcbghbmjgcbmaaDoor.reformChecks
namespace Go.Proofs.YtbcbghbmjgcbmaaDoor
/-- The row, under a short name, for the claim. -/
theorem reformChecks_holds : Rows.ReformChecksCardSaid := reformChecks.proved
end Go.Proofs.YtbcbghbmjgcbmaaDoor
