/-
  NARROWER THAN 'FOR EVERY INPUT', by the rows' own cells (each row's printed sentence says how): PatternChecks: laid · NumeralWrites: laid · NumeralPads: laid · NumeralReads: laid · SpanChecks: laid · RecurTexts: laid · ZonetextApplies: laid · RulePrints: loops, laid.
  DERIVED. THE GIVEN ROWS OF THIS SEAT. 8 by the template 'for every input the law returns true; each argument reads behind the call as it read before'; 0 by the template 'total and deterministic' (their statements: YtcmanidhilkhnaaDoorTotals.lean).
  GIVEN WITH THE SEED: the statements are not yours to turn. If you find one false, say at which input.
  Laid BY PROGRAM, IN A SANDBOX (cutbox-rows.mjs): the forced cells as the released guide's own fill.sh prints them over the translation a9cfcf015236256a… (all of the seat's roots in one cut). By AI agents, Wed Nov 11 2026. No macro, syntax, notation, axiom, sorry.
-/
import Derived.Test.YtcmanidhilkhnaaDoorChecked
import GoSem.PinnedTables
import GoSem.Claim
import GoSem.ClaimJoined
import GoSem.ClaimMapViews
import Derived.JoinedTies
import Derived.KernelRfl
namespace Go.Proofs.YtcmanidhilkhnaaDoor
/- THE CELL 'sum', in the pinned program and in every row, IS THE sha256 OF THE DUMP (.gsa) THAT YtcmanidhilkhnaaDoorProg.lean LOADS. Nothing in Lean hashes anything: it is a label: what it is worth is what the hold of that sum in a sandbox is worth. -/
noncomputable def Tryd.pinned : Pinned := { name := "ytcmanidhilkhnaadoor", sum := "a9cfcf015236256a281280625c7ecc8a506531ca5a21fda8bc4e0d171837a4b9", checked := Tryd.checked }
namespace Rows
def none {H : Type} : Left H := { results := [], args := [] }

/- WHAT THE LISTED PACKAGE-LEVEL VARIABLES READ AS WHEN THE CALL BEGINS. Each datum BY PROGRAM (the guide's laid-datum.mjs) off the statement by which the dump's own 'gosem.cut.vars' lays the variable. In a bare row this is a premise. The card (YtcmanidhilkhnaaDoorCards.lean) ties it to the program's text. -/
def laid_ephemeris_pattern_names {H : Type} : DataW H := .agg [.lit (.string [121]), .lit (.string [109]), .lit (.string [100]), .lit (.string [121, 52]), .lit (.string [109, 50]), .lit (.string [100, 50]), .lit (.string [110, 97, 109, 101]), .lit (.string [119])]
def laid_math_bits_deBruijn32tab {H : Type} : DataW H := .agg [.lit (.int .u8 0), .lit (.int .u8 1), .lit (.int .u8 28), .lit (.int .u8 2), .lit (.int .u8 29), .lit (.int .u8 14), .lit (.int .u8 24), .lit (.int .u8 3), .lit (.int .u8 30), .lit (.int .u8 22), .lit (.int .u8 20), .lit (.int .u8 15), .lit (.int .u8 25), .lit (.int .u8 17), .lit (.int .u8 4), .lit (.int .u8 8), .lit (.int .u8 31), .lit (.int .u8 27), .lit (.int .u8 13), .lit (.int .u8 23), .lit (.int .u8 21), .lit (.int .u8 19), .lit (.int .u8 16), .lit (.int .u8 7), .lit (.int .u8 26), .lit (.int .u8 12), .lit (.int .u8 18), .lit (.int .u8 6), .lit (.int .u8 11), .lit (.int .u8 5), .lit (.int .u8 10), .lit (.int .u8 9)]
def laid_math_bits_deBruijn64tab {H : Type} : DataW H := .agg [.lit (.int .u8 0), .lit (.int .u8 1), .lit (.int .u8 56), .lit (.int .u8 2), .lit (.int .u8 57), .lit (.int .u8 49), .lit (.int .u8 28), .lit (.int .u8 3), .lit (.int .u8 61), .lit (.int .u8 58), .lit (.int .u8 42), .lit (.int .u8 50), .lit (.int .u8 38), .lit (.int .u8 29), .lit (.int .u8 17), .lit (.int .u8 4), .lit (.int .u8 62), .lit (.int .u8 47), .lit (.int .u8 59), .lit (.int .u8 36), .lit (.int .u8 45), .lit (.int .u8 43), .lit (.int .u8 51), .lit (.int .u8 22), .lit (.int .u8 53), .lit (.int .u8 39), .lit (.int .u8 33), .lit (.int .u8 30), .lit (.int .u8 24), .lit (.int .u8 18), .lit (.int .u8 12), .lit (.int .u8 5), .lit (.int .u8 63), .lit (.int .u8 55), .lit (.int .u8 48), .lit (.int .u8 27), .lit (.int .u8 60), .lit (.int .u8 41), .lit (.int .u8 37), .lit (.int .u8 16), .lit (.int .u8 46), .lit (.int .u8 35), .lit (.int .u8 44), .lit (.int .u8 21), .lit (.int .u8 52), .lit (.int .u8 32), .lit (.int .u8 23), .lit (.int .u8 11), .lit (.int .u8 54), .lit (.int .u8 26), .lit (.int .u8 40), .lit (.int .u8 15), .lit (.int .u8 34), .lit (.int .u8 20), .lit (.int .u8 31), .lit (.int .u8 10), .lit (.int .u8 25), .lit (.int .u8 14), .lit (.int .u8 19), .lit (.int .u8 9), .lit (.int .u8 13), .lit (.int .u8 8), .lit (.int .u8 7), .lit (.int .u8 6)]
def laid_internal_strconv_uint64pow10 {H : Type} : DataW H := .agg [.lit (.int .u64 1), .lit (.int .u64 10), .lit (.int .u64 100), .lit (.int .u64 1000), .lit (.int .u64 10000), .lit (.int .u64 100000), .lit (.int .u64 1000000), .lit (.int .u64 10000000), .lit (.int .u64 100000000), .lit (.int .u64 1000000000), .lit (.int .u64 10000000000), .lit (.int .u64 100000000000), .lit (.int .u64 1000000000000), .lit (.int .u64 10000000000000), .lit (.int .u64 100000000000000), .lit (.int .u64 1000000000000000), .lit (.int .u64 10000000000000000), .lit (.int .u64 100000000000000000), .lit (.int .u64 1000000000000000000), .lit (.int .u64 10000000000000000000)]
def laid_ephemeris_numeral_zeros {H : Type} : DataW H := .agg [.lit (.int .i32 48), .lit (.int .i32 1632), .lit (.int .i32 1776), .lit (.int .i32 2406), .lit (.int .i32 2534), .lit (.int .i32 3664), .lit (.int .i32 3872), .lit (.int .i32 6112), .lit (.int .i32 65296)]
def laid_ephemeris_numeral_roman {H : Type} : DataW H := .agg [.agg [.lit (.string [73]), .lit (.string [73, 73]), .lit (.string [73, 73, 73]), .lit (.string [73, 86]), .lit (.string [86]), .lit (.string [86, 73]), .lit (.string [86, 73, 73]), .lit (.string [86, 73, 73, 73]), .lit (.string [73, 88])], .agg [.lit (.string [88]), .lit (.string [88, 88]), .lit (.string [88, 88, 88]), .lit (.string [88, 76]), .lit (.string [76]), .lit (.string [76, 88]), .lit (.string [76, 88, 88]), .lit (.string [76, 88, 88, 88]), .lit (.string [88, 67])], .agg [.lit (.string [67]), .lit (.string [67, 67]), .lit (.string [67, 67, 67]), .lit (.string [67, 68]), .lit (.string [68]), .lit (.string [68, 67]), .lit (.string [68, 67, 67]), .lit (.string [68, 67, 67, 67]), .lit (.string [67, 77])], .agg [.lit (.string [77]), .lit (.string [77, 77]), .lit (.string [77, 77, 77]), .lit (.string []), .lit (.string []), .lit (.string []), .lit (.string []), .lit (.string []), .lit (.string [])]]
def laid_ephemeris_numeral_letters {H : Type} : DataW H := .agg [.agg [.agg [.lit (.string [206, 177]), .lit (.string [206, 178]), .lit (.string [206, 179]), .lit (.string [206, 180]), .lit (.string [206, 181]), .lit (.string [207, 155]), .lit (.string [206, 182]), .lit (.string [206, 183]), .lit (.string [206, 184])], .agg [.lit (.string [206, 185]), .lit (.string [206, 186]), .lit (.string [206, 187]), .lit (.string [206, 188]), .lit (.string [206, 189]), .lit (.string [206, 190]), .lit (.string [206, 191]), .lit (.string [207, 128]), .lit (.string [207, 159])], .agg [.lit (.string [207, 129]), .lit (.string [207, 131]), .lit (.string [207, 132]), .lit (.string [207, 133]), .lit (.string [207, 134]), .lit (.string [207, 135]), .lit (.string [207, 136]), .lit (.string [207, 137]), .lit (.string [207, 161])]], .agg [.agg [.lit (.string [215, 144]), .lit (.string [215, 145]), .lit (.string [215, 146]), .lit (.string [215, 147]), .lit (.string [215, 148]), .lit (.string [215, 149]), .lit (.string [215, 150]), .lit (.string [215, 151]), .lit (.string [215, 152])], .agg [.lit (.string [215, 153]), .lit (.string [215, 155]), .lit (.string [215, 156]), .lit (.string [215, 158]), .lit (.string [215, 160]), .lit (.string [215, 161]), .lit (.string [215, 162]), .lit (.string [215, 164]), .lit (.string [215, 166])], .agg [.lit (.string [215, 167]), .lit (.string [215, 168]), .lit (.string [215, 169]), .lit (.string [215, 170]), .lit (.string [215, 170, 215, 167]), .lit (.string [215, 170, 215, 168]), .lit (.string [215, 170, 215, 169]), .lit (.string [215, 170, 215, 170]), .lit (.string [215, 170, 215, 170, 215, 167])]]]
def laid_ephemeris_numeral_ten {H : Type} : DataW H := .agg [.lit (.string [227, 128, 135]), .lit (.string [228, 184, 128]), .lit (.string [228, 186, 140]), .lit (.string [228, 184, 137]), .lit (.string [229, 155, 155]), .lit (.string [228, 186, 148]), .lit (.string [229, 133, 173]), .lit (.string [228, 184, 131]), .lit (.string [229, 133, 171]), .lit (.string [228, 185, 157])]
def laid_ephemeris_numeral_places {H : Type} : DataW H := .agg [.lit (.string []), .lit (.string [229, 141, 129]), .lit (.string [231, 153, 190]), .lit (.string [229, 141, 131])]
def laid_strconv_ErrRange {H : Type} : DataW H := .iface "*errors.errorString" (.ptr (.agg [.lit (.string [118, 97, 108, 117, 101, 32, 111, 117, 116, 32, 111, 102, 32, 114, 97, 110, 103, 101])]))
def laid_strconv_ErrSyntax {H : Type} : DataW H := .iface "*errors.errorString" (.ptr (.agg [.lit (.string [105, 110, 118, 97, 108, 105, 100, 32, 115, 121, 110, 116, 97, 120])]))
def laid_unicode_utf8_acceptRanges {H : Type} : DataW H := .agg [.agg [.lit (.int .u8 128), .lit (.int .u8 191)], .agg [.lit (.int .u8 160), .lit (.int .u8 191)], .agg [.lit (.int .u8 128), .lit (.int .u8 159)], .agg [.lit (.int .u8 144), .lit (.int .u8 191)], .agg [.lit (.int .u8 128), .lit (.int .u8 143)], .agg [.lit (.int .u8 0), .lit (.int .u8 0)], .agg [.lit (.int .u8 0), .lit (.int .u8 0)], .agg [.lit (.int .u8 0), .lit (.int .u8 0)], .agg [.lit (.int .u8 0), .lit (.int .u8 0)], .agg [.lit (.int .u8 0), .lit (.int .u8 0)], .agg [.lit (.int .u8 0), .lit (.int .u8 0)], .agg [.lit (.int .u8 0), .lit (.int .u8 0)], .agg [.lit (.int .u8 0), .lit (.int .u8 0)], .agg [.lit (.int .u8 0), .lit (.int .u8 0)], .agg [.lit (.int .u8 0), .lit (.int .u8 0)], .agg [.lit (.int .u8 0), .lit (.int .u8 0)]]
/-- One of Go's own tables, pinned by name: the form's constant. -/
def laid_unicode_utf8_first : DataW Unit := Go.Pinned.utf8First
def laid_ephemeris_rule_kids {H : Type} : DataW H := .agg [.lit (.int .i64 0), .lit (.int .i64 0), .lit (.int .i64 0), .lit (.int .i64 1), .lit (.int .i64 2), .lit (.int .i64 2), .lit (.int .i64 2), .lit (.int .i64 2), .lit (.int .i64 2), .lit (.int .i64 2), .lit (.int .i64 2), .lit (.int .i64 1), .lit (.int .i64 2), .lit (.int .i64 2)]
def laid_ephemeris_rule_levels {H : Type} : DataW H := .agg [.lit (.int .i64 0), .lit (.int .i64 8), .lit (.int .i64 8), .lit (.int .i64 7), .lit (.int .i64 5), .lit (.int .i64 5), .lit (.int .i64 6), .lit (.int .i64 6), .lit (.int .i64 6), .lit (.int .i64 4), .lit (.int .i64 4), .lit (.int .i64 3), .lit (.int .i64 2), .lit (.int .i64 1)]
def laid_ephemeris_rule_signs {H : Type} : DataW H := .agg [.lit (.string []), .lit (.string []), .lit (.string []), .lit (.string []), .lit (.string [32, 43, 32]), .lit (.string [32, 45, 32]), .lit (.string [32, 42, 32]), .lit (.string [32, 47, 32]), .lit (.string [32, 37, 32]), .lit (.string [32, 60, 32]), .lit (.string [32, 61, 32]), .lit (.string []), .lit (.string [32, 97, 110, 100, 32]), .lit (.string [32, 111, 114, 32])]

/-- 'ephemerislaw1.PatternChecks': WHATEVER THE INPUT: true; the input reads as it did. -/
def patternChecksSpec : ChangeSpec := { name := "patternChecks", fn := fun _ => fun
  | [d] => { results := [.lit (.bool true)], args := [d] }
  | _ => none }
def patternChecksRow : OpenClaim := { program := "ytcmanidhilkhnaadoor", sum := "a9cfcf015236256a281280625c7ecc8a506531ca5a21fda8bc4e0d171837a4b9", func := "ephemeris/ephemerislaw1.PatternChecks", spec := "patternChecks", inPlace := ["internal/bytealg.IndexByteString", "internal/bytealg.IndexString"], named := ["ephemeris/pattern.names", "internal/bytealg.MaxLen"], apart := false, laid := [("ephemeris/pattern.names", laid_ephemeris_pattern_names)] }
def PatternChecksSaid : Prop := patternChecksRow.holds Tryd.pinned (OpenSpec.ofChange patternChecksSpec)

/-- ITS FALSE NEIGHBOUR: 'it returns false'. Refute it at one input. -/
def patternChecksWrong : ChangeSpec := { name := "patternChecks", fn := fun _ => fun
  | [d] => { results := [.lit (.bool false)], args := [d] }
  | _ => none }
def PatternChecksWrongFalsely : Prop := patternChecksRow.holds Tryd.pinned (OpenSpec.ofChange patternChecksWrong)

/-- 'ephemerislaw1.NumeralWrites': WHATEVER THE INPUT: true; the input reads as it did. -/
def numeralWritesSpec : ChangeSpec := { name := "numeralWrites", fn := fun _ => fun
  | [d1, d2] => { results := [.lit (.bool true)], args := [d1, d2] }
  | _ => none }
def numeralWritesRow : OpenClaim := { program := "ytcmanidhilkhnaadoor", sum := "a9cfcf015236256a281280625c7ecc8a506531ca5a21fda8bc4e0d171837a4b9", func := "ephemeris/ephemerislaw1.NumeralWrites", spec := "numeralWrites", inPlace := ["internal/abi.NoEscape"], named := ["ephemeris/numeral.ten", "ephemeris/numeral.places", "ephemeris/numeral.roman", "ephemeris/numeral.letters", "internal/strconv.uint64pow10", "math/bits.deBruijn32tab", "math/bits.deBruijn64tab", "ephemeris/numeral.zeros"], apart := false, laid := [("math/bits.deBruijn32tab", laid_math_bits_deBruijn32tab), ("math/bits.deBruijn64tab", laid_math_bits_deBruijn64tab), ("internal/strconv.uint64pow10", laid_internal_strconv_uint64pow10), ("ephemeris/numeral.zeros", laid_ephemeris_numeral_zeros), ("ephemeris/numeral.roman", laid_ephemeris_numeral_roman), ("ephemeris/numeral.letters", laid_ephemeris_numeral_letters), ("ephemeris/numeral.ten", laid_ephemeris_numeral_ten), ("ephemeris/numeral.places", laid_ephemeris_numeral_places)] }
def NumeralWritesSaid : Prop := numeralWritesRow.holds Tryd.pinned (OpenSpec.ofChange numeralWritesSpec)

/-- ITS FALSE NEIGHBOUR: 'it returns false'. Refute it at one input. -/
def numeralWritesWrong : ChangeSpec := { name := "numeralWrites", fn := fun _ => fun
  | [d1, d2] => { results := [.lit (.bool false)], args := [d1, d2] }
  | _ => none }
def NumeralWritesWrongFalsely : Prop := numeralWritesRow.holds Tryd.pinned (OpenSpec.ofChange numeralWritesWrong)

/-- 'ephemerislaw1.NumeralPads': WHATEVER THE INPUT: true; the input reads as it did. -/
def numeralPadsSpec : ChangeSpec := { name := "numeralPads", fn := fun _ => fun
  | [d1, d2, d3] => { results := [.lit (.bool true)], args := [d1, d2, d3] }
  | _ => none }
def numeralPadsRow : OpenClaim := { program := "ytcmanidhilkhnaadoor", sum := "a9cfcf015236256a281280625c7ecc8a506531ca5a21fda8bc4e0d171837a4b9", func := "ephemeris/ephemerislaw1.NumeralPads", spec := "numeralPads", inPlace := ["internal/abi.NoEscape", "internal/bytealg.MakeNoZero"], named := ["internal/strconv.uint64pow10", "math/bits.deBruijn32tab", "math/bits.deBruijn64tab", "ephemeris/numeral.zeros"], apart := false, laid := [("math/bits.deBruijn32tab", laid_math_bits_deBruijn32tab), ("math/bits.deBruijn64tab", laid_math_bits_deBruijn64tab), ("internal/strconv.uint64pow10", laid_internal_strconv_uint64pow10), ("ephemeris/numeral.zeros", laid_ephemeris_numeral_zeros)] }
def NumeralPadsSaid : Prop := numeralPadsRow.holds Tryd.pinned (OpenSpec.ofChange numeralPadsSpec)

/-- ITS FALSE NEIGHBOUR: 'it returns false'. Refute it at one input. -/
def numeralPadsWrong : ChangeSpec := { name := "numeralPads", fn := fun _ => fun
  | [d1, d2, d3] => { results := [.lit (.bool false)], args := [d1, d2, d3] }
  | _ => none }
def NumeralPadsWrongFalsely : Prop := numeralPadsRow.holds Tryd.pinned (OpenSpec.ofChange numeralPadsWrong)

/-- 'ephemerislaw1.NumeralReads': WHATEVER THE INPUT: true; the input reads as it did. -/
def numeralReadsSpec : ChangeSpec := { name := "numeralReads", fn := fun _ => fun
  | [d1, d2] => { results := [.lit (.bool true)], args := [d1, d2] }
  | _ => none }
def numeralReadsRow : OpenClaim := { program := "ytcmanidhilkhnaadoor", sum := "a9cfcf015236256a281280625c7ecc8a506531ca5a21fda8bc4e0d171837a4b9", func := "ephemeris/ephemerislaw1.NumeralReads", spec := "numeralReads", inPlace := ["internal/abi.NoEscape"], named := ["ephemeris/numeral.zeros", "strconv.ErrSyntax", "strconv.ErrRange", "internal/strconv.uint64pow10", "math/bits.deBruijn32tab", "math/bits.deBruijn64tab", "ephemeris/numeral.ten", "ephemeris/numeral.places", "ephemeris/numeral.letters", "ephemeris/numeral.roman"], apart := false, laid := [("math/bits.deBruijn32tab", laid_math_bits_deBruijn32tab), ("math/bits.deBruijn64tab", laid_math_bits_deBruijn64tab), ("internal/strconv.uint64pow10", laid_internal_strconv_uint64pow10), ("strconv.ErrRange", laid_strconv_ErrRange), ("strconv.ErrSyntax", laid_strconv_ErrSyntax), ("ephemeris/numeral.zeros", laid_ephemeris_numeral_zeros), ("ephemeris/numeral.roman", laid_ephemeris_numeral_roman), ("ephemeris/numeral.letters", laid_ephemeris_numeral_letters), ("ephemeris/numeral.ten", laid_ephemeris_numeral_ten), ("ephemeris/numeral.places", laid_ephemeris_numeral_places)] }
def NumeralReadsSaid : Prop := numeralReadsRow.holds Tryd.pinned (OpenSpec.ofChange numeralReadsSpec)

/-- ITS FALSE NEIGHBOUR: 'it returns false'. Refute it at one input. -/
def numeralReadsWrong : ChangeSpec := { name := "numeralReads", fn := fun _ => fun
  | [d1, d2] => { results := [.lit (.bool false)], args := [d1, d2] }
  | _ => none }
def NumeralReadsWrongFalsely : Prop := numeralReadsRow.holds Tryd.pinned (OpenSpec.ofChange numeralReadsWrong)

/-- 'ephemerislaw1.SpanChecks': WHATEVER THE INPUT: true; the input reads as it did. -/
def spanChecksSpec : ChangeSpec := { name := "spanChecks", fn := fun _ => fun
  | [d1, d2] => { results := [.lit (.bool true)], args := [d1, d2] }
  | _ => none }
def spanChecksRow : OpenClaim := { program := "ytcmanidhilkhnaadoor", sum := "a9cfcf015236256a281280625c7ecc8a506531ca5a21fda8bc4e0d171837a4b9", func := "ephemeris/ephemerislaw1.SpanChecks", spec := "spanChecks", inPlace := ["internal/abi.NoEscape", "internal/bytealg.MakeNoZero", "internal/bytealg.CountString", "internal/bytealg.IndexByteString", "internal/bytealg.IndexString"], named := ["internal/strconv.uint64pow10", "math/bits.deBruijn32tab", "math/bits.deBruijn64tab", "unicode/utf8.first", "unicode/utf8.acceptRanges", "internal/bytealg.MaxLen", "strconv.ErrSyntax", "strconv.ErrRange"], apart := false, laid := [("math/bits.deBruijn32tab", laid_math_bits_deBruijn32tab), ("math/bits.deBruijn64tab", laid_math_bits_deBruijn64tab), ("internal/strconv.uint64pow10", laid_internal_strconv_uint64pow10), ("unicode/utf8.acceptRanges", laid_unicode_utf8_acceptRanges), ("strconv.ErrRange", laid_strconv_ErrRange), ("strconv.ErrSyntax", laid_strconv_ErrSyntax), ("unicode/utf8.first", laid_unicode_utf8_first)] }
def SpanChecksSaid : Prop := spanChecksRow.holds Tryd.pinned (OpenSpec.ofChange spanChecksSpec)

/-- ITS FALSE NEIGHBOUR: 'it returns false'. Refute it at one input. -/
def spanChecksWrong : ChangeSpec := { name := "spanChecks", fn := fun _ => fun
  | [d1, d2] => { results := [.lit (.bool false)], args := [d1, d2] }
  | _ => none }
def SpanChecksWrongFalsely : Prop := spanChecksRow.holds Tryd.pinned (OpenSpec.ofChange spanChecksWrong)

/-- 'ephemerislaw1.RecurTexts': WHATEVER THE INPUT: true; the input reads as it did. -/
def recurTextsSpec : ChangeSpec := { name := "recurTexts", fn := fun _ => fun
  | [d1, d2] => { results := [.lit (.bool true)], args := [d1, d2] }
  | _ => none }
def recurTextsRow : OpenClaim := { program := "ytcmanidhilkhnaadoor", sum := "a9cfcf015236256a281280625c7ecc8a506531ca5a21fda8bc4e0d171837a4b9", func := "ephemeris/ephemerislaw1.RecurTexts", spec := "recurTexts", inPlace := ["internal/bytealg.CountString", "internal/bytealg.IndexByteString", "internal/bytealg.IndexString"], unfollowed := true, recurses := true, named := ["unicode/utf8.first", "unicode/utf8.acceptRanges", "internal/bytealg.MaxLen", "strconv.ErrSyntax", "strconv.ErrRange", "internal/strconv.uint64pow10", "math/bits.deBruijn32tab", "math/bits.deBruijn64tab"], apart := false, laid := [("math/bits.deBruijn32tab", laid_math_bits_deBruijn32tab), ("math/bits.deBruijn64tab", laid_math_bits_deBruijn64tab), ("internal/strconv.uint64pow10", laid_internal_strconv_uint64pow10), ("unicode/utf8.acceptRanges", laid_unicode_utf8_acceptRanges), ("strconv.ErrRange", laid_strconv_ErrRange), ("strconv.ErrSyntax", laid_strconv_ErrSyntax), ("unicode/utf8.first", laid_unicode_utf8_first)] }
def RecurTextsSaid : Prop := recurTextsRow.holds Tryd.pinned (OpenSpec.ofChange recurTextsSpec)

/-- ITS FALSE NEIGHBOUR: 'it returns false'. Refute it at one input. -/
def recurTextsWrong : ChangeSpec := { name := "recurTexts", fn := fun _ => fun
  | [d1, d2] => { results := [.lit (.bool false)], args := [d1, d2] }
  | _ => none }
def RecurTextsWrongFalsely : Prop := recurTextsRow.holds Tryd.pinned (OpenSpec.ofChange recurTextsWrong)

/-- 'ephemerislaw1.ZonetextApplies': WHATEVER THE INPUT: true; the input reads as it did. -/
def zonetextAppliesSpec : ChangeSpec := { name := "zonetextApplies", fn := fun _ => fun
  | [d1, d2] => { results := [.lit (.bool true)], args := [d1, d2] }
  | _ => none }
def zonetextAppliesRow : OpenClaim := { program := "ytcmanidhilkhnaadoor", sum := "a9cfcf015236256a281280625c7ecc8a506531ca5a21fda8bc4e0d171837a4b9", func := "ephemeris/ephemerislaw1.ZonetextApplies", spec := "zonetextApplies", inPlace := ["slices.overlaps[ephemeris/api.ZoneChange]", "internal/bytealg.IndexByteString", "internal/bytealg.IndexString"], named := ["unicode/utf8.first", "unicode/utf8.acceptRanges", "internal/bytealg.MaxLen"], apart := false, laid := [("unicode/utf8.acceptRanges", laid_unicode_utf8_acceptRanges), ("unicode/utf8.first", laid_unicode_utf8_first)] }
def ZonetextAppliesSaid : Prop := zonetextAppliesRow.holds Tryd.pinned (OpenSpec.ofChange zonetextAppliesSpec)

/-- ITS FALSE NEIGHBOUR: 'it returns false'. Refute it at one input. -/
def zonetextAppliesWrong : ChangeSpec := { name := "zonetextApplies", fn := fun _ => fun
  | [d1, d2] => { results := [.lit (.bool false)], args := [d1, d2] }
  | _ => none }
def ZonetextAppliesWrongFalsely : Prop := zonetextAppliesRow.holds Tryd.pinned (OpenSpec.ofChange zonetextAppliesWrong)

/-- 'ephemerislaw1.RulePrints': WHATEVER THE INPUT: true; the input reads as it did. -/
def rulePrintsSpec : ChangeSpec := { name := "rulePrints", fn := fun _ => fun
  | [d] => { results := [.lit (.bool true)], args := [d] }
  | _ => none }
def rulePrintsRow : OpenClaim := { program := "ytcmanidhilkhnaadoor", sum := "a9cfcf015236256a281280625c7ecc8a506531ca5a21fda8bc4e0d171837a4b9", func := "ephemeris/ephemerislaw1.RulePrints", spec := "rulePrints", inPlace := ["internal/abi.NoEscape", "internal/bytealg.MakeNoZero"], unfollowed := true, recurses := true, named := ["ephemeris/rule.kids", "internal/strconv.uint64pow10", "math/bits.deBruijn32tab", "math/bits.deBruijn64tab", "ephemeris/rule.levels", "ephemeris/rule.signs"], loops := true, apart := false, laid := [("math/bits.deBruijn32tab", laid_math_bits_deBruijn32tab), ("math/bits.deBruijn64tab", laid_math_bits_deBruijn64tab), ("internal/strconv.uint64pow10", laid_internal_strconv_uint64pow10), ("ephemeris/rule.kids", laid_ephemeris_rule_kids), ("ephemeris/rule.levels", laid_ephemeris_rule_levels), ("ephemeris/rule.signs", laid_ephemeris_rule_signs)] }
def RulePrintsSaid : Prop := rulePrintsRow.holds Tryd.pinned (OpenSpec.ofChange rulePrintsSpec)

/-- ITS FALSE NEIGHBOUR: 'it returns false'. Refute it at one input. -/
def rulePrintsWrong : ChangeSpec := { name := "rulePrints", fn := fun _ => fun
  | [d] => { results := [.lit (.bool false)], args := [d] }
  | _ => none }
def RulePrintsWrongFalsely : Prop := rulePrintsRow.holds Tryd.pinned (OpenSpec.ofChange rulePrintsWrong)

/- THE SECOND FORM. 'bulk': how many values and letters a reading holds, each counted each time it is reached (what is shared counts as often as it is met; a slice's spare places count too). A statement '..UptoSaid' is the law's where the arguments, and the package variables that the reading takes, are together of bulk at most 1048576: NARROWER than '..Said'. Prove '..Said' where nothing that the law and all that it calls make is longer than what came in: it says more and counts as full. Else prove '..UptoSaid'. A law counts once. -/
mutual
def uptoBulk {H : Type} : DataW H → Nat
  | .lit (.string bytes) => bytes.length + 1
  | .lit _ => 1
  | .nil => 1
  | .ptr d => uptoBulk d + 1
  | .slice elems spare => uptoBulkAll elems + uptoBulkAll spare + 1
  | .agg parts => uptoBulkAll parts + 1
  | .iface _ d => uptoBulk d + 1
  | .map entries => uptoBulkEntries entries + 1
  | .held _ => 1
def uptoBulkAll {H : Type} : List (DataW H) → Nat
  | [] => 0
  | d :: r => uptoBulk d + uptoBulkAll r
def uptoBulkEntries {H : Type} : List (Lit × DataW H) → Nat
  | [] => 0
  | x :: r => uptoBulkEntry x + uptoBulkEntries r
def uptoBulkEntry {H : Type} : Lit × DataW H → Nat
  | (.string bytes, d) => bytes.length + uptoBulk d + 1
  | (_, d) => uptoBulk d + 1
 end
def uptoSmall : (H : Type) → List (DataW H) → Bool := fun _ ds => decide (uptoBulkAll ds ≤ 1048576)
def OpenSpec.upto (s : _root_.Go.ChangeSpec) : _root_.Go.OpenSpec := { _root_.Go.OpenSpec.ofChange s with cond := some uptoSmall }

/-- 'ephemerislaw1.PatternChecks', WHERE WHAT IT READS IS OF BULK AT MOST 1048576: true; the input reads as it did. -/
def patternChecksUptoRow : OpenClaim := { program := "ytcmanidhilkhnaadoor", sum := "a9cfcf015236256a281280625c7ecc8a506531ca5a21fda8bc4e0d171837a4b9", func := "ephemeris/ephemerislaw1.PatternChecks", spec := "patternChecks", inPlace := ["internal/bytealg.IndexByteString", "internal/bytealg.IndexString"], named := ["ephemeris/pattern.names", "internal/bytealg.MaxLen"], apart := false, laid := [("ephemeris/pattern.names", laid_ephemeris_pattern_names)], narrowed := true }
def PatternChecksUptoSaid : Prop := patternChecksUptoRow.holds Tryd.pinned (OpenSpec.upto patternChecksSpec)

/-- 'ephemerislaw1.NumeralWrites', WHERE WHAT IT READS IS OF BULK AT MOST 1048576: true; the input reads as it did. -/
def numeralWritesUptoRow : OpenClaim := { program := "ytcmanidhilkhnaadoor", sum := "a9cfcf015236256a281280625c7ecc8a506531ca5a21fda8bc4e0d171837a4b9", func := "ephemeris/ephemerislaw1.NumeralWrites", spec := "numeralWrites", inPlace := ["internal/abi.NoEscape"], named := ["ephemeris/numeral.ten", "ephemeris/numeral.places", "ephemeris/numeral.roman", "ephemeris/numeral.letters", "internal/strconv.uint64pow10", "math/bits.deBruijn32tab", "math/bits.deBruijn64tab", "ephemeris/numeral.zeros"], apart := false, laid := [("math/bits.deBruijn32tab", laid_math_bits_deBruijn32tab), ("math/bits.deBruijn64tab", laid_math_bits_deBruijn64tab), ("internal/strconv.uint64pow10", laid_internal_strconv_uint64pow10), ("ephemeris/numeral.zeros", laid_ephemeris_numeral_zeros), ("ephemeris/numeral.roman", laid_ephemeris_numeral_roman), ("ephemeris/numeral.letters", laid_ephemeris_numeral_letters), ("ephemeris/numeral.ten", laid_ephemeris_numeral_ten), ("ephemeris/numeral.places", laid_ephemeris_numeral_places)], narrowed := true }
def NumeralWritesUptoSaid : Prop := numeralWritesUptoRow.holds Tryd.pinned (OpenSpec.upto numeralWritesSpec)

/-- 'ephemerislaw1.NumeralPads', WHERE WHAT IT READS IS OF BULK AT MOST 1048576: true; the input reads as it did. -/
def numeralPadsUptoRow : OpenClaim := { program := "ytcmanidhilkhnaadoor", sum := "a9cfcf015236256a281280625c7ecc8a506531ca5a21fda8bc4e0d171837a4b9", func := "ephemeris/ephemerislaw1.NumeralPads", spec := "numeralPads", inPlace := ["internal/abi.NoEscape", "internal/bytealg.MakeNoZero"], named := ["internal/strconv.uint64pow10", "math/bits.deBruijn32tab", "math/bits.deBruijn64tab", "ephemeris/numeral.zeros"], apart := false, laid := [("math/bits.deBruijn32tab", laid_math_bits_deBruijn32tab), ("math/bits.deBruijn64tab", laid_math_bits_deBruijn64tab), ("internal/strconv.uint64pow10", laid_internal_strconv_uint64pow10), ("ephemeris/numeral.zeros", laid_ephemeris_numeral_zeros)], narrowed := true }
def NumeralPadsUptoSaid : Prop := numeralPadsUptoRow.holds Tryd.pinned (OpenSpec.upto numeralPadsSpec)

/-- 'ephemerislaw1.NumeralReads', WHERE WHAT IT READS IS OF BULK AT MOST 1048576: true; the input reads as it did. -/
def numeralReadsUptoRow : OpenClaim := { program := "ytcmanidhilkhnaadoor", sum := "a9cfcf015236256a281280625c7ecc8a506531ca5a21fda8bc4e0d171837a4b9", func := "ephemeris/ephemerislaw1.NumeralReads", spec := "numeralReads", inPlace := ["internal/abi.NoEscape"], named := ["ephemeris/numeral.zeros", "strconv.ErrSyntax", "strconv.ErrRange", "internal/strconv.uint64pow10", "math/bits.deBruijn32tab", "math/bits.deBruijn64tab", "ephemeris/numeral.ten", "ephemeris/numeral.places", "ephemeris/numeral.letters", "ephemeris/numeral.roman"], apart := false, laid := [("math/bits.deBruijn32tab", laid_math_bits_deBruijn32tab), ("math/bits.deBruijn64tab", laid_math_bits_deBruijn64tab), ("internal/strconv.uint64pow10", laid_internal_strconv_uint64pow10), ("strconv.ErrRange", laid_strconv_ErrRange), ("strconv.ErrSyntax", laid_strconv_ErrSyntax), ("ephemeris/numeral.zeros", laid_ephemeris_numeral_zeros), ("ephemeris/numeral.roman", laid_ephemeris_numeral_roman), ("ephemeris/numeral.letters", laid_ephemeris_numeral_letters), ("ephemeris/numeral.ten", laid_ephemeris_numeral_ten), ("ephemeris/numeral.places", laid_ephemeris_numeral_places)], narrowed := true }
def NumeralReadsUptoSaid : Prop := numeralReadsUptoRow.holds Tryd.pinned (OpenSpec.upto numeralReadsSpec)

/-- 'ephemerislaw1.SpanChecks', WHERE WHAT IT READS IS OF BULK AT MOST 1048576: true; the input reads as it did. -/
def spanChecksUptoRow : OpenClaim := { program := "ytcmanidhilkhnaadoor", sum := "a9cfcf015236256a281280625c7ecc8a506531ca5a21fda8bc4e0d171837a4b9", func := "ephemeris/ephemerislaw1.SpanChecks", spec := "spanChecks", inPlace := ["internal/abi.NoEscape", "internal/bytealg.MakeNoZero", "internal/bytealg.CountString", "internal/bytealg.IndexByteString", "internal/bytealg.IndexString"], named := ["internal/strconv.uint64pow10", "math/bits.deBruijn32tab", "math/bits.deBruijn64tab", "unicode/utf8.first", "unicode/utf8.acceptRanges", "internal/bytealg.MaxLen", "strconv.ErrSyntax", "strconv.ErrRange"], apart := false, laid := [("math/bits.deBruijn32tab", laid_math_bits_deBruijn32tab), ("math/bits.deBruijn64tab", laid_math_bits_deBruijn64tab), ("internal/strconv.uint64pow10", laid_internal_strconv_uint64pow10), ("unicode/utf8.acceptRanges", laid_unicode_utf8_acceptRanges), ("strconv.ErrRange", laid_strconv_ErrRange), ("strconv.ErrSyntax", laid_strconv_ErrSyntax), ("unicode/utf8.first", laid_unicode_utf8_first)], narrowed := true }
def SpanChecksUptoSaid : Prop := spanChecksUptoRow.holds Tryd.pinned (OpenSpec.upto spanChecksSpec)

/-- 'ephemerislaw1.RecurTexts', WHERE WHAT IT READS IS OF BULK AT MOST 1048576: true; the input reads as it did. -/
def recurTextsUptoRow : OpenClaim := { program := "ytcmanidhilkhnaadoor", sum := "a9cfcf015236256a281280625c7ecc8a506531ca5a21fda8bc4e0d171837a4b9", func := "ephemeris/ephemerislaw1.RecurTexts", spec := "recurTexts", inPlace := ["internal/bytealg.CountString", "internal/bytealg.IndexByteString", "internal/bytealg.IndexString"], unfollowed := true, recurses := true, named := ["unicode/utf8.first", "unicode/utf8.acceptRanges", "internal/bytealg.MaxLen", "strconv.ErrSyntax", "strconv.ErrRange", "internal/strconv.uint64pow10", "math/bits.deBruijn32tab", "math/bits.deBruijn64tab"], apart := false, laid := [("math/bits.deBruijn32tab", laid_math_bits_deBruijn32tab), ("math/bits.deBruijn64tab", laid_math_bits_deBruijn64tab), ("internal/strconv.uint64pow10", laid_internal_strconv_uint64pow10), ("unicode/utf8.acceptRanges", laid_unicode_utf8_acceptRanges), ("strconv.ErrRange", laid_strconv_ErrRange), ("strconv.ErrSyntax", laid_strconv_ErrSyntax), ("unicode/utf8.first", laid_unicode_utf8_first)], narrowed := true }
def RecurTextsUptoSaid : Prop := recurTextsUptoRow.holds Tryd.pinned (OpenSpec.upto recurTextsSpec)

/-- 'ephemerislaw1.ZonetextApplies', WHERE WHAT IT READS IS OF BULK AT MOST 1048576: true; the input reads as it did. -/
def zonetextAppliesUptoRow : OpenClaim := { program := "ytcmanidhilkhnaadoor", sum := "a9cfcf015236256a281280625c7ecc8a506531ca5a21fda8bc4e0d171837a4b9", func := "ephemeris/ephemerislaw1.ZonetextApplies", spec := "zonetextApplies", inPlace := ["slices.overlaps[ephemeris/api.ZoneChange]", "internal/bytealg.IndexByteString", "internal/bytealg.IndexString"], named := ["unicode/utf8.first", "unicode/utf8.acceptRanges", "internal/bytealg.MaxLen"], apart := false, laid := [("unicode/utf8.acceptRanges", laid_unicode_utf8_acceptRanges), ("unicode/utf8.first", laid_unicode_utf8_first)], narrowed := true }
def ZonetextAppliesUptoSaid : Prop := zonetextAppliesUptoRow.holds Tryd.pinned (OpenSpec.upto zonetextAppliesSpec)

/-- 'ephemerislaw1.RulePrints', WHERE WHAT IT READS IS OF BULK AT MOST 1048576: true; the input reads as it did. -/
def rulePrintsUptoRow : OpenClaim := { program := "ytcmanidhilkhnaadoor", sum := "a9cfcf015236256a281280625c7ecc8a506531ca5a21fda8bc4e0d171837a4b9", func := "ephemeris/ephemerislaw1.RulePrints", spec := "rulePrints", inPlace := ["internal/abi.NoEscape", "internal/bytealg.MakeNoZero"], unfollowed := true, recurses := true, named := ["ephemeris/rule.kids", "internal/strconv.uint64pow10", "math/bits.deBruijn32tab", "math/bits.deBruijn64tab", "ephemeris/rule.levels", "ephemeris/rule.signs"], loops := true, apart := false, laid := [("math/bits.deBruijn32tab", laid_math_bits_deBruijn32tab), ("math/bits.deBruijn64tab", laid_math_bits_deBruijn64tab), ("internal/strconv.uint64pow10", laid_internal_strconv_uint64pow10), ("ephemeris/rule.kids", laid_ephemeris_rule_kids), ("ephemeris/rule.levels", laid_ephemeris_rule_levels), ("ephemeris/rule.signs", laid_ephemeris_rule_signs)], narrowed := true }
def RulePrintsUptoSaid : Prop := rulePrintsUptoRow.holds Tryd.pinned (OpenSpec.upto rulePrintsSpec)

end Rows
end Go.Proofs.YtcmanidhilkhnaaDoor
