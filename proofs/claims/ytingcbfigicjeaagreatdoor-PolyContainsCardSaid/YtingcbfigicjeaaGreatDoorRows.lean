/-
  NARROWER THAN 'FOR EVERY INPUT', by the rows' own cells (each row's printed sentence says how): PolyShifts: laid · PolyBytes: laid · PolyDigits: laid · PolyGrads: laid · PolySums: laid · PolyEncloses: laid · PolyContains: laid.
  DERIVED. THE GIVEN ROWS OF THIS SEAT. 7 by the template 'for every input the law returns true; each argument reads behind the call as it read before'; 0 by the template 'total and deterministic' (their statements: YtingcbfigicjeaaGreatDoorTotals.lean).
  GIVEN WITH THE SEED: the statements are not yours to turn. If you find one false, say at which input.
  Laid BY PROGRAM, IN A SANDBOX (cutbox-rows.mjs): the forced cells as the released guide's own fill.sh prints them over the translation 138ba8c315032580… (all of the seat's roots in one cut). By AI agents, Wed Nov 11 2026. No macro, syntax, notation, axiom, sorry.
-/
import Derived.Test.YtingcbfigicjeaaGreatDoorChecked
import GoSem.PinnedTables
import GoSem.Claim
import GoSem.ClaimJoined
import GoSem.ClaimMapViews
import Derived.JoinedTies
import Derived.KernelRfl
namespace Go.Proofs.YtingcbfigicjeaaGreatDoor
/- THE CELL 'sum', in the pinned program and in every row, IS THE sha256 OF THE DUMP (.gsa) THAT YtingcbfigicjeaaGreatDoorProg.lean LOADS. Nothing in Lean hashes anything: it is a label: what it is worth is what the hold of that sum in a sandbox is worth. -/
noncomputable def Tryz.pinned : Pinned := { name := "ytingcbfigicjeaagreatdoor", sum := "138ba8c315032580c22860ce0ef1da40460dc842b3c592fb749e76ff15cb39d2", checked := Tryz.checked }
namespace Rows
def none {H : Type} : Left H := { results := [], args := [] }

/- WHAT THE LISTED PACKAGE-LEVEL VARIABLES READ AS WHEN THE CALL BEGINS. Each datum BY PROGRAM (the guide's laid-datum.mjs) off the statement by which the dump's own 'gosem.cut.vars' lays the variable. In a bare row this is a premise. The card (YtingcbfigicjeaaGreatDoorCards.lean) ties it to the program's text. -/
def laid_math_bits_deBruijn32tab {H : Type} : DataW H := .agg [.lit (.int .u8 0), .lit (.int .u8 1), .lit (.int .u8 28), .lit (.int .u8 2), .lit (.int .u8 29), .lit (.int .u8 14), .lit (.int .u8 24), .lit (.int .u8 3), .lit (.int .u8 30), .lit (.int .u8 22), .lit (.int .u8 20), .lit (.int .u8 15), .lit (.int .u8 25), .lit (.int .u8 17), .lit (.int .u8 4), .lit (.int .u8 8), .lit (.int .u8 31), .lit (.int .u8 27), .lit (.int .u8 13), .lit (.int .u8 23), .lit (.int .u8 21), .lit (.int .u8 19), .lit (.int .u8 16), .lit (.int .u8 7), .lit (.int .u8 26), .lit (.int .u8 12), .lit (.int .u8 18), .lit (.int .u8 6), .lit (.int .u8 11), .lit (.int .u8 5), .lit (.int .u8 10), .lit (.int .u8 9)]
def laid_math_bits_deBruijn64tab {H : Type} : DataW H := .agg [.lit (.int .u8 0), .lit (.int .u8 1), .lit (.int .u8 56), .lit (.int .u8 2), .lit (.int .u8 57), .lit (.int .u8 49), .lit (.int .u8 28), .lit (.int .u8 3), .lit (.int .u8 61), .lit (.int .u8 58), .lit (.int .u8 42), .lit (.int .u8 50), .lit (.int .u8 38), .lit (.int .u8 29), .lit (.int .u8 17), .lit (.int .u8 4), .lit (.int .u8 62), .lit (.int .u8 47), .lit (.int .u8 59), .lit (.int .u8 36), .lit (.int .u8 45), .lit (.int .u8 43), .lit (.int .u8 51), .lit (.int .u8 22), .lit (.int .u8 53), .lit (.int .u8 39), .lit (.int .u8 33), .lit (.int .u8 30), .lit (.int .u8 24), .lit (.int .u8 18), .lit (.int .u8 12), .lit (.int .u8 5), .lit (.int .u8 63), .lit (.int .u8 55), .lit (.int .u8 48), .lit (.int .u8 27), .lit (.int .u8 60), .lit (.int .u8 41), .lit (.int .u8 37), .lit (.int .u8 16), .lit (.int .u8 46), .lit (.int .u8 35), .lit (.int .u8 44), .lit (.int .u8 21), .lit (.int .u8 52), .lit (.int .u8 32), .lit (.int .u8 23), .lit (.int .u8 11), .lit (.int .u8 54), .lit (.int .u8 26), .lit (.int .u8 40), .lit (.int .u8 15), .lit (.int .u8 34), .lit (.int .u8 20), .lit (.int .u8 31), .lit (.int .u8 10), .lit (.int .u8 25), .lit (.int .u8 14), .lit (.int .u8 19), .lit (.int .u8 9), .lit (.int .u8 13), .lit (.int .u8 8), .lit (.int .u8 7), .lit (.int .u8 6)]
def laid_internal_strconv_uint64pow10 {H : Type} : DataW H := .agg [.lit (.int .u64 1), .lit (.int .u64 10), .lit (.int .u64 100), .lit (.int .u64 1000), .lit (.int .u64 10000), .lit (.int .u64 100000), .lit (.int .u64 1000000), .lit (.int .u64 10000000), .lit (.int .u64 100000000), .lit (.int .u64 1000000000), .lit (.int .u64 10000000000), .lit (.int .u64 100000000000), .lit (.int .u64 1000000000000), .lit (.int .u64 10000000000000), .lit (.int .u64 100000000000000), .lit (.int .u64 1000000000000000), .lit (.int .u64 10000000000000000), .lit (.int .u64 100000000000000000), .lit (.int .u64 1000000000000000000), .lit (.int .u64 10000000000000000000)]
def laid_skymosaic_poly_monomials {H : Type} : DataW H := .agg [.agg [.lit (.int .i64 0), .lit (.int .i64 0), .lit (.int .i64 0)], .agg [.lit (.int .i64 1), .lit (.int .i64 0), .lit (.int .i64 0)], .agg [.lit (.int .i64 0), .lit (.int .i64 1), .lit (.int .i64 0)], .agg [.lit (.int .i64 0), .lit (.int .i64 0), .lit (.int .i64 1)], .agg [.lit (.int .i64 2), .lit (.int .i64 0), .lit (.int .i64 0)], .agg [.lit (.int .i64 1), .lit (.int .i64 1), .lit (.int .i64 0)], .agg [.lit (.int .i64 1), .lit (.int .i64 0), .lit (.int .i64 1)], .agg [.lit (.int .i64 0), .lit (.int .i64 2), .lit (.int .i64 0)], .agg [.lit (.int .i64 0), .lit (.int .i64 1), .lit (.int .i64 1)], .agg [.lit (.int .i64 0), .lit (.int .i64 0), .lit (.int .i64 2)], .agg [.lit (.int .i64 3), .lit (.int .i64 0), .lit (.int .i64 0)], .agg [.lit (.int .i64 2), .lit (.int .i64 1), .lit (.int .i64 0)], .agg [.lit (.int .i64 2), .lit (.int .i64 0), .lit (.int .i64 1)], .agg [.lit (.int .i64 1), .lit (.int .i64 2), .lit (.int .i64 0)], .agg [.lit (.int .i64 1), .lit (.int .i64 1), .lit (.int .i64 1)], .agg [.lit (.int .i64 1), .lit (.int .i64 0), .lit (.int .i64 2)], .agg [.lit (.int .i64 0), .lit (.int .i64 3), .lit (.int .i64 0)], .agg [.lit (.int .i64 0), .lit (.int .i64 2), .lit (.int .i64 1)], .agg [.lit (.int .i64 0), .lit (.int .i64 1), .lit (.int .i64 2)], .agg [.lit (.int .i64 0), .lit (.int .i64 0), .lit (.int .i64 3)]]
def laid_skymosaic_poly_choose {H : Type} : DataW H := .agg [.agg [.lit (.int .i64 1), .lit (.int .i64 0), .lit (.int .i64 0), .lit (.int .i64 0)], .agg [.lit (.int .i64 1), .lit (.int .i64 1), .lit (.int .i64 0), .lit (.int .i64 0)], .agg [.lit (.int .i64 1), .lit (.int .i64 2), .lit (.int .i64 1), .lit (.int .i64 0)], .agg [.lit (.int .i64 1), .lit (.int .i64 3), .lit (.int .i64 3), .lit (.int .i64 1)]]
def laid_unicode_utf8_acceptRanges {H : Type} : DataW H := .agg [.agg [.lit (.int .u8 128), .lit (.int .u8 191)], .agg [.lit (.int .u8 160), .lit (.int .u8 191)], .agg [.lit (.int .u8 128), .lit (.int .u8 159)], .agg [.lit (.int .u8 144), .lit (.int .u8 191)], .agg [.lit (.int .u8 128), .lit (.int .u8 143)], .agg [.lit (.int .u8 0), .lit (.int .u8 0)], .agg [.lit (.int .u8 0), .lit (.int .u8 0)], .agg [.lit (.int .u8 0), .lit (.int .u8 0)], .agg [.lit (.int .u8 0), .lit (.int .u8 0)], .agg [.lit (.int .u8 0), .lit (.int .u8 0)], .agg [.lit (.int .u8 0), .lit (.int .u8 0)], .agg [.lit (.int .u8 0), .lit (.int .u8 0)], .agg [.lit (.int .u8 0), .lit (.int .u8 0)], .agg [.lit (.int .u8 0), .lit (.int .u8 0)], .agg [.lit (.int .u8 0), .lit (.int .u8 0)], .agg [.lit (.int .u8 0), .lit (.int .u8 0)]]
def laid_strconv_ErrRange {H : Type} : DataW H := .iface "*errors.errorString" (.ptr (.agg [.lit (.string [118, 97, 108, 117, 101, 32, 111, 117, 116, 32, 111, 102, 32, 114, 97, 110, 103, 101])]))
def laid_strconv_ErrSyntax {H : Type} : DataW H := .iface "*errors.errorString" (.ptr (.agg [.lit (.string [105, 110, 118, 97, 108, 105, 100, 32, 115, 121, 110, 116, 97, 120])]))
/-- One of Go's own tables, pinned by name: the form's constant. -/
def laid_unicode_utf8_first : DataW Unit := Go.Pinned.utf8First
def laid_skymosaic_ival_down {H : Type} : DataW H := .iface "func table" (.agg [.iface "func" (.lit (.string [115, 107, 121, 109, 111, 115, 97, 105, 99, 47, 105, 118, 97, 108, 46, 102, 108, 111, 111, 114])), .iface "func" (.lit (.string [115, 107, 121, 109, 111, 115, 97, 105, 99, 47, 105, 118, 97, 108, 46, 100, 111, 119, 110, 36, 49]))])
def laid_skymosaic_ival_up {H : Type} : DataW H := .iface "func table" (.agg [.iface "func" (.lit (.string [115, 107, 121, 109, 111, 115, 97, 105, 99, 47, 105, 118, 97, 108, 46, 99, 101, 105, 108])), .iface "func" (.lit (.string [115, 107, 121, 109, 111, 115, 97, 105, 99, 47, 105, 118, 97, 108, 46, 117, 112, 36, 49]))])

/-- 'skymosaiclaw08.PolyShifts': WHATEVER THE INPUT: true; the input reads as it did. -/
def polyShiftsSpec : ChangeSpec := { name := "polyShifts", fn := fun _ => fun
  | [d1, d2, d3, d4, d5, d6] => { results := [.lit (.bool true)], args := [d1, d2, d3, d4, d5, d6] }
  | _ => none }
def polyShiftsRow : OpenClaim := { program := "ytingcbfigicjeaagreatdoor", sum := "138ba8c315032580c22860ce0ef1da40460dc842b3c592fb749e76ff15cb39d2", func := "skymosaic/skymosaiclaw08.PolyShifts", spec := "polyShifts", inPlace := ["internal/abi.NoEscape", "internal/bytealg.MakeNoZero"], unfollowed := true, recurses := true, named := ["skymosaic/poly.monomials", "skymosaic/poly.choose", "internal/strconv.uint64pow10", "math/bits.deBruijn32tab", "math/bits.deBruijn64tab"], apart := false, laid := [("math/bits.deBruijn32tab", laid_math_bits_deBruijn32tab), ("math/bits.deBruijn64tab", laid_math_bits_deBruijn64tab), ("internal/strconv.uint64pow10", laid_internal_strconv_uint64pow10), ("skymosaic/poly.monomials", laid_skymosaic_poly_monomials), ("skymosaic/poly.choose", laid_skymosaic_poly_choose)] }
def PolyShiftsSaid : Prop := polyShiftsRow.holds Tryz.pinned (OpenSpec.ofChange polyShiftsSpec)

/-- ITS FALSE NEIGHBOUR: 'it returns false'. Refute it at one input. -/
def polyShiftsWrong : ChangeSpec := { name := "polyShifts", fn := fun _ => fun
  | [d1, d2, d3, d4, d5, d6] => { results := [.lit (.bool false)], args := [d1, d2, d3, d4, d5, d6] }
  | _ => none }
def PolyShiftsWrongFalsely : Prop := polyShiftsRow.holds Tryz.pinned (OpenSpec.ofChange polyShiftsWrong)

/-- 'skymosaiclaw08.PolyBytes': WHATEVER THE INPUT: true; the input reads as it did. -/
def polyBytesSpec : ChangeSpec := { name := "polyBytes", fn := fun _ => fun
  | [d1, d2, d3, d4, d5] => { results := [.lit (.bool true)], args := [d1, d2, d3, d4, d5] }
  | _ => none }
def polyBytesRow : OpenClaim := { program := "ytingcbfigicjeaagreatdoor", sum := "138ba8c315032580c22860ce0ef1da40460dc842b3c592fb749e76ff15cb39d2", func := "skymosaic/skymosaiclaw08.PolyBytes", spec := "polyBytes", inPlace := ["internal/abi.NoEscape", "internal/bytealg.MakeNoZero"], unfollowed := true, recurses := true, named := ["skymosaic/poly.monomials", "skymosaic/poly.choose", "internal/strconv.uint64pow10", "math/bits.deBruijn32tab", "math/bits.deBruijn64tab"], apart := false, laid := [("math/bits.deBruijn32tab", laid_math_bits_deBruijn32tab), ("math/bits.deBruijn64tab", laid_math_bits_deBruijn64tab), ("internal/strconv.uint64pow10", laid_internal_strconv_uint64pow10), ("skymosaic/poly.monomials", laid_skymosaic_poly_monomials), ("skymosaic/poly.choose", laid_skymosaic_poly_choose)] }
def PolyBytesSaid : Prop := polyBytesRow.holds Tryz.pinned (OpenSpec.ofChange polyBytesSpec)

/-- ITS FALSE NEIGHBOUR: 'it returns false'. Refute it at one input. -/
def polyBytesWrong : ChangeSpec := { name := "polyBytes", fn := fun _ => fun
  | [d1, d2, d3, d4, d5] => { results := [.lit (.bool false)], args := [d1, d2, d3, d4, d5] }
  | _ => none }
def PolyBytesWrongFalsely : Prop := polyBytesRow.holds Tryz.pinned (OpenSpec.ofChange polyBytesWrong)

/-- 'skymosaiclaw08.PolyDigits': WHATEVER THE INPUT: true; the input reads as it did. -/
def polyDigitsSpec : ChangeSpec := { name := "polyDigits", fn := fun _ => fun
  | [d1, d2, d3] => { results := [.lit (.bool true)], args := [d1, d2, d3] }
  | _ => none }
def polyDigitsRow : OpenClaim := { program := "ytingcbfigicjeaagreatdoor", sum := "138ba8c315032580c22860ce0ef1da40460dc842b3c592fb749e76ff15cb39d2", func := "skymosaic/skymosaiclaw08.PolyDigits", spec := "polyDigits", inPlace := ["internal/bytealg.IndexByteString", "internal/bytealg.IndexString", "internal/abi.NoEscape", "internal/bytealg.MakeNoZero"], unfollowed := true, recurses := true, named := ["unicode/utf8.first", "unicode/utf8.acceptRanges", "strconv.ErrSyntax", "strconv.ErrRange", "internal/strconv.uint64pow10", "math/bits.deBruijn32tab", "math/bits.deBruijn64tab", "skymosaic/poly.monomials", "skymosaic/poly.choose", "internal/bytealg.MaxLen"], apart := false, laid := [("math/bits.deBruijn32tab", laid_math_bits_deBruijn32tab), ("math/bits.deBruijn64tab", laid_math_bits_deBruijn64tab), ("internal/strconv.uint64pow10", laid_internal_strconv_uint64pow10), ("unicode/utf8.acceptRanges", laid_unicode_utf8_acceptRanges), ("strconv.ErrRange", laid_strconv_ErrRange), ("strconv.ErrSyntax", laid_strconv_ErrSyntax), ("skymosaic/poly.monomials", laid_skymosaic_poly_monomials), ("skymosaic/poly.choose", laid_skymosaic_poly_choose), ("unicode/utf8.first", laid_unicode_utf8_first)] }
def PolyDigitsSaid : Prop := polyDigitsRow.holds Tryz.pinned (OpenSpec.ofChange polyDigitsSpec)

/-- ITS FALSE NEIGHBOUR: 'it returns false'. Refute it at one input. -/
def polyDigitsWrong : ChangeSpec := { name := "polyDigits", fn := fun _ => fun
  | [d1, d2, d3] => { results := [.lit (.bool false)], args := [d1, d2, d3] }
  | _ => none }
def PolyDigitsWrongFalsely : Prop := polyDigitsRow.holds Tryz.pinned (OpenSpec.ofChange polyDigitsWrong)

/-- 'skymosaiclaw08.PolyGrads': WHATEVER THE INPUT: true; the input reads as it did. -/
def polyGradsSpec : ChangeSpec := { name := "polyGrads", fn := fun _ => fun
  | [d1, d2, d3, d4] => { results := [.lit (.bool true)], args := [d1, d2, d3, d4] }
  | _ => none }
def polyGradsRow : OpenClaim := { program := "ytingcbfigicjeaagreatdoor", sum := "138ba8c315032580c22860ce0ef1da40460dc842b3c592fb749e76ff15cb39d2", func := "skymosaic/skymosaiclaw08.PolyGrads", spec := "polyGrads", inPlace := ["internal/bytealg.IndexByteString", "internal/bytealg.IndexString", "internal/abi.NoEscape", "internal/bytealg.MakeNoZero"], unfollowed := true, recurses := true, named := ["skymosaic/poly.monomials", "unicode/utf8.first", "unicode/utf8.acceptRanges", "strconv.ErrSyntax", "strconv.ErrRange", "internal/strconv.uint64pow10", "math/bits.deBruijn32tab", "math/bits.deBruijn64tab", "skymosaic/poly.choose", "internal/bytealg.MaxLen"], apart := false, laid := [("math/bits.deBruijn32tab", laid_math_bits_deBruijn32tab), ("math/bits.deBruijn64tab", laid_math_bits_deBruijn64tab), ("internal/strconv.uint64pow10", laid_internal_strconv_uint64pow10), ("unicode/utf8.acceptRanges", laid_unicode_utf8_acceptRanges), ("strconv.ErrRange", laid_strconv_ErrRange), ("strconv.ErrSyntax", laid_strconv_ErrSyntax), ("skymosaic/poly.monomials", laid_skymosaic_poly_monomials), ("skymosaic/poly.choose", laid_skymosaic_poly_choose), ("unicode/utf8.first", laid_unicode_utf8_first)] }
def PolyGradsSaid : Prop := polyGradsRow.holds Tryz.pinned (OpenSpec.ofChange polyGradsSpec)

/-- ITS FALSE NEIGHBOUR: 'it returns false'. Refute it at one input. -/
def polyGradsWrong : ChangeSpec := { name := "polyGrads", fn := fun _ => fun
  | [d1, d2, d3, d4] => { results := [.lit (.bool false)], args := [d1, d2, d3, d4] }
  | _ => none }
def PolyGradsWrongFalsely : Prop := polyGradsRow.holds Tryz.pinned (OpenSpec.ofChange polyGradsWrong)

/-- 'skymosaiclaw08.PolySums': WHATEVER THE INPUT: true; the input reads as it did. -/
def polySumsSpec : ChangeSpec := { name := "polySums", fn := fun _ => fun
  | [d1, d2, d3] => { results := [.lit (.bool true)], args := [d1, d2, d3] }
  | _ => none }
def polySumsRow : OpenClaim := { program := "ytingcbfigicjeaagreatdoor", sum := "138ba8c315032580c22860ce0ef1da40460dc842b3c592fb749e76ff15cb39d2", func := "skymosaic/skymosaiclaw08.PolySums", spec := "polySums", inPlace := ["internal/bytealg.IndexByteString", "internal/bytealg.IndexString", "internal/abi.NoEscape", "internal/bytealg.MakeNoZero"], unfollowed := true, recurses := true, named := ["unicode/utf8.first", "unicode/utf8.acceptRanges", "strconv.ErrSyntax", "strconv.ErrRange", "internal/strconv.uint64pow10", "math/bits.deBruijn32tab", "math/bits.deBruijn64tab", "skymosaic/poly.monomials", "skymosaic/poly.choose", "internal/bytealg.MaxLen"], apart := false, laid := [("math/bits.deBruijn32tab", laid_math_bits_deBruijn32tab), ("math/bits.deBruijn64tab", laid_math_bits_deBruijn64tab), ("internal/strconv.uint64pow10", laid_internal_strconv_uint64pow10), ("unicode/utf8.acceptRanges", laid_unicode_utf8_acceptRanges), ("strconv.ErrRange", laid_strconv_ErrRange), ("strconv.ErrSyntax", laid_strconv_ErrSyntax), ("skymosaic/poly.monomials", laid_skymosaic_poly_monomials), ("skymosaic/poly.choose", laid_skymosaic_poly_choose), ("unicode/utf8.first", laid_unicode_utf8_first)] }
def PolySumsSaid : Prop := polySumsRow.holds Tryz.pinned (OpenSpec.ofChange polySumsSpec)

/-- ITS FALSE NEIGHBOUR: 'it returns false'. Refute it at one input. -/
def polySumsWrong : ChangeSpec := { name := "polySums", fn := fun _ => fun
  | [d1, d2, d3] => { results := [.lit (.bool false)], args := [d1, d2, d3] }
  | _ => none }
def PolySumsWrongFalsely : Prop := polySumsRow.holds Tryz.pinned (OpenSpec.ofChange polySumsWrong)

/-- 'skymosaiclaw08.PolyEncloses': WHATEVER THE INPUT: true; the input reads as it did. -/
def polyEnclosesSpec : ChangeSpec := { name := "polyEncloses", fn := fun _ => fun
  | [d1, d2, d3, d4] => { results := [.lit (.bool true)], args := [d1, d2, d3, d4] }
  | _ => none }
def polyEnclosesRow : OpenClaim := { program := "ytingcbfigicjeaagreatdoor", sum := "138ba8c315032580c22860ce0ef1da40460dc842b3c592fb749e76ff15cb39d2", func := "skymosaic/skymosaiclaw08.PolyEncloses", spec := "polyEncloses", inPlace := ["internal/bytealg.IndexByteString", "internal/bytealg.IndexString", "internal/abi.NoEscape", "internal/bytealg.MakeNoZero"], unfollowed := true, recurses := true, named := ["unicode/utf8.first", "unicode/utf8.acceptRanges", "strconv.ErrSyntax", "strconv.ErrRange", "internal/strconv.uint64pow10", "math/bits.deBruijn32tab", "math/bits.deBruijn64tab", "skymosaic/ival.down", "skymosaic/ival.up", "skymosaic/poly.monomials", "skymosaic/poly.choose", "internal/bytealg.MaxLen"], apart := false, laid := [("math/bits.deBruijn32tab", laid_math_bits_deBruijn32tab), ("math/bits.deBruijn64tab", laid_math_bits_deBruijn64tab), ("internal/strconv.uint64pow10", laid_internal_strconv_uint64pow10), ("unicode/utf8.acceptRanges", laid_unicode_utf8_acceptRanges), ("strconv.ErrRange", laid_strconv_ErrRange), ("strconv.ErrSyntax", laid_strconv_ErrSyntax), ("skymosaic/ival.down", laid_skymosaic_ival_down), ("skymosaic/ival.up", laid_skymosaic_ival_up), ("skymosaic/poly.monomials", laid_skymosaic_poly_monomials), ("skymosaic/poly.choose", laid_skymosaic_poly_choose), ("unicode/utf8.first", laid_unicode_utf8_first)] }
def PolyEnclosesSaid : Prop := polyEnclosesRow.holds Tryz.pinned (OpenSpec.ofChange polyEnclosesSpec)

/-- ITS FALSE NEIGHBOUR: 'it returns false'. Refute it at one input. -/
def polyEnclosesWrong : ChangeSpec := { name := "polyEncloses", fn := fun _ => fun
  | [d1, d2, d3, d4] => { results := [.lit (.bool false)], args := [d1, d2, d3, d4] }
  | _ => none }
def PolyEnclosesWrongFalsely : Prop := polyEnclosesRow.holds Tryz.pinned (OpenSpec.ofChange polyEnclosesWrong)

/-- 'skymosaiclaw08.PolyContains': WHATEVER THE INPUT: true; the input reads as it did. -/
def polyContainsSpec : ChangeSpec := { name := "polyContains", fn := fun _ => fun
  | [d1, d2, d3] => { results := [.lit (.bool true)], args := [d1, d2, d3] }
  | _ => none }
def polyContainsRow : OpenClaim := { program := "ytingcbfigicjeaagreatdoor", sum := "138ba8c315032580c22860ce0ef1da40460dc842b3c592fb749e76ff15cb39d2", func := "skymosaic/skymosaiclaw08.PolyContains", spec := "polyContains", inPlace := ["internal/bytealg.IndexByteString", "internal/bytealg.IndexString", "internal/abi.NoEscape", "internal/bytealg.MakeNoZero"], unfollowed := true, recurses := true, named := ["unicode/utf8.first", "unicode/utf8.acceptRanges", "strconv.ErrSyntax", "strconv.ErrRange", "internal/strconv.uint64pow10", "math/bits.deBruijn32tab", "math/bits.deBruijn64tab", "skymosaic/ival.down", "skymosaic/ival.up", "skymosaic/poly.monomials", "skymosaic/poly.choose", "internal/bytealg.MaxLen"], apart := false, laid := [("math/bits.deBruijn32tab", laid_math_bits_deBruijn32tab), ("math/bits.deBruijn64tab", laid_math_bits_deBruijn64tab), ("internal/strconv.uint64pow10", laid_internal_strconv_uint64pow10), ("unicode/utf8.acceptRanges", laid_unicode_utf8_acceptRanges), ("strconv.ErrRange", laid_strconv_ErrRange), ("strconv.ErrSyntax", laid_strconv_ErrSyntax), ("skymosaic/ival.down", laid_skymosaic_ival_down), ("skymosaic/ival.up", laid_skymosaic_ival_up), ("skymosaic/poly.monomials", laid_skymosaic_poly_monomials), ("skymosaic/poly.choose", laid_skymosaic_poly_choose), ("unicode/utf8.first", laid_unicode_utf8_first)] }
def PolyContainsSaid : Prop := polyContainsRow.holds Tryz.pinned (OpenSpec.ofChange polyContainsSpec)

/-- ITS FALSE NEIGHBOUR: 'it returns false'. Refute it at one input. -/
def polyContainsWrong : ChangeSpec := { name := "polyContains", fn := fun _ => fun
  | [d1, d2, d3] => { results := [.lit (.bool false)], args := [d1, d2, d3] }
  | _ => none }
def PolyContainsWrongFalsely : Prop := polyContainsRow.holds Tryz.pinned (OpenSpec.ofChange polyContainsWrong)

/- THE SECOND FORM. 'bulk': how many values and letters a reading holds, each counted each time it is reached (what is shared counts as often as it is met; a slice's spare places count too). A statement '..UptoSaid' is the law's where the arguments, and the package variables that the reading takes, are together of bulk at most 1048576: NARROWER than '..Said'. Prove '..Said' where nothing that the law and all that it calls make is longer than what came in: it says more and counts as full. Else prove '..UptoSaid'. A law counts once. -/
mutual
def uptoBulk {H : Type} : DataW H → Nat
  | .lit (.string bytes) => bytes.length + 1
  | .lit _ => 1
  | .nil => 1
  | .ptr d => uptoBulk d + 1
  | .slice elems spare => uptoBulkAll elems + uptoBulkAll spare + 1
  | .agg parts => uptoBulkAll parts + 1
  | .iface _ d => uptoBulk d + 1
  | .map entries => uptoBulkEntries entries + 1
  | .held _ => 1
def uptoBulkAll {H : Type} : List (DataW H) → Nat
  | [] => 0
  | d :: r => uptoBulk d + uptoBulkAll r
def uptoBulkEntries {H : Type} : List (Lit × DataW H) → Nat
  | [] => 0
  | x :: r => uptoBulkEntry x + uptoBulkEntries r
def uptoBulkEntry {H : Type} : Lit × DataW H → Nat
  | (.string bytes, d) => bytes.length + uptoBulk d + 1
  | (_, d) => uptoBulk d + 1
 end
def uptoSmall : (H : Type) → List (DataW H) → Bool := fun _ ds => decide (uptoBulkAll ds ≤ 1048576)
def OpenSpec.upto (s : _root_.Go.ChangeSpec) : _root_.Go.OpenSpec := { _root_.Go.OpenSpec.ofChange s with cond := some uptoSmall }

/-- 'skymosaiclaw08.PolyShifts', WHERE WHAT IT READS IS OF BULK AT MOST 1048576: true; the input reads as it did. -/
def polyShiftsUptoRow : OpenClaim := { program := "ytingcbfigicjeaagreatdoor", sum := "138ba8c315032580c22860ce0ef1da40460dc842b3c592fb749e76ff15cb39d2", func := "skymosaic/skymosaiclaw08.PolyShifts", spec := "polyShifts", inPlace := ["internal/abi.NoEscape", "internal/bytealg.MakeNoZero"], unfollowed := true, recurses := true, named := ["skymosaic/poly.monomials", "skymosaic/poly.choose", "internal/strconv.uint64pow10", "math/bits.deBruijn32tab", "math/bits.deBruijn64tab"], apart := false, laid := [("math/bits.deBruijn32tab", laid_math_bits_deBruijn32tab), ("math/bits.deBruijn64tab", laid_math_bits_deBruijn64tab), ("internal/strconv.uint64pow10", laid_internal_strconv_uint64pow10), ("skymosaic/poly.monomials", laid_skymosaic_poly_monomials), ("skymosaic/poly.choose", laid_skymosaic_poly_choose)], narrowed := true }
def PolyShiftsUptoSaid : Prop := polyShiftsUptoRow.holds Tryz.pinned (OpenSpec.upto polyShiftsSpec)

/-- 'skymosaiclaw08.PolyBytes', WHERE WHAT IT READS IS OF BULK AT MOST 1048576: true; the input reads as it did. -/
def polyBytesUptoRow : OpenClaim := { program := "ytingcbfigicjeaagreatdoor", sum := "138ba8c315032580c22860ce0ef1da40460dc842b3c592fb749e76ff15cb39d2", func := "skymosaic/skymosaiclaw08.PolyBytes", spec := "polyBytes", inPlace := ["internal/abi.NoEscape", "internal/bytealg.MakeNoZero"], unfollowed := true, recurses := true, named := ["skymosaic/poly.monomials", "skymosaic/poly.choose", "internal/strconv.uint64pow10", "math/bits.deBruijn32tab", "math/bits.deBruijn64tab"], apart := false, laid := [("math/bits.deBruijn32tab", laid_math_bits_deBruijn32tab), ("math/bits.deBruijn64tab", laid_math_bits_deBruijn64tab), ("internal/strconv.uint64pow10", laid_internal_strconv_uint64pow10), ("skymosaic/poly.monomials", laid_skymosaic_poly_monomials), ("skymosaic/poly.choose", laid_skymosaic_poly_choose)], narrowed := true }
def PolyBytesUptoSaid : Prop := polyBytesUptoRow.holds Tryz.pinned (OpenSpec.upto polyBytesSpec)

/-- 'skymosaiclaw08.PolyDigits', WHERE WHAT IT READS IS OF BULK AT MOST 1048576: true; the input reads as it did. -/
def polyDigitsUptoRow : OpenClaim := { program := "ytingcbfigicjeaagreatdoor", sum := "138ba8c315032580c22860ce0ef1da40460dc842b3c592fb749e76ff15cb39d2", func := "skymosaic/skymosaiclaw08.PolyDigits", spec := "polyDigits", inPlace := ["internal/bytealg.IndexByteString", "internal/bytealg.IndexString", "internal/abi.NoEscape", "internal/bytealg.MakeNoZero"], unfollowed := true, recurses := true, named := ["unicode/utf8.first", "unicode/utf8.acceptRanges", "strconv.ErrSyntax", "strconv.ErrRange", "internal/strconv.uint64pow10", "math/bits.deBruijn32tab", "math/bits.deBruijn64tab", "skymosaic/poly.monomials", "skymosaic/poly.choose", "internal/bytealg.MaxLen"], apart := false, laid := [("math/bits.deBruijn32tab", laid_math_bits_deBruijn32tab), ("math/bits.deBruijn64tab", laid_math_bits_deBruijn64tab), ("internal/strconv.uint64pow10", laid_internal_strconv_uint64pow10), ("unicode/utf8.acceptRanges", laid_unicode_utf8_acceptRanges), ("strconv.ErrRange", laid_strconv_ErrRange), ("strconv.ErrSyntax", laid_strconv_ErrSyntax), ("skymosaic/poly.monomials", laid_skymosaic_poly_monomials), ("skymosaic/poly.choose", laid_skymosaic_poly_choose), ("unicode/utf8.first", laid_unicode_utf8_first)], narrowed := true }
def PolyDigitsUptoSaid : Prop := polyDigitsUptoRow.holds Tryz.pinned (OpenSpec.upto polyDigitsSpec)

/-- 'skymosaiclaw08.PolyGrads', WHERE WHAT IT READS IS OF BULK AT MOST 1048576: true; the input reads as it did. -/
def polyGradsUptoRow : OpenClaim := { program := "ytingcbfigicjeaagreatdoor", sum := "138ba8c315032580c22860ce0ef1da40460dc842b3c592fb749e76ff15cb39d2", func := "skymosaic/skymosaiclaw08.PolyGrads", spec := "polyGrads", inPlace := ["internal/bytealg.IndexByteString", "internal/bytealg.IndexString", "internal/abi.NoEscape", "internal/bytealg.MakeNoZero"], unfollowed := true, recurses := true, named := ["skymosaic/poly.monomials", "unicode/utf8.first", "unicode/utf8.acceptRanges", "strconv.ErrSyntax", "strconv.ErrRange", "internal/strconv.uint64pow10", "math/bits.deBruijn32tab", "math/bits.deBruijn64tab", "skymosaic/poly.choose", "internal/bytealg.MaxLen"], apart := false, laid := [("math/bits.deBruijn32tab", laid_math_bits_deBruijn32tab), ("math/bits.deBruijn64tab", laid_math_bits_deBruijn64tab), ("internal/strconv.uint64pow10", laid_internal_strconv_uint64pow10), ("unicode/utf8.acceptRanges", laid_unicode_utf8_acceptRanges), ("strconv.ErrRange", laid_strconv_ErrRange), ("strconv.ErrSyntax", laid_strconv_ErrSyntax), ("skymosaic/poly.monomials", laid_skymosaic_poly_monomials), ("skymosaic/poly.choose", laid_skymosaic_poly_choose), ("unicode/utf8.first", laid_unicode_utf8_first)], narrowed := true }
def PolyGradsUptoSaid : Prop := polyGradsUptoRow.holds Tryz.pinned (OpenSpec.upto polyGradsSpec)

/-- 'skymosaiclaw08.PolySums', WHERE WHAT IT READS IS OF BULK AT MOST 1048576: true; the input reads as it did. -/
def polySumsUptoRow : OpenClaim := { program := "ytingcbfigicjeaagreatdoor", sum := "138ba8c315032580c22860ce0ef1da40460dc842b3c592fb749e76ff15cb39d2", func := "skymosaic/skymosaiclaw08.PolySums", spec := "polySums", inPlace := ["internal/bytealg.IndexByteString", "internal/bytealg.IndexString", "internal/abi.NoEscape", "internal/bytealg.MakeNoZero"], unfollowed := true, recurses := true, named := ["unicode/utf8.first", "unicode/utf8.acceptRanges", "strconv.ErrSyntax", "strconv.ErrRange", "internal/strconv.uint64pow10", "math/bits.deBruijn32tab", "math/bits.deBruijn64tab", "skymosaic/poly.monomials", "skymosaic/poly.choose", "internal/bytealg.MaxLen"], apart := false, laid := [("math/bits.deBruijn32tab", laid_math_bits_deBruijn32tab), ("math/bits.deBruijn64tab", laid_math_bits_deBruijn64tab), ("internal/strconv.uint64pow10", laid_internal_strconv_uint64pow10), ("unicode/utf8.acceptRanges", laid_unicode_utf8_acceptRanges), ("strconv.ErrRange", laid_strconv_ErrRange), ("strconv.ErrSyntax", laid_strconv_ErrSyntax), ("skymosaic/poly.monomials", laid_skymosaic_poly_monomials), ("skymosaic/poly.choose", laid_skymosaic_poly_choose), ("unicode/utf8.first", laid_unicode_utf8_first)], narrowed := true }
def PolySumsUptoSaid : Prop := polySumsUptoRow.holds Tryz.pinned (OpenSpec.upto polySumsSpec)

/-- 'skymosaiclaw08.PolyEncloses', WHERE WHAT IT READS IS OF BULK AT MOST 1048576: true; the input reads as it did. -/
def polyEnclosesUptoRow : OpenClaim := { program := "ytingcbfigicjeaagreatdoor", sum := "138ba8c315032580c22860ce0ef1da40460dc842b3c592fb749e76ff15cb39d2", func := "skymosaic/skymosaiclaw08.PolyEncloses", spec := "polyEncloses", inPlace := ["internal/bytealg.IndexByteString", "internal/bytealg.IndexString", "internal/abi.NoEscape", "internal/bytealg.MakeNoZero"], unfollowed := true, recurses := true, named := ["unicode/utf8.first", "unicode/utf8.acceptRanges", "strconv.ErrSyntax", "strconv.ErrRange", "internal/strconv.uint64pow10", "math/bits.deBruijn32tab", "math/bits.deBruijn64tab", "skymosaic/ival.down", "skymosaic/ival.up", "skymosaic/poly.monomials", "skymosaic/poly.choose", "internal/bytealg.MaxLen"], apart := false, laid := [("math/bits.deBruijn32tab", laid_math_bits_deBruijn32tab), ("math/bits.deBruijn64tab", laid_math_bits_deBruijn64tab), ("internal/strconv.uint64pow10", laid_internal_strconv_uint64pow10), ("unicode/utf8.acceptRanges", laid_unicode_utf8_acceptRanges), ("strconv.ErrRange", laid_strconv_ErrRange), ("strconv.ErrSyntax", laid_strconv_ErrSyntax), ("skymosaic/ival.down", laid_skymosaic_ival_down), ("skymosaic/ival.up", laid_skymosaic_ival_up), ("skymosaic/poly.monomials", laid_skymosaic_poly_monomials), ("skymosaic/poly.choose", laid_skymosaic_poly_choose), ("unicode/utf8.first", laid_unicode_utf8_first)], narrowed := true }
def PolyEnclosesUptoSaid : Prop := polyEnclosesUptoRow.holds Tryz.pinned (OpenSpec.upto polyEnclosesSpec)

/-- 'skymosaiclaw08.PolyContains', WHERE WHAT IT READS IS OF BULK AT MOST 1048576: true; the input reads as it did. -/
def polyContainsUptoRow : OpenClaim := { program := "ytingcbfigicjeaagreatdoor", sum := "138ba8c315032580c22860ce0ef1da40460dc842b3c592fb749e76ff15cb39d2", func := "skymosaic/skymosaiclaw08.PolyContains", spec := "polyContains", inPlace := ["internal/bytealg.IndexByteString", "internal/bytealg.IndexString", "internal/abi.NoEscape", "internal/bytealg.MakeNoZero"], unfollowed := true, recurses := true, named := ["unicode/utf8.first", "unicode/utf8.acceptRanges", "strconv.ErrSyntax", "strconv.ErrRange", "internal/strconv.uint64pow10", "math/bits.deBruijn32tab", "math/bits.deBruijn64tab", "skymosaic/ival.down", "skymosaic/ival.up", "skymosaic/poly.monomials", "skymosaic/poly.choose", "internal/bytealg.MaxLen"], apart := false, laid := [("math/bits.deBruijn32tab", laid_math_bits_deBruijn32tab), ("math/bits.deBruijn64tab", laid_math_bits_deBruijn64tab), ("internal/strconv.uint64pow10", laid_internal_strconv_uint64pow10), ("unicode/utf8.acceptRanges", laid_unicode_utf8_acceptRanges), ("strconv.ErrRange", laid_strconv_ErrRange), ("strconv.ErrSyntax", laid_strconv_ErrSyntax), ("skymosaic/ival.down", laid_skymosaic_ival_down), ("skymosaic/ival.up", laid_skymosaic_ival_up), ("skymosaic/poly.monomials", laid_skymosaic_poly_monomials), ("skymosaic/poly.choose", laid_skymosaic_poly_choose), ("unicode/utf8.first", laid_unicode_utf8_first)], narrowed := true }
def PolyContainsUptoSaid : Prop := polyContainsUptoRow.holds Tryz.pinned (OpenSpec.upto polyContainsSpec)

end Rows
end Go.Proofs.YtingcbfigicjeaaGreatDoor
