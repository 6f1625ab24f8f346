/-
  NARROWER THAN 'FOR EVERY INPUT', by the rows' own cells (each row's printed sentence says how): InsnEncodes: laid · InsnPrints: laid · InsnAssembles: laid · InsnBack: laid · InsnApart: laid · InsnPatched: laid · InsnLines: laid · InsnMoved: laid · InsnJoined: laid · InsnSweeps: laid · InsnLabels: laid · InsnLists: laid · InsnListings: laid · InsnChecks: laid.
  DERIVED. THE GIVEN ROWS OF THIS SEAT. 14 by the template 'for every input the law returns true; each argument reads behind the call as it read before'; 0 by the template 'total and deterministic' (their statements: YtffojmgmpfjlhaaGreatDoorTotals.lean).
  GIVEN WITH THE SEED: the statements are not yours to turn. If you find one false, say at which input.
  Laid BY PROGRAM, IN A SANDBOX (cutbox-rows.mjs): the forced cells as the released guide's own fill.sh prints them over the translation 983996e5aaeab997… (all of the seat's roots in one cut). By AI agents, Wed Nov 11 2026. No macro, syntax, notation, axiom, sorry.
-/
import Derived.Test.YtffojmgmpfjlhaaGreatDoorChecked
import GoSem.PinnedTables
import GoSem.Claim
import GoSem.ClaimJoined
import GoSem.ClaimMapViews
import Derived.JoinedTies
import Derived.KernelRfl
namespace Go.Proofs.YtffojmgmpfjlhaaGreatDoor
/- THE CELL 'sum', in the pinned program and in every row, IS THE sha256 OF THE DUMP (.gsa) THAT YtffojmgmpfjlhaaGreatDoorProg.lean LOADS. Nothing in Lean hashes anything: it is a label: what it is worth is what the hold of that sum in a sandbox is worth. -/
noncomputable def Tryz.pinned : Pinned := { name := "ytffojmgmpfjlhaagreatdoor", sum := "983996e5aaeab99789e99a481fc3a6f25aa95a5fec1760fb4ae05999f435f013", checked := Tryz.checked }
namespace Rows
def none {H : Type} : Left H := { results := [], args := [] }

/- WHAT THE LISTED PACKAGE-LEVEL VARIABLES READ AS WHEN THE CALL BEGINS. Each datum BY PROGRAM (the guide's laid-datum.mjs) off the statement by which the dump's own 'gosem.cut.vars' lays the variable. In a bare row this is a premise. The card (YtffojmgmpfjlhaaGreatDoorCards.lean) ties it to the program's text. -/
def laid_math_bits_deBruijn32tab {H : Type} : DataW H := .agg [.lit (.int .u8 0), .lit (.int .u8 1), .lit (.int .u8 28), .lit (.int .u8 2), .lit (.int .u8 29), .lit (.int .u8 14), .lit (.int .u8 24), .lit (.int .u8 3), .lit (.int .u8 30), .lit (.int .u8 22), .lit (.int .u8 20), .lit (.int .u8 15), .lit (.int .u8 25), .lit (.int .u8 17), .lit (.int .u8 4), .lit (.int .u8 8), .lit (.int .u8 31), .lit (.int .u8 27), .lit (.int .u8 13), .lit (.int .u8 23), .lit (.int .u8 21), .lit (.int .u8 19), .lit (.int .u8 16), .lit (.int .u8 7), .lit (.int .u8 26), .lit (.int .u8 12), .lit (.int .u8 18), .lit (.int .u8 6), .lit (.int .u8 11), .lit (.int .u8 5), .lit (.int .u8 10), .lit (.int .u8 9)]
def laid_math_bits_deBruijn64tab {H : Type} : DataW H := .agg [.lit (.int .u8 0), .lit (.int .u8 1), .lit (.int .u8 56), .lit (.int .u8 2), .lit (.int .u8 57), .lit (.int .u8 49), .lit (.int .u8 28), .lit (.int .u8 3), .lit (.int .u8 61), .lit (.int .u8 58), .lit (.int .u8 42), .lit (.int .u8 50), .lit (.int .u8 38), .lit (.int .u8 29), .lit (.int .u8 17), .lit (.int .u8 4), .lit (.int .u8 62), .lit (.int .u8 47), .lit (.int .u8 59), .lit (.int .u8 36), .lit (.int .u8 45), .lit (.int .u8 43), .lit (.int .u8 51), .lit (.int .u8 22), .lit (.int .u8 53), .lit (.int .u8 39), .lit (.int .u8 33), .lit (.int .u8 30), .lit (.int .u8 24), .lit (.int .u8 18), .lit (.int .u8 12), .lit (.int .u8 5), .lit (.int .u8 63), .lit (.int .u8 55), .lit (.int .u8 48), .lit (.int .u8 27), .lit (.int .u8 60), .lit (.int .u8 41), .lit (.int .u8 37), .lit (.int .u8 16), .lit (.int .u8 46), .lit (.int .u8 35), .lit (.int .u8 44), .lit (.int .u8 21), .lit (.int .u8 52), .lit (.int .u8 32), .lit (.int .u8 23), .lit (.int .u8 11), .lit (.int .u8 54), .lit (.int .u8 26), .lit (.int .u8 40), .lit (.int .u8 15), .lit (.int .u8 34), .lit (.int .u8 20), .lit (.int .u8 31), .lit (.int .u8 10), .lit (.int .u8 25), .lit (.int .u8 14), .lit (.int .u8 19), .lit (.int .u8 9), .lit (.int .u8 13), .lit (.int .u8 8), .lit (.int .u8 7), .lit (.int .u8 6)]
def laid_internal_strconv_uint64pow10 {H : Type} : DataW H := .agg [.lit (.int .u64 1), .lit (.int .u64 10), .lit (.int .u64 100), .lit (.int .u64 1000), .lit (.int .u64 10000), .lit (.int .u64 100000), .lit (.int .u64 1000000), .lit (.int .u64 10000000), .lit (.int .u64 100000000), .lit (.int .u64 1000000000), .lit (.int .u64 10000000000), .lit (.int .u64 100000000000), .lit (.int .u64 1000000000000), .lit (.int .u64 10000000000000), .lit (.int .u64 100000000000000), .lit (.int .u64 1000000000000000), .lit (.int .u64 10000000000000000), .lit (.int .u64 100000000000000000), .lit (.int .u64 1000000000000000000), .lit (.int .u64 10000000000000000000)]
def laid_unicode_utf8_acceptRanges {H : Type} : DataW H := .agg [.agg [.lit (.int .u8 128), .lit (.int .u8 191)], .agg [.lit (.int .u8 160), .lit (.int .u8 191)], .agg [.lit (.int .u8 128), .lit (.int .u8 159)], .agg [.lit (.int .u8 144), .lit (.int .u8 191)], .agg [.lit (.int .u8 128), .lit (.int .u8 143)], .agg [.lit (.int .u8 0), .lit (.int .u8 0)], .agg [.lit (.int .u8 0), .lit (.int .u8 0)], .agg [.lit (.int .u8 0), .lit (.int .u8 0)], .agg [.lit (.int .u8 0), .lit (.int .u8 0)], .agg [.lit (.int .u8 0), .lit (.int .u8 0)], .agg [.lit (.int .u8 0), .lit (.int .u8 0)], .agg [.lit (.int .u8 0), .lit (.int .u8 0)], .agg [.lit (.int .u8 0), .lit (.int .u8 0)], .agg [.lit (.int .u8 0), .lit (.int .u8 0)], .agg [.lit (.int .u8 0), .lit (.int .u8 0)], .agg [.lit (.int .u8 0), .lit (.int .u8 0)]]
def laid_strconv_ErrRange {H : Type} : DataW H := .iface "*errors.errorString" (.ptr (.agg [.lit (.string [118, 97, 108, 117, 101, 32, 111, 117, 116, 32, 111, 102, 32, 114, 97, 110, 103, 101])]))
def laid_strconv_ErrSyntax {H : Type} : DataW H := .iface "*errors.errorString" (.ptr (.agg [.lit (.string [105, 110, 118, 97, 108, 105, 100, 32, 115, 121, 110, 116, 97, 120])]))
def laid_tapline_insn_kinds {H : Type} : DataW H := .agg [.agg [.lit (.string []), .lit (.int .i64 0)], .agg [.lit (.string [110, 111, 112]), .lit (.int .i64 0)], .agg [.lit (.string [109, 111, 118, 101]), .lit (.int .i64 1)], .agg [.lit (.string [115, 101, 116]), .lit (.int .i64 3)], .agg [.lit (.string [108, 105, 116]), .lit (.int .i64 4)], .agg [.lit (.string [97, 100, 100]), .lit (.int .i64 1)], .agg [.lit (.string [115, 117, 98]), .lit (.int .i64 1)], .agg [.lit (.string [109, 117, 108]), .lit (.int .i64 1)], .agg [.lit (.string [100, 105, 118]), .lit (.int .i64 1)], .agg [.lit (.string [109, 111, 100]), .lit (.int .i64 1)], .agg [.lit (.string [97, 110, 100]), .lit (.int .i64 1)], .agg [.lit (.string [111, 114]), .lit (.int .i64 1)], .agg [.lit (.string [120, 111, 114]), .lit (.int .i64 1)], .agg [.lit (.string [115, 104, 108]), .lit (.int .i64 1)], .agg [.lit (.string [115, 104, 114]), .lit (.int .i64 1)], .agg [.lit (.string [115, 97, 114]), .lit (.int .i64 1)], .agg [.lit (.string [105, 110, 99]), .lit (.int .i64 4)], .agg [.lit (.string [108, 111, 97, 100, 49]), .lit (.int .i64 5)], .agg [.lit (.string [108, 111, 97, 100, 56]), .lit (.int .i64 5)], .agg [.lit (.string [115, 116, 111, 114, 101, 49]), .lit (.int .i64 5)], .agg [.lit (.string [115, 116, 111, 114, 101, 56]), .lit (.int .i64 5)], .agg [.lit (.string [98, 101, 113]), .lit (.int .i64 5)], .agg [.lit (.string [98, 110, 101]), .lit (.int .i64 5)], .agg [.lit (.string [98, 108, 116]), .lit (.int .i64 5)], .agg [.lit (.string [98, 103, 101]), .lit (.int .i64 5)], .agg [.lit (.string [106, 117, 109, 112]), .lit (.int .i64 6)], .agg [.lit (.string [106, 117, 109, 112, 114]), .lit (.int .i64 2)], .agg [.lit (.string [99, 97, 108, 108]), .lit (.int .i64 6)], .agg [.lit (.string [99, 97, 108, 108, 114]), .lit (.int .i64 2)], .agg [.lit (.string [114, 101, 116]), .lit (.int .i64 0)], .agg [.lit (.string [112, 117, 115, 104]), .lit (.int .i64 2)], .agg [.lit (.string [112, 111, 112]), .lit (.int .i64 2)], .agg [.lit (.string [108, 101, 97]), .lit (.int .i64 7)], .agg [.lit (.string [115, 121, 115]), .lit (.int .i64 8)], .agg [.lit (.string [115, 119, 97, 112]), .lit (.int .i64 1)]]
/-- One of Go's own tables, pinned by name: the form's constant. -/
def laid_unicode_utf8_first : DataW Unit := Go.Pinned.utf8First

/-- 'taplinelaw02.InsnEncodes': WHATEVER THE INPUT: true; the input reads as it did. -/
def insnEncodesSpec : ChangeSpec := { name := "insnEncodes", fn := fun _ => fun
  | [d1, d2] => { results := [.lit (.bool true)], args := [d1, d2] }
  | _ => none }
def insnEncodesRow : OpenClaim := { program := "ytffojmgmpfjlhaagreatdoor", sum := "983996e5aaeab99789e99a481fc3a6f25aa95a5fec1760fb4ae05999f435f013", func := "tapline/taplinelaw02.InsnEncodes", spec := "insnEncodes", inPlace := ["internal/abi.NoEscape", "internal/bytealg.MakeNoZero", "internal/bytealg.CountString", "internal/bytealg.IndexByteString", "internal/bytealg.IndexString"], unfollowed := true, recurses := true, named := ["tapline/insn.kinds", "internal/strconv.uint64pow10", "math/bits.deBruijn32tab", "math/bits.deBruijn64tab", "strconv.ErrSyntax", "strconv.ErrRange", "unicode/utf8.first", "unicode/utf8.acceptRanges", "internal/bytealg.MaxLen"], apart := false, laid := [("math/bits.deBruijn32tab", laid_math_bits_deBruijn32tab), ("math/bits.deBruijn64tab", laid_math_bits_deBruijn64tab), ("internal/strconv.uint64pow10", laid_internal_strconv_uint64pow10), ("unicode/utf8.acceptRanges", laid_unicode_utf8_acceptRanges), ("strconv.ErrRange", laid_strconv_ErrRange), ("strconv.ErrSyntax", laid_strconv_ErrSyntax), ("tapline/insn.kinds", laid_tapline_insn_kinds), ("unicode/utf8.first", laid_unicode_utf8_first)] }
def InsnEncodesSaid : Prop := insnEncodesRow.holds Tryz.pinned (OpenSpec.ofChange insnEncodesSpec)

/-- ITS FALSE NEIGHBOUR: 'it returns false'. Refute it at one input. -/
def insnEncodesWrong : ChangeSpec := { name := "insnEncodes", fn := fun _ => fun
  | [d1, d2] => { results := [.lit (.bool false)], args := [d1, d2] }
  | _ => none }
def InsnEncodesWrongFalsely : Prop := insnEncodesRow.holds Tryz.pinned (OpenSpec.ofChange insnEncodesWrong)

/-- 'taplinelaw02.InsnPrints': WHATEVER THE INPUT: true; the input reads as it did. -/
def insnPrintsSpec : ChangeSpec := { name := "insnPrints", fn := fun _ => fun
  | [d1, d2] => { results := [.lit (.bool true)], args := [d1, d2] }
  | _ => none }
def insnPrintsRow : OpenClaim := { program := "ytffojmgmpfjlhaagreatdoor", sum := "983996e5aaeab99789e99a481fc3a6f25aa95a5fec1760fb4ae05999f435f013", func := "tapline/taplinelaw02.InsnPrints", spec := "insnPrints", inPlace := ["internal/abi.NoEscape", "internal/bytealg.MakeNoZero", "internal/bytealg.CountString", "internal/bytealg.IndexByteString", "internal/bytealg.IndexString"], unfollowed := true, recurses := true, named := ["tapline/insn.kinds", "internal/strconv.uint64pow10", "math/bits.deBruijn32tab", "math/bits.deBruijn64tab", "strconv.ErrSyntax", "strconv.ErrRange", "unicode/utf8.first", "unicode/utf8.acceptRanges", "internal/bytealg.MaxLen"], apart := false, laid := [("math/bits.deBruijn32tab", laid_math_bits_deBruijn32tab), ("math/bits.deBruijn64tab", laid_math_bits_deBruijn64tab), ("internal/strconv.uint64pow10", laid_internal_strconv_uint64pow10), ("unicode/utf8.acceptRanges", laid_unicode_utf8_acceptRanges), ("strconv.ErrRange", laid_strconv_ErrRange), ("strconv.ErrSyntax", laid_strconv_ErrSyntax), ("tapline/insn.kinds", laid_tapline_insn_kinds), ("unicode/utf8.first", laid_unicode_utf8_first)] }
def InsnPrintsSaid : Prop := insnPrintsRow.holds Tryz.pinned (OpenSpec.ofChange insnPrintsSpec)

/-- ITS FALSE NEIGHBOUR: 'it returns false'. Refute it at one input. -/
def insnPrintsWrong : ChangeSpec := { name := "insnPrints", fn := fun _ => fun
  | [d1, d2] => { results := [.lit (.bool false)], args := [d1, d2] }
  | _ => none }
def InsnPrintsWrongFalsely : Prop := insnPrintsRow.holds Tryz.pinned (OpenSpec.ofChange insnPrintsWrong)

/-- 'taplinelaw02.InsnAssembles': WHATEVER THE INPUT: true; the input reads as it did. -/
def insnAssemblesSpec : ChangeSpec := { name := "insnAssembles", fn := fun _ => fun
  | [d1, d2] => { results := [.lit (.bool true)], args := [d1, d2] }
  | _ => none }
def insnAssemblesRow : OpenClaim := { program := "ytffojmgmpfjlhaagreatdoor", sum := "983996e5aaeab99789e99a481fc3a6f25aa95a5fec1760fb4ae05999f435f013", func := "tapline/taplinelaw02.InsnAssembles", spec := "insnAssembles", inPlace := ["internal/abi.NoEscape", "internal/bytealg.MakeNoZero", "internal/bytealg.CountString", "internal/bytealg.IndexByteString", "internal/bytealg.IndexString"], unfollowed := true, recurses := true, named := ["tapline/insn.kinds", "internal/strconv.uint64pow10", "math/bits.deBruijn32tab", "math/bits.deBruijn64tab", "strconv.ErrSyntax", "strconv.ErrRange", "unicode/utf8.first", "unicode/utf8.acceptRanges", "internal/bytealg.MaxLen"], apart := false, laid := [("math/bits.deBruijn32tab", laid_math_bits_deBruijn32tab), ("math/bits.deBruijn64tab", laid_math_bits_deBruijn64tab), ("internal/strconv.uint64pow10", laid_internal_strconv_uint64pow10), ("unicode/utf8.acceptRanges", laid_unicode_utf8_acceptRanges), ("strconv.ErrRange", laid_strconv_ErrRange), ("strconv.ErrSyntax", laid_strconv_ErrSyntax), ("tapline/insn.kinds", laid_tapline_insn_kinds), ("unicode/utf8.first", laid_unicode_utf8_first)] }
def InsnAssemblesSaid : Prop := insnAssemblesRow.holds Tryz.pinned (OpenSpec.ofChange insnAssemblesSpec)

/-- ITS FALSE NEIGHBOUR: 'it returns false'. Refute it at one input. -/
def insnAssemblesWrong : ChangeSpec := { name := "insnAssembles", fn := fun _ => fun
  | [d1, d2] => { results := [.lit (.bool false)], args := [d1, d2] }
  | _ => none }
def InsnAssemblesWrongFalsely : Prop := insnAssemblesRow.holds Tryz.pinned (OpenSpec.ofChange insnAssemblesWrong)

/-- 'taplinelaw02.InsnBack': WHATEVER THE INPUT: true; the input reads as it did. -/
def insnBackSpec : ChangeSpec := { name := "insnBack", fn := fun _ => fun
  | [d1, d2] => { results := [.lit (.bool true)], args := [d1, d2] }
  | _ => none }
def insnBackRow : OpenClaim := { program := "ytffojmgmpfjlhaagreatdoor", sum := "983996e5aaeab99789e99a481fc3a6f25aa95a5fec1760fb4ae05999f435f013", func := "tapline/taplinelaw02.InsnBack", spec := "insnBack", inPlace := ["internal/abi.NoEscape", "internal/bytealg.MakeNoZero", "internal/bytealg.CountString", "internal/bytealg.IndexByteString", "internal/bytealg.IndexString"], unfollowed := true, recurses := true, named := ["tapline/insn.kinds", "internal/strconv.uint64pow10", "math/bits.deBruijn32tab", "math/bits.deBruijn64tab", "strconv.ErrSyntax", "strconv.ErrRange", "unicode/utf8.first", "unicode/utf8.acceptRanges", "internal/bytealg.MaxLen"], apart := false, laid := [("math/bits.deBruijn32tab", laid_math_bits_deBruijn32tab), ("math/bits.deBruijn64tab", laid_math_bits_deBruijn64tab), ("internal/strconv.uint64pow10", laid_internal_strconv_uint64pow10), ("unicode/utf8.acceptRanges", laid_unicode_utf8_acceptRanges), ("strconv.ErrRange", laid_strconv_ErrRange), ("strconv.ErrSyntax", laid_strconv_ErrSyntax), ("tapline/insn.kinds", laid_tapline_insn_kinds), ("unicode/utf8.first", laid_unicode_utf8_first)] }
def InsnBackSaid : Prop := insnBackRow.holds Tryz.pinned (OpenSpec.ofChange insnBackSpec)

/-- ITS FALSE NEIGHBOUR: 'it returns false'. Refute it at one input. -/
def insnBackWrong : ChangeSpec := { name := "insnBack", fn := fun _ => fun
  | [d1, d2] => { results := [.lit (.bool false)], args := [d1, d2] }
  | _ => none }
def InsnBackWrongFalsely : Prop := insnBackRow.holds Tryz.pinned (OpenSpec.ofChange insnBackWrong)

/-- 'taplinelaw02.InsnApart': WHATEVER THE INPUT: true; the input reads as it did. -/
def insnApartSpec : ChangeSpec := { name := "insnApart", fn := fun _ => fun
  | [d] => { results := [.lit (.bool true)], args := [d] }
  | _ => none }
def insnApartRow : OpenClaim := { program := "ytffojmgmpfjlhaagreatdoor", sum := "983996e5aaeab99789e99a481fc3a6f25aa95a5fec1760fb4ae05999f435f013", func := "tapline/taplinelaw02.InsnApart", spec := "insnApart", inPlace := ["internal/abi.NoEscape", "internal/bytealg.MakeNoZero", "internal/bytealg.CountString", "internal/bytealg.IndexByteString", "internal/bytealg.IndexString"], unfollowed := true, recurses := true, named := ["tapline/insn.kinds", "internal/strconv.uint64pow10", "math/bits.deBruijn32tab", "math/bits.deBruijn64tab", "strconv.ErrSyntax", "strconv.ErrRange", "unicode/utf8.first", "unicode/utf8.acceptRanges", "internal/bytealg.MaxLen"], apart := false, laid := [("math/bits.deBruijn32tab", laid_math_bits_deBruijn32tab), ("math/bits.deBruijn64tab", laid_math_bits_deBruijn64tab), ("internal/strconv.uint64pow10", laid_internal_strconv_uint64pow10), ("unicode/utf8.acceptRanges", laid_unicode_utf8_acceptRanges), ("strconv.ErrRange", laid_strconv_ErrRange), ("strconv.ErrSyntax", laid_strconv_ErrSyntax), ("tapline/insn.kinds", laid_tapline_insn_kinds), ("unicode/utf8.first", laid_unicode_utf8_first)] }
def InsnApartSaid : Prop := insnApartRow.holds Tryz.pinned (OpenSpec.ofChange insnApartSpec)

/-- ITS FALSE NEIGHBOUR: 'it returns false'. Refute it at one input. -/
def insnApartWrong : ChangeSpec := { name := "insnApart", fn := fun _ => fun
  | [d] => { results := [.lit (.bool false)], args := [d] }
  | _ => none }
def InsnApartWrongFalsely : Prop := insnApartRow.holds Tryz.pinned (OpenSpec.ofChange insnApartWrong)

/-- 'taplinelaw02.InsnPatched': WHATEVER THE INPUT: true; the input reads as it did. -/
def insnPatchedSpec : ChangeSpec := { name := "insnPatched", fn := fun _ => fun
  | [d1, d2] => { results := [.lit (.bool true)], args := [d1, d2] }
  | _ => none }
def insnPatchedRow : OpenClaim := { program := "ytffojmgmpfjlhaagreatdoor", sum := "983996e5aaeab99789e99a481fc3a6f25aa95a5fec1760fb4ae05999f435f013", func := "tapline/taplinelaw02.InsnPatched", spec := "insnPatched", inPlace := ["internal/abi.NoEscape", "internal/bytealg.MakeNoZero", "internal/bytealg.CountString", "internal/bytealg.IndexByteString", "internal/bytealg.IndexString"], unfollowed := true, recurses := true, named := ["tapline/insn.kinds", "internal/strconv.uint64pow10", "math/bits.deBruijn32tab", "math/bits.deBruijn64tab", "strconv.ErrSyntax", "strconv.ErrRange", "unicode/utf8.first", "unicode/utf8.acceptRanges", "internal/bytealg.MaxLen"], apart := false, laid := [("math/bits.deBruijn32tab", laid_math_bits_deBruijn32tab), ("math/bits.deBruijn64tab", laid_math_bits_deBruijn64tab), ("internal/strconv.uint64pow10", laid_internal_strconv_uint64pow10), ("unicode/utf8.acceptRanges", laid_unicode_utf8_acceptRanges), ("strconv.ErrRange", laid_strconv_ErrRange), ("strconv.ErrSyntax", laid_strconv_ErrSyntax), ("tapline/insn.kinds", laid_tapline_insn_kinds), ("unicode/utf8.first", laid_unicode_utf8_first)] }
def InsnPatchedSaid : Prop := insnPatchedRow.holds Tryz.pinned (OpenSpec.ofChange insnPatchedSpec)

/-- ITS FALSE NEIGHBOUR: 'it returns false'. Refute it at one input. -/
def insnPatchedWrong : ChangeSpec := { name := "insnPatched", fn := fun _ => fun
  | [d1, d2] => { results := [.lit (.bool false)], args := [d1, d2] }
  | _ => none }
def InsnPatchedWrongFalsely : Prop := insnPatchedRow.holds Tryz.pinned (OpenSpec.ofChange insnPatchedWrong)

/-- 'taplinelaw02.InsnLines': WHATEVER THE INPUT: true; the input reads as it did. -/
def insnLinesSpec : ChangeSpec := { name := "insnLines", fn := fun _ => fun
  | [d] => { results := [.lit (.bool true)], args := [d] }
  | _ => none }
def insnLinesRow : OpenClaim := { program := "ytffojmgmpfjlhaagreatdoor", sum := "983996e5aaeab99789e99a481fc3a6f25aa95a5fec1760fb4ae05999f435f013", func := "tapline/taplinelaw02.InsnLines", spec := "insnLines", inPlace := ["internal/abi.NoEscape", "internal/bytealg.MakeNoZero", "internal/bytealg.CountString", "internal/bytealg.IndexByteString", "internal/bytealg.IndexString"], unfollowed := true, recurses := true, named := ["tapline/insn.kinds", "internal/strconv.uint64pow10", "math/bits.deBruijn32tab", "math/bits.deBruijn64tab", "strconv.ErrSyntax", "strconv.ErrRange", "unicode/utf8.first", "unicode/utf8.acceptRanges", "internal/bytealg.MaxLen"], apart := false, laid := [("math/bits.deBruijn32tab", laid_math_bits_deBruijn32tab), ("math/bits.deBruijn64tab", laid_math_bits_deBruijn64tab), ("internal/strconv.uint64pow10", laid_internal_strconv_uint64pow10), ("unicode/utf8.acceptRanges", laid_unicode_utf8_acceptRanges), ("strconv.ErrRange", laid_strconv_ErrRange), ("strconv.ErrSyntax", laid_strconv_ErrSyntax), ("tapline/insn.kinds", laid_tapline_insn_kinds), ("unicode/utf8.first", laid_unicode_utf8_first)] }
def InsnLinesSaid : Prop := insnLinesRow.holds Tryz.pinned (OpenSpec.ofChange insnLinesSpec)

/-- ITS FALSE NEIGHBOUR: 'it returns false'. Refute it at one input. -/
def insnLinesWrong : ChangeSpec := { name := "insnLines", fn := fun _ => fun
  | [d] => { results := [.lit (.bool false)], args := [d] }
  | _ => none }
def InsnLinesWrongFalsely : Prop := insnLinesRow.holds Tryz.pinned (OpenSpec.ofChange insnLinesWrong)

/-- 'taplinelaw02.InsnMoved': WHATEVER THE INPUT: true; the input reads as it did. -/
def insnMovedSpec : ChangeSpec := { name := "insnMoved", fn := fun _ => fun
  | [d1, d2] => { results := [.lit (.bool true)], args := [d1, d2] }
  | _ => none }
def insnMovedRow : OpenClaim := { program := "ytffojmgmpfjlhaagreatdoor", sum := "983996e5aaeab99789e99a481fc3a6f25aa95a5fec1760fb4ae05999f435f013", func := "tapline/taplinelaw02.InsnMoved", spec := "insnMoved", inPlace := ["internal/abi.NoEscape", "internal/bytealg.MakeNoZero", "internal/bytealg.CountString", "internal/bytealg.IndexByteString", "internal/bytealg.IndexString"], unfollowed := true, recurses := true, named := ["tapline/insn.kinds", "internal/strconv.uint64pow10", "math/bits.deBruijn32tab", "math/bits.deBruijn64tab", "strconv.ErrSyntax", "strconv.ErrRange", "unicode/utf8.first", "unicode/utf8.acceptRanges", "internal/bytealg.MaxLen"], apart := false, laid := [("math/bits.deBruijn32tab", laid_math_bits_deBruijn32tab), ("math/bits.deBruijn64tab", laid_math_bits_deBruijn64tab), ("internal/strconv.uint64pow10", laid_internal_strconv_uint64pow10), ("unicode/utf8.acceptRanges", laid_unicode_utf8_acceptRanges), ("strconv.ErrRange", laid_strconv_ErrRange), ("strconv.ErrSyntax", laid_strconv_ErrSyntax), ("tapline/insn.kinds", laid_tapline_insn_kinds), ("unicode/utf8.first", laid_unicode_utf8_first)] }
def InsnMovedSaid : Prop := insnMovedRow.holds Tryz.pinned (OpenSpec.ofChange insnMovedSpec)

/-- ITS FALSE NEIGHBOUR: 'it returns false'. Refute it at one input. -/
def insnMovedWrong : ChangeSpec := { name := "insnMoved", fn := fun _ => fun
  | [d1, d2] => { results := [.lit (.bool false)], args := [d1, d2] }
  | _ => none }
def InsnMovedWrongFalsely : Prop := insnMovedRow.holds Tryz.pinned (OpenSpec.ofChange insnMovedWrong)

/-- 'taplinelaw02.InsnJoined': WHATEVER THE INPUT: true; the input reads as it did. -/
def insnJoinedSpec : ChangeSpec := { name := "insnJoined", fn := fun _ => fun
  | [d1, d2] => { results := [.lit (.bool true)], args := [d1, d2] }
  | _ => none }
def insnJoinedRow : OpenClaim := { program := "ytffojmgmpfjlhaagreatdoor", sum := "983996e5aaeab99789e99a481fc3a6f25aa95a5fec1760fb4ae05999f435f013", func := "tapline/taplinelaw02.InsnJoined", spec := "insnJoined", inPlace := ["internal/abi.NoEscape", "internal/bytealg.MakeNoZero", "internal/bytealg.CountString", "internal/bytealg.IndexByteString", "internal/bytealg.IndexString"], unfollowed := true, recurses := true, named := ["tapline/insn.kinds", "internal/strconv.uint64pow10", "math/bits.deBruijn32tab", "math/bits.deBruijn64tab", "strconv.ErrSyntax", "strconv.ErrRange", "unicode/utf8.first", "unicode/utf8.acceptRanges", "internal/bytealg.MaxLen"], apart := false, laid := [("math/bits.deBruijn32tab", laid_math_bits_deBruijn32tab), ("math/bits.deBruijn64tab", laid_math_bits_deBruijn64tab), ("internal/strconv.uint64pow10", laid_internal_strconv_uint64pow10), ("unicode/utf8.acceptRanges", laid_unicode_utf8_acceptRanges), ("strconv.ErrRange", laid_strconv_ErrRange), ("strconv.ErrSyntax", laid_strconv_ErrSyntax), ("tapline/insn.kinds", laid_tapline_insn_kinds), ("unicode/utf8.first", laid_unicode_utf8_first)] }
def InsnJoinedSaid : Prop := insnJoinedRow.holds Tryz.pinned (OpenSpec.ofChange insnJoinedSpec)

/-- ITS FALSE NEIGHBOUR: 'it returns false'. Refute it at one input. -/
def insnJoinedWrong : ChangeSpec := { name := "insnJoined", fn := fun _ => fun
  | [d1, d2] => { results := [.lit (.bool false)], args := [d1, d2] }
  | _ => none }
def InsnJoinedWrongFalsely : Prop := insnJoinedRow.holds Tryz.pinned (OpenSpec.ofChange insnJoinedWrong)

/-- 'taplinelaw02.InsnSweeps': WHATEVER THE INPUT: true; the input reads as it did. -/
def insnSweepsSpec : ChangeSpec := { name := "insnSweeps", fn := fun _ => fun
  | [d] => { results := [.lit (.bool true)], args := [d] }
  | _ => none }
def insnSweepsRow : OpenClaim := { program := "ytffojmgmpfjlhaagreatdoor", sum := "983996e5aaeab99789e99a481fc3a6f25aa95a5fec1760fb4ae05999f435f013", func := "tapline/taplinelaw02.InsnSweeps", spec := "insnSweeps", inPlace := ["internal/abi.NoEscape", "internal/bytealg.MakeNoZero", "internal/bytealg.CountString", "internal/bytealg.IndexByteString", "internal/bytealg.IndexString"], unfollowed := true, recurses := true, named := ["tapline/insn.kinds", "internal/strconv.uint64pow10", "math/bits.deBruijn32tab", "math/bits.deBruijn64tab", "strconv.ErrSyntax", "strconv.ErrRange", "unicode/utf8.first", "unicode/utf8.acceptRanges", "internal/bytealg.MaxLen"], apart := false, laid := [("math/bits.deBruijn32tab", laid_math_bits_deBruijn32tab), ("math/bits.deBruijn64tab", laid_math_bits_deBruijn64tab), ("internal/strconv.uint64pow10", laid_internal_strconv_uint64pow10), ("unicode/utf8.acceptRanges", laid_unicode_utf8_acceptRanges), ("strconv.ErrRange", laid_strconv_ErrRange), ("strconv.ErrSyntax", laid_strconv_ErrSyntax), ("tapline/insn.kinds", laid_tapline_insn_kinds), ("unicode/utf8.first", laid_unicode_utf8_first)] }
def InsnSweepsSaid : Prop := insnSweepsRow.holds Tryz.pinned (OpenSpec.ofChange insnSweepsSpec)

/-- ITS FALSE NEIGHBOUR: 'it returns false'. Refute it at one input. -/
def insnSweepsWrong : ChangeSpec := { name := "insnSweeps", fn := fun _ => fun
  | [d] => { results := [.lit (.bool false)], args := [d] }
  | _ => none }
def InsnSweepsWrongFalsely : Prop := insnSweepsRow.holds Tryz.pinned (OpenSpec.ofChange insnSweepsWrong)

/-- 'taplinelaw02.InsnLabels': WHATEVER THE INPUT: true; the input reads as it did. -/
def insnLabelsSpec : ChangeSpec := { name := "insnLabels", fn := fun _ => fun
  | [d] => { results := [.lit (.bool true)], args := [d] }
  | _ => none }
def insnLabelsRow : OpenClaim := { program := "ytffojmgmpfjlhaagreatdoor", sum := "983996e5aaeab99789e99a481fc3a6f25aa95a5fec1760fb4ae05999f435f013", func := "tapline/taplinelaw02.InsnLabels", spec := "insnLabels", inPlace := ["internal/abi.NoEscape", "internal/bytealg.MakeNoZero", "internal/bytealg.CountString", "internal/bytealg.IndexByteString", "internal/bytealg.IndexString"], unfollowed := true, recurses := true, named := ["tapline/insn.kinds", "internal/strconv.uint64pow10", "math/bits.deBruijn32tab", "math/bits.deBruijn64tab", "strconv.ErrSyntax", "strconv.ErrRange", "unicode/utf8.first", "unicode/utf8.acceptRanges", "internal/bytealg.MaxLen"], apart := false, laid := [("math/bits.deBruijn32tab", laid_math_bits_deBruijn32tab), ("math/bits.deBruijn64tab", laid_math_bits_deBruijn64tab), ("internal/strconv.uint64pow10", laid_internal_strconv_uint64pow10), ("unicode/utf8.acceptRanges", laid_unicode_utf8_acceptRanges), ("strconv.ErrRange", laid_strconv_ErrRange), ("strconv.ErrSyntax", laid_strconv_ErrSyntax), ("tapline/insn.kinds", laid_tapline_insn_kinds), ("unicode/utf8.first", laid_unicode_utf8_first)] }
def InsnLabelsSaid : Prop := insnLabelsRow.holds Tryz.pinned (OpenSpec.ofChange insnLabelsSpec)

/-- ITS FALSE NEIGHBOUR: 'it returns false'. Refute it at one input. -/
def insnLabelsWrong : ChangeSpec := { name := "insnLabels", fn := fun _ => fun
  | [d] => { results := [.lit (.bool false)], args := [d] }
  | _ => none }
def InsnLabelsWrongFalsely : Prop := insnLabelsRow.holds Tryz.pinned (OpenSpec.ofChange insnLabelsWrong)

/-- 'taplinelaw02.InsnLists': WHATEVER THE INPUT: true; the input reads as it did. -/
def insnListsSpec : ChangeSpec := { name := "insnLists", fn := fun _ => fun
  | [d] => { results := [.lit (.bool true)], args := [d] }
  | _ => none }
def insnListsRow : OpenClaim := { program := "ytffojmgmpfjlhaagreatdoor", sum := "983996e5aaeab99789e99a481fc3a6f25aa95a5fec1760fb4ae05999f435f013", func := "tapline/taplinelaw02.InsnLists", spec := "insnLists", inPlace := ["internal/abi.NoEscape", "internal/bytealg.MakeNoZero", "internal/bytealg.CountString", "internal/bytealg.IndexByteString", "internal/bytealg.IndexString"], unfollowed := true, recurses := true, named := ["tapline/insn.kinds", "internal/strconv.uint64pow10", "math/bits.deBruijn32tab", "math/bits.deBruijn64tab", "strconv.ErrSyntax", "strconv.ErrRange", "unicode/utf8.first", "unicode/utf8.acceptRanges", "internal/bytealg.MaxLen"], apart := false, laid := [("math/bits.deBruijn32tab", laid_math_bits_deBruijn32tab), ("math/bits.deBruijn64tab", laid_math_bits_deBruijn64tab), ("internal/strconv.uint64pow10", laid_internal_strconv_uint64pow10), ("unicode/utf8.acceptRanges", laid_unicode_utf8_acceptRanges), ("strconv.ErrRange", laid_strconv_ErrRange), ("strconv.ErrSyntax", laid_strconv_ErrSyntax), ("tapline/insn.kinds", laid_tapline_insn_kinds), ("unicode/utf8.first", laid_unicode_utf8_first)] }
def InsnListsSaid : Prop := insnListsRow.holds Tryz.pinned (OpenSpec.ofChange insnListsSpec)

/-- ITS FALSE NEIGHBOUR: 'it returns false'. Refute it at one input. -/
def insnListsWrong : ChangeSpec := { name := "insnLists", fn := fun _ => fun
  | [d] => { results := [.lit (.bool false)], args := [d] }
  | _ => none }
def InsnListsWrongFalsely : Prop := insnListsRow.holds Tryz.pinned (OpenSpec.ofChange insnListsWrong)

/-- 'taplinelaw02.InsnListings': WHATEVER THE INPUT: true; the input reads as it did. -/
def insnListingsSpec : ChangeSpec := { name := "insnListings", fn := fun _ => fun
  | [d1, d2] => { results := [.lit (.bool true)], args := [d1, d2] }
  | _ => none }
def insnListingsRow : OpenClaim := { program := "ytffojmgmpfjlhaagreatdoor", sum := "983996e5aaeab99789e99a481fc3a6f25aa95a5fec1760fb4ae05999f435f013", func := "tapline/taplinelaw02.InsnListings", spec := "insnListings", inPlace := ["internal/abi.NoEscape", "internal/bytealg.MakeNoZero", "internal/bytealg.CountString", "internal/bytealg.IndexByteString", "internal/bytealg.IndexString"], unfollowed := true, recurses := true, named := ["tapline/insn.kinds", "internal/strconv.uint64pow10", "math/bits.deBruijn32tab", "math/bits.deBruijn64tab", "strconv.ErrSyntax", "strconv.ErrRange", "unicode/utf8.first", "unicode/utf8.acceptRanges", "internal/bytealg.MaxLen"], apart := false, laid := [("math/bits.deBruijn32tab", laid_math_bits_deBruijn32tab), ("math/bits.deBruijn64tab", laid_math_bits_deBruijn64tab), ("internal/strconv.uint64pow10", laid_internal_strconv_uint64pow10), ("unicode/utf8.acceptRanges", laid_unicode_utf8_acceptRanges), ("strconv.ErrRange", laid_strconv_ErrRange), ("strconv.ErrSyntax", laid_strconv_ErrSyntax), ("tapline/insn.kinds", laid_tapline_insn_kinds), ("unicode/utf8.first", laid_unicode_utf8_first)] }
def InsnListingsSaid : Prop := insnListingsRow.holds Tryz.pinned (OpenSpec.ofChange insnListingsSpec)

/-- ITS FALSE NEIGHBOUR: 'it returns false'. Refute it at one input. -/
def insnListingsWrong : ChangeSpec := { name := "insnListings", fn := fun _ => fun
  | [d1, d2] => { results := [.lit (.bool false)], args := [d1, d2] }
  | _ => none }
def InsnListingsWrongFalsely : Prop := insnListingsRow.holds Tryz.pinned (OpenSpec.ofChange insnListingsWrong)

/-- 'taplinelaw02.InsnChecks': WHATEVER THE INPUT: true; the input reads as it did. -/
def insnChecksSpec : ChangeSpec := { name := "insnChecks", fn := fun _ => fun
  | [d1, d2] => { results := [.lit (.bool true)], args := [d1, d2] }
  | _ => none }
def insnChecksRow : OpenClaim := { program := "ytffojmgmpfjlhaagreatdoor", sum := "983996e5aaeab99789e99a481fc3a6f25aa95a5fec1760fb4ae05999f435f013", func := "tapline/taplinelaw02.InsnChecks", spec := "insnChecks", inPlace := ["internal/abi.NoEscape", "internal/bytealg.MakeNoZero", "internal/bytealg.CountString", "internal/bytealg.IndexByteString", "internal/bytealg.IndexString"], unfollowed := true, recurses := true, named := ["tapline/insn.kinds", "internal/strconv.uint64pow10", "math/bits.deBruijn32tab", "math/bits.deBruijn64tab", "strconv.ErrSyntax", "strconv.ErrRange", "unicode/utf8.first", "unicode/utf8.acceptRanges", "internal/bytealg.MaxLen"], apart := false, laid := [("math/bits.deBruijn32tab", laid_math_bits_deBruijn32tab), ("math/bits.deBruijn64tab", laid_math_bits_deBruijn64tab), ("internal/strconv.uint64pow10", laid_internal_strconv_uint64pow10), ("unicode/utf8.acceptRanges", laid_unicode_utf8_acceptRanges), ("strconv.ErrRange", laid_strconv_ErrRange), ("strconv.ErrSyntax", laid_strconv_ErrSyntax), ("tapline/insn.kinds", laid_tapline_insn_kinds), ("unicode/utf8.first", laid_unicode_utf8_first)] }
def InsnChecksSaid : Prop := insnChecksRow.holds Tryz.pinned (OpenSpec.ofChange insnChecksSpec)

/-- ITS FALSE NEIGHBOUR: 'it returns false'. Refute it at one input. -/
def insnChecksWrong : ChangeSpec := { name := "insnChecks", fn := fun _ => fun
  | [d1, d2] => { results := [.lit (.bool false)], args := [d1, d2] }
  | _ => none }
def InsnChecksWrongFalsely : Prop := insnChecksRow.holds Tryz.pinned (OpenSpec.ofChange insnChecksWrong)

/- THE SECOND FORM. 'bulk': how many values and letters a reading holds, each counted each time it is reached (what is shared counts as often as it is met; a slice's spare places count too). A statement '..UptoSaid' is the law's where the arguments, and the package variables that the reading takes, are together of bulk at most 1048576: NARROWER than '..Said'. Prove '..Said' where nothing that the law and all that it calls make is longer than what came in: it says more and counts as full. Else prove '..UptoSaid'. A law counts once. -/
mutual
def uptoBulk {H : Type} : DataW H → Nat
  | .lit (.string bytes) => bytes.length + 1
  | .lit _ => 1
  | .nil => 1
  | .ptr d => uptoBulk d + 1
  | .slice elems spare => uptoBulkAll elems + uptoBulkAll spare + 1
  | .agg parts => uptoBulkAll parts + 1
  | .iface _ d => uptoBulk d + 1
  | .map entries => uptoBulkEntries entries + 1
  | .held _ => 1
def uptoBulkAll {H : Type} : List (DataW H) → Nat
  | [] => 0
  | d :: r => uptoBulk d + uptoBulkAll r
def uptoBulkEntries {H : Type} : List (Lit × DataW H) → Nat
  | [] => 0
  | x :: r => uptoBulkEntry x + uptoBulkEntries r
def uptoBulkEntry {H : Type} : Lit × DataW H → Nat
  | (.string bytes, d) => bytes.length + uptoBulk d + 1
  | (_, d) => uptoBulk d + 1
 end
def uptoSmall : (H : Type) → List (DataW H) → Bool := fun _ ds => decide (uptoBulkAll ds ≤ 1048576)
def OpenSpec.upto (s : _root_.Go.ChangeSpec) : _root_.Go.OpenSpec := { _root_.Go.OpenSpec.ofChange s with cond := some uptoSmall }

/-- 'taplinelaw02.InsnEncodes', WHERE WHAT IT READS IS OF BULK AT MOST 1048576: true; the input reads as it did. -/
def insnEncodesUptoRow : OpenClaim := { program := "ytffojmgmpfjlhaagreatdoor", sum := "983996e5aaeab99789e99a481fc3a6f25aa95a5fec1760fb4ae05999f435f013", func := "tapline/taplinelaw02.InsnEncodes", spec := "insnEncodes", inPlace := ["internal/abi.NoEscape", "internal/bytealg.MakeNoZero", "internal/bytealg.CountString", "internal/bytealg.IndexByteString", "internal/bytealg.IndexString"], unfollowed := true, recurses := true, named := ["tapline/insn.kinds", "internal/strconv.uint64pow10", "math/bits.deBruijn32tab", "math/bits.deBruijn64tab", "strconv.ErrSyntax", "strconv.ErrRange", "unicode/utf8.first", "unicode/utf8.acceptRanges", "internal/bytealg.MaxLen"], apart := false, laid := [("math/bits.deBruijn32tab", laid_math_bits_deBruijn32tab), ("math/bits.deBruijn64tab", laid_math_bits_deBruijn64tab), ("internal/strconv.uint64pow10", laid_internal_strconv_uint64pow10), ("unicode/utf8.acceptRanges", laid_unicode_utf8_acceptRanges), ("strconv.ErrRange", laid_strconv_ErrRange), ("strconv.ErrSyntax", laid_strconv_ErrSyntax), ("tapline/insn.kinds", laid_tapline_insn_kinds), ("unicode/utf8.first", laid_unicode_utf8_first)], narrowed := true }
def InsnEncodesUptoSaid : Prop := insnEncodesUptoRow.holds Tryz.pinned (OpenSpec.upto insnEncodesSpec)

/-- 'taplinelaw02.InsnPrints', WHERE WHAT IT READS IS OF BULK AT MOST 1048576: true; the input reads as it did. -/
def insnPrintsUptoRow : OpenClaim := { program := "ytffojmgmpfjlhaagreatdoor", sum := "983996e5aaeab99789e99a481fc3a6f25aa95a5fec1760fb4ae05999f435f013", func := "tapline/taplinelaw02.InsnPrints", spec := "insnPrints", inPlace := ["internal/abi.NoEscape", "internal/bytealg.MakeNoZero", "internal/bytealg.CountString", "internal/bytealg.IndexByteString", "internal/bytealg.IndexString"], unfollowed := true, recurses := true, named := ["tapline/insn.kinds", "internal/strconv.uint64pow10", "math/bits.deBruijn32tab", "math/bits.deBruijn64tab", "strconv.ErrSyntax", "strconv.ErrRange", "unicode/utf8.first", "unicode/utf8.acceptRanges", "internal/bytealg.MaxLen"], apart := false, laid := [("math/bits.deBruijn32tab", laid_math_bits_deBruijn32tab), ("math/bits.deBruijn64tab", laid_math_bits_deBruijn64tab), ("internal/strconv.uint64pow10", laid_internal_strconv_uint64pow10), ("unicode/utf8.acceptRanges", laid_unicode_utf8_acceptRanges), ("strconv.ErrRange", laid_strconv_ErrRange), ("strconv.ErrSyntax", laid_strconv_ErrSyntax), ("tapline/insn.kinds", laid_tapline_insn_kinds), ("unicode/utf8.first", laid_unicode_utf8_first)], narrowed := true }
def InsnPrintsUptoSaid : Prop := insnPrintsUptoRow.holds Tryz.pinned (OpenSpec.upto insnPrintsSpec)

/-- 'taplinelaw02.InsnAssembles', WHERE WHAT IT READS IS OF BULK AT MOST 1048576: true; the input reads as it did. -/
def insnAssemblesUptoRow : OpenClaim := { program := "ytffojmgmpfjlhaagreatdoor", sum := "983996e5aaeab99789e99a481fc3a6f25aa95a5fec1760fb4ae05999f435f013", func := "tapline/taplinelaw02.InsnAssembles", spec := "insnAssembles", inPlace := ["internal/abi.NoEscape", "internal/bytealg.MakeNoZero", "internal/bytealg.CountString", "internal/bytealg.IndexByteString", "internal/bytealg.IndexString"], unfollowed := true, recurses := true, named := ["tapline/insn.kinds", "internal/strconv.uint64pow10", "math/bits.deBruijn32tab", "math/bits.deBruijn64tab", "strconv.ErrSyntax", "strconv.ErrRange", "unicode/utf8.first", "unicode/utf8.acceptRanges", "internal/bytealg.MaxLen"], apart := false, laid := [("math/bits.deBruijn32tab", laid_math_bits_deBruijn32tab), ("math/bits.deBruijn64tab", laid_math_bits_deBruijn64tab), ("internal/strconv.uint64pow10", laid_internal_strconv_uint64pow10), ("unicode/utf8.acceptRanges", laid_unicode_utf8_acceptRanges), ("strconv.ErrRange", laid_strconv_ErrRange), ("strconv.ErrSyntax", laid_strconv_ErrSyntax), ("tapline/insn.kinds", laid_tapline_insn_kinds), ("unicode/utf8.first", laid_unicode_utf8_first)], narrowed := true }
def InsnAssemblesUptoSaid : Prop := insnAssemblesUptoRow.holds Tryz.pinned (OpenSpec.upto insnAssemblesSpec)

/-- 'taplinelaw02.InsnBack', WHERE WHAT IT READS IS OF BULK AT MOST 1048576: true; the input reads as it did. -/
def insnBackUptoRow : OpenClaim := { program := "ytffojmgmpfjlhaagreatdoor", sum := "983996e5aaeab99789e99a481fc3a6f25aa95a5fec1760fb4ae05999f435f013", func := "tapline/taplinelaw02.InsnBack", spec := "insnBack", inPlace := ["internal/abi.NoEscape", "internal/bytealg.MakeNoZero", "internal/bytealg.CountString", "internal/bytealg.IndexByteString", "internal/bytealg.IndexString"], unfollowed := true, recurses := true, named := ["tapline/insn.kinds", "internal/strconv.uint64pow10", "math/bits.deBruijn32tab", "math/bits.deBruijn64tab", "strconv.ErrSyntax", "strconv.ErrRange", "unicode/utf8.first", "unicode/utf8.acceptRanges", "internal/bytealg.MaxLen"], apart := false, laid := [("math/bits.deBruijn32tab", laid_math_bits_deBruijn32tab), ("math/bits.deBruijn64tab", laid_math_bits_deBruijn64tab), ("internal/strconv.uint64pow10", laid_internal_strconv_uint64pow10), ("unicode/utf8.acceptRanges", laid_unicode_utf8_acceptRanges), ("strconv.ErrRange", laid_strconv_ErrRange), ("strconv.ErrSyntax", laid_strconv_ErrSyntax), ("tapline/insn.kinds", laid_tapline_insn_kinds), ("unicode/utf8.first", laid_unicode_utf8_first)], narrowed := true }
def InsnBackUptoSaid : Prop := insnBackUptoRow.holds Tryz.pinned (OpenSpec.upto insnBackSpec)

/-- 'taplinelaw02.InsnApart', WHERE WHAT IT READS IS OF BULK AT MOST 1048576: true; the input reads as it did. -/
def insnApartUptoRow : OpenClaim := { program := "ytffojmgmpfjlhaagreatdoor", sum := "983996e5aaeab99789e99a481fc3a6f25aa95a5fec1760fb4ae05999f435f013", func := "tapline/taplinelaw02.InsnApart", spec := "insnApart", inPlace := ["internal/abi.NoEscape", "internal/bytealg.MakeNoZero", "internal/bytealg.CountString", "internal/bytealg.IndexByteString", "internal/bytealg.IndexString"], unfollowed := true, recurses := true, named := ["tapline/insn.kinds", "internal/strconv.uint64pow10", "math/bits.deBruijn32tab", "math/bits.deBruijn64tab", "strconv.ErrSyntax", "strconv.ErrRange", "unicode/utf8.first", "unicode/utf8.acceptRanges", "internal/bytealg.MaxLen"], apart := false, laid := [("math/bits.deBruijn32tab", laid_math_bits_deBruijn32tab), ("math/bits.deBruijn64tab", laid_math_bits_deBruijn64tab), ("internal/strconv.uint64pow10", laid_internal_strconv_uint64pow10), ("unicode/utf8.acceptRanges", laid_unicode_utf8_acceptRanges), ("strconv.ErrRange", laid_strconv_ErrRange), ("strconv.ErrSyntax", laid_strconv_ErrSyntax), ("tapline/insn.kinds", laid_tapline_insn_kinds), ("unicode/utf8.first", laid_unicode_utf8_first)], narrowed := true }
def InsnApartUptoSaid : Prop := insnApartUptoRow.holds Tryz.pinned (OpenSpec.upto insnApartSpec)

/-- 'taplinelaw02.InsnPatched', WHERE WHAT IT READS IS OF BULK AT MOST 1048576: true; the input reads as it did. -/
def insnPatchedUptoRow : OpenClaim := { program := "ytffojmgmpfjlhaagreatdoor", sum := "983996e5aaeab99789e99a481fc3a6f25aa95a5fec1760fb4ae05999f435f013", func := "tapline/taplinelaw02.InsnPatched", spec := "insnPatched", inPlace := ["internal/abi.NoEscape", "internal/bytealg.MakeNoZero", "internal/bytealg.CountString", "internal/bytealg.IndexByteString", "internal/bytealg.IndexString"], unfollowed := true, recurses := true, named := ["tapline/insn.kinds", "internal/strconv.uint64pow10", "math/bits.deBruijn32tab", "math/bits.deBruijn64tab", "strconv.ErrSyntax", "strconv.ErrRange", "unicode/utf8.first", "unicode/utf8.acceptRanges", "internal/bytealg.MaxLen"], apart := false, laid := [("math/bits.deBruijn32tab", laid_math_bits_deBruijn32tab), ("math/bits.deBruijn64tab", laid_math_bits_deBruijn64tab), ("internal/strconv.uint64pow10", laid_internal_strconv_uint64pow10), ("unicode/utf8.acceptRanges", laid_unicode_utf8_acceptRanges), ("strconv.ErrRange", laid_strconv_ErrRange), ("strconv.ErrSyntax", laid_strconv_ErrSyntax), ("tapline/insn.kinds", laid_tapline_insn_kinds), ("unicode/utf8.first", laid_unicode_utf8_first)], narrowed := true }
def InsnPatchedUptoSaid : Prop := insnPatchedUptoRow.holds Tryz.pinned (OpenSpec.upto insnPatchedSpec)

/-- 'taplinelaw02.InsnLines', WHERE WHAT IT READS IS OF BULK AT MOST 1048576: true; the input reads as it did. -/
def insnLinesUptoRow : OpenClaim := { program := "ytffojmgmpfjlhaagreatdoor", sum := "983996e5aaeab99789e99a481fc3a6f25aa95a5fec1760fb4ae05999f435f013", func := "tapline/taplinelaw02.InsnLines", spec := "insnLines", inPlace := ["internal/abi.NoEscape", "internal/bytealg.MakeNoZero", "internal/bytealg.CountString", "internal/bytealg.IndexByteString", "internal/bytealg.IndexString"], unfollowed := true, recurses := true, named := ["tapline/insn.kinds", "internal/strconv.uint64pow10", "math/bits.deBruijn32tab", "math/bits.deBruijn64tab", "strconv.ErrSyntax", "strconv.ErrRange", "unicode/utf8.first", "unicode/utf8.acceptRanges", "internal/bytealg.MaxLen"], apart := false, laid := [("math/bits.deBruijn32tab", laid_math_bits_deBruijn32tab), ("math/bits.deBruijn64tab", laid_math_bits_deBruijn64tab), ("internal/strconv.uint64pow10", laid_internal_strconv_uint64pow10), ("unicode/utf8.acceptRanges", laid_unicode_utf8_acceptRanges), ("strconv.ErrRange", laid_strconv_ErrRange), ("strconv.ErrSyntax", laid_strconv_ErrSyntax), ("tapline/insn.kinds", laid_tapline_insn_kinds), ("unicode/utf8.first", laid_unicode_utf8_first)], narrowed := true }
def InsnLinesUptoSaid : Prop := insnLinesUptoRow.holds Tryz.pinned (OpenSpec.upto insnLinesSpec)

/-- 'taplinelaw02.InsnMoved', WHERE WHAT IT READS IS OF BULK AT MOST 1048576: true; the input reads as it did. -/
def insnMovedUptoRow : OpenClaim := { program := "ytffojmgmpfjlhaagreatdoor", sum := "983996e5aaeab99789e99a481fc3a6f25aa95a5fec1760fb4ae05999f435f013", func := "tapline/taplinelaw02.InsnMoved", spec := "insnMoved", inPlace := ["internal/abi.NoEscape", "internal/bytealg.MakeNoZero", "internal/bytealg.CountString", "internal/bytealg.IndexByteString", "internal/bytealg.IndexString"], unfollowed := true, recurses := true, named := ["tapline/insn.kinds", "internal/strconv.uint64pow10", "math/bits.deBruijn32tab", "math/bits.deBruijn64tab", "strconv.ErrSyntax", "strconv.ErrRange", "unicode/utf8.first", "unicode/utf8.acceptRanges", "internal/bytealg.MaxLen"], apart := false, laid := [("math/bits.deBruijn32tab", laid_math_bits_deBruijn32tab), ("math/bits.deBruijn64tab", laid_math_bits_deBruijn64tab), ("internal/strconv.uint64pow10", laid_internal_strconv_uint64pow10), ("unicode/utf8.acceptRanges", laid_unicode_utf8_acceptRanges), ("strconv.ErrRange", laid_strconv_ErrRange), ("strconv.ErrSyntax", laid_strconv_ErrSyntax), ("tapline/insn.kinds", laid_tapline_insn_kinds), ("unicode/utf8.first", laid_unicode_utf8_first)], narrowed := true }
def InsnMovedUptoSaid : Prop := insnMovedUptoRow.holds Tryz.pinned (OpenSpec.upto insnMovedSpec)

/-- 'taplinelaw02.InsnJoined', WHERE WHAT IT READS IS OF BULK AT MOST 1048576: true; the input reads as it did. -/
def insnJoinedUptoRow : OpenClaim := { program := "ytffojmgmpfjlhaagreatdoor", sum := "983996e5aaeab99789e99a481fc3a6f25aa95a5fec1760fb4ae05999f435f013", func := "tapline/taplinelaw02.InsnJoined", spec := "insnJoined", inPlace := ["internal/abi.NoEscape", "internal/bytealg.MakeNoZero", "internal/bytealg.CountString", "internal/bytealg.IndexByteString", "internal/bytealg.IndexString"], unfollowed := true, recurses := true, named := ["tapline/insn.kinds", "internal/strconv.uint64pow10", "math/bits.deBruijn32tab", "math/bits.deBruijn64tab", "strconv.ErrSyntax", "strconv.ErrRange", "unicode/utf8.first", "unicode/utf8.acceptRanges", "internal/bytealg.MaxLen"], apart := false, laid := [("math/bits.deBruijn32tab", laid_math_bits_deBruijn32tab), ("math/bits.deBruijn64tab", laid_math_bits_deBruijn64tab), ("internal/strconv.uint64pow10", laid_internal_strconv_uint64pow10), ("unicode/utf8.acceptRanges", laid_unicode_utf8_acceptRanges), ("strconv.ErrRange", laid_strconv_ErrRange), ("strconv.ErrSyntax", laid_strconv_ErrSyntax), ("tapline/insn.kinds", laid_tapline_insn_kinds), ("unicode/utf8.first", laid_unicode_utf8_first)], narrowed := true }
def InsnJoinedUptoSaid : Prop := insnJoinedUptoRow.holds Tryz.pinned (OpenSpec.upto insnJoinedSpec)

/-- 'taplinelaw02.InsnSweeps', WHERE WHAT IT READS IS OF BULK AT MOST 1048576: true; the input reads as it did. -/
def insnSweepsUptoRow : OpenClaim := { program := "ytffojmgmpfjlhaagreatdoor", sum := "983996e5aaeab99789e99a481fc3a6f25aa95a5fec1760fb4ae05999f435f013", func := "tapline/taplinelaw02.InsnSweeps", spec := "insnSweeps", inPlace := ["internal/abi.NoEscape", "internal/bytealg.MakeNoZero", "internal/bytealg.CountString", "internal/bytealg.IndexByteString", "internal/bytealg.IndexString"], unfollowed := true, recurses := true, named := ["tapline/insn.kinds", "internal/strconv.uint64pow10", "math/bits.deBruijn32tab", "math/bits.deBruijn64tab", "strconv.ErrSyntax", "strconv.ErrRange", "unicode/utf8.first", "unicode/utf8.acceptRanges", "internal/bytealg.MaxLen"], apart := false, laid := [("math/bits.deBruijn32tab", laid_math_bits_deBruijn32tab), ("math/bits.deBruijn64tab", laid_math_bits_deBruijn64tab), ("internal/strconv.uint64pow10", laid_internal_strconv_uint64pow10), ("unicode/utf8.acceptRanges", laid_unicode_utf8_acceptRanges), ("strconv.ErrRange", laid_strconv_ErrRange), ("strconv.ErrSyntax", laid_strconv_ErrSyntax), ("tapline/insn.kinds", laid_tapline_insn_kinds), ("unicode/utf8.first", laid_unicode_utf8_first)], narrowed := true }
def InsnSweepsUptoSaid : Prop := insnSweepsUptoRow.holds Tryz.pinned (OpenSpec.upto insnSweepsSpec)

/-- 'taplinelaw02.InsnLabels', WHERE WHAT IT READS IS OF BULK AT MOST 1048576: true; the input reads as it did. -/
def insnLabelsUptoRow : OpenClaim := { program := "ytffojmgmpfjlhaagreatdoor", sum := "983996e5aaeab99789e99a481fc3a6f25aa95a5fec1760fb4ae05999f435f013", func := "tapline/taplinelaw02.InsnLabels", spec := "insnLabels", inPlace := ["internal/abi.NoEscape", "internal/bytealg.MakeNoZero", "internal/bytealg.CountString", "internal/bytealg.IndexByteString", "internal/bytealg.IndexString"], unfollowed := true, recurses := true, named := ["tapline/insn.kinds", "internal/strconv.uint64pow10", "math/bits.deBruijn32tab", "math/bits.deBruijn64tab", "strconv.ErrSyntax", "strconv.ErrRange", "unicode/utf8.first", "unicode/utf8.acceptRanges", "internal/bytealg.MaxLen"], apart := false, laid := [("math/bits.deBruijn32tab", laid_math_bits_deBruijn32tab), ("math/bits.deBruijn64tab", laid_math_bits_deBruijn64tab), ("internal/strconv.uint64pow10", laid_internal_strconv_uint64pow10), ("unicode/utf8.acceptRanges", laid_unicode_utf8_acceptRanges), ("strconv.ErrRange", laid_strconv_ErrRange), ("strconv.ErrSyntax", laid_strconv_ErrSyntax), ("tapline/insn.kinds", laid_tapline_insn_kinds), ("unicode/utf8.first", laid_unicode_utf8_first)], narrowed := true }
def InsnLabelsUptoSaid : Prop := insnLabelsUptoRow.holds Tryz.pinned (OpenSpec.upto insnLabelsSpec)

/-- 'taplinelaw02.InsnLists', WHERE WHAT IT READS IS OF BULK AT MOST 1048576: true; the input reads as it did. -/
def insnListsUptoRow : OpenClaim := { program := "ytffojmgmpfjlhaagreatdoor", sum := "983996e5aaeab99789e99a481fc3a6f25aa95a5fec1760fb4ae05999f435f013", func := "tapline/taplinelaw02.InsnLists", spec := "insnLists", inPlace := ["internal/abi.NoEscape", "internal/bytealg.MakeNoZero", "internal/bytealg.CountString", "internal/bytealg.IndexByteString", "internal/bytealg.IndexString"], unfollowed := true, recurses := true, named := ["tapline/insn.kinds", "internal/strconv.uint64pow10", "math/bits.deBruijn32tab", "math/bits.deBruijn64tab", "strconv.ErrSyntax", "strconv.ErrRange", "unicode/utf8.first", "unicode/utf8.acceptRanges", "internal/bytealg.MaxLen"], apart := false, laid := [("math/bits.deBruijn32tab", laid_math_bits_deBruijn32tab), ("math/bits.deBruijn64tab", laid_math_bits_deBruijn64tab), ("internal/strconv.uint64pow10", laid_internal_strconv_uint64pow10), ("unicode/utf8.acceptRanges", laid_unicode_utf8_acceptRanges), ("strconv.ErrRange", laid_strconv_ErrRange), ("strconv.ErrSyntax", laid_strconv_ErrSyntax), ("tapline/insn.kinds", laid_tapline_insn_kinds), ("unicode/utf8.first", laid_unicode_utf8_first)], narrowed := true }
def InsnListsUptoSaid : Prop := insnListsUptoRow.holds Tryz.pinned (OpenSpec.upto insnListsSpec)

/-- 'taplinelaw02.InsnListings', WHERE WHAT IT READS IS OF BULK AT MOST 1048576: true; the input reads as it did. -/
def insnListingsUptoRow : OpenClaim := { program := "ytffojmgmpfjlhaagreatdoor", sum := "983996e5aaeab99789e99a481fc3a6f25aa95a5fec1760fb4ae05999f435f013", func := "tapline/taplinelaw02.InsnListings", spec := "insnListings", inPlace := ["internal/abi.NoEscape", "internal/bytealg.MakeNoZero", "internal/bytealg.CountString", "internal/bytealg.IndexByteString", "internal/bytealg.IndexString"], unfollowed := true, recurses := true, named := ["tapline/insn.kinds", "internal/strconv.uint64pow10", "math/bits.deBruijn32tab", "math/bits.deBruijn64tab", "strconv.ErrSyntax", "strconv.ErrRange", "unicode/utf8.first", "unicode/utf8.acceptRanges", "internal/bytealg.MaxLen"], apart := false, laid := [("math/bits.deBruijn32tab", laid_math_bits_deBruijn32tab), ("math/bits.deBruijn64tab", laid_math_bits_deBruijn64tab), ("internal/strconv.uint64pow10", laid_internal_strconv_uint64pow10), ("unicode/utf8.acceptRanges", laid_unicode_utf8_acceptRanges), ("strconv.ErrRange", laid_strconv_ErrRange), ("strconv.ErrSyntax", laid_strconv_ErrSyntax), ("tapline/insn.kinds", laid_tapline_insn_kinds), ("unicode/utf8.first", laid_unicode_utf8_first)], narrowed := true }
def InsnListingsUptoSaid : Prop := insnListingsUptoRow.holds Tryz.pinned (OpenSpec.upto insnListingsSpec)

/-- 'taplinelaw02.InsnChecks', WHERE WHAT IT READS IS OF BULK AT MOST 1048576: true; the input reads as it did. -/
def insnChecksUptoRow : OpenClaim := { program := "ytffojmgmpfjlhaagreatdoor", sum := "983996e5aaeab99789e99a481fc3a6f25aa95a5fec1760fb4ae05999f435f013", func := "tapline/taplinelaw02.InsnChecks", spec := "insnChecks", inPlace := ["internal/abi.NoEscape", "internal/bytealg.MakeNoZero", "internal/bytealg.CountString", "internal/bytealg.IndexByteString", "internal/bytealg.IndexString"], unfollowed := true, recurses := true, named := ["tapline/insn.kinds", "internal/strconv.uint64pow10", "math/bits.deBruijn32tab", "math/bits.deBruijn64tab", "strconv.ErrSyntax", "strconv.ErrRange", "unicode/utf8.first", "unicode/utf8.acceptRanges", "internal/bytealg.MaxLen"], apart := false, laid := [("math/bits.deBruijn32tab", laid_math_bits_deBruijn32tab), ("math/bits.deBruijn64tab", laid_math_bits_deBruijn64tab), ("internal/strconv.uint64pow10", laid_internal_strconv_uint64pow10), ("unicode/utf8.acceptRanges", laid_unicode_utf8_acceptRanges), ("strconv.ErrRange", laid_strconv_ErrRange), ("strconv.ErrSyntax", laid_strconv_ErrSyntax), ("tapline/insn.kinds", laid_tapline_insn_kinds), ("unicode/utf8.first", laid_unicode_utf8_first)], narrowed := true }
def InsnChecksUptoSaid : Prop := insnChecksUptoRow.holds Tryz.pinned (OpenSpec.upto insnChecksSpec)

end Rows
end Go.Proofs.YtffojmgmpfjlhaaGreatDoor
