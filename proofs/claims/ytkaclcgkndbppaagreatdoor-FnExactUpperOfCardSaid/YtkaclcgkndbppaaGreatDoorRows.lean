/-
  NARROWER THAN 'FOR EVERY INPUT', by the rows' own cells (each row's printed sentence says how): FnExactTableFind: laid · FnExactTableUnder: laid · FnExactTableTree: laid · FnExactTableNames: laid · FnExactStateNew: loops, laid · FnExactUpperRead: laid · FnExactTreeParse: laid · FnExactUpperOf: loops, laid · FnExactUpperOk: laid · FnExactUpperNames: laid · FnExactUpperTree: laid.
  DERIVED. THE GIVEN ROWS OF THIS SEAT. 11 by the template 'for every input the law returns true; each argument reads behind the call as it read before'; 0 by the template 'total and deterministic' (their statements: YtkaclcgkndbppaaGreatDoorTotals.lean).
  GIVEN WITH THE SEED: the statements are not yours to turn. If you find one false, say at which input.
  Laid BY PROGRAM, IN A SANDBOX (cutbox-rows.mjs): the forced cells as the released guide's own fill.sh prints them over the translation ed3d8f771dd2092c… (all of the seat's roots in one cut). By AI agents, Wed Nov 11 2026. No macro, syntax, notation, axiom, sorry.
-/
import Derived.Test.YtkaclcgkndbppaaGreatDoorChecked
import GoSem.PinnedTables
import GoSem.Claim
import GoSem.ClaimJoined
import GoSem.ClaimMapViews
import Derived.JoinedTies
import Derived.KernelRfl
namespace Go.Proofs.YtkaclcgkndbppaaGreatDoor
/- THE CELL 'sum', in the pinned program and in every row, IS THE sha256 OF THE DUMP (.gsa) THAT YtkaclcgkndbppaaGreatDoorProg.lean LOADS. Nothing in Lean hashes anything: it is a label: what it is worth is what the hold of that sum in a sandbox is worth. -/
noncomputable def Tryz.pinned : Pinned := { name := "ytkaclcgkndbppaagreatdoor", sum := "ed3d8f771dd2092c82e5f84e06228d75350779defc20b6971586249aa4105eb7", checked := Tryz.checked }
namespace Rows
def none {H : Type} : Left H := { results := [], args := [] }

/- WHAT THE LISTED PACKAGE-LEVEL VARIABLES READ AS WHEN THE CALL BEGINS. Each datum BY PROGRAM (the guide's laid-datum.mjs) off the statement by which the dump's own 'gosem.cut.vars' lays the variable. In a bare row this is a premise. The card (YtkaclcgkndbppaaGreatDoorCards.lean) ties it to the program's text. -/
def laid_math_bits_deBruijn32tab {H : Type} : DataW H := .agg [.lit (.int .u8 0), .lit (.int .u8 1), .lit (.int .u8 28), .lit (.int .u8 2), .lit (.int .u8 29), .lit (.int .u8 14), .lit (.int .u8 24), .lit (.int .u8 3), .lit (.int .u8 30), .lit (.int .u8 22), .lit (.int .u8 20), .lit (.int .u8 15), .lit (.int .u8 25), .lit (.int .u8 17), .lit (.int .u8 4), .lit (.int .u8 8), .lit (.int .u8 31), .lit (.int .u8 27), .lit (.int .u8 13), .lit (.int .u8 23), .lit (.int .u8 21), .lit (.int .u8 19), .lit (.int .u8 16), .lit (.int .u8 7), .lit (.int .u8 26), .lit (.int .u8 12), .lit (.int .u8 18), .lit (.int .u8 6), .lit (.int .u8 11), .lit (.int .u8 5), .lit (.int .u8 10), .lit (.int .u8 9)]
def laid_math_bits_deBruijn64tab {H : Type} : DataW H := .agg [.lit (.int .u8 0), .lit (.int .u8 1), .lit (.int .u8 56), .lit (.int .u8 2), .lit (.int .u8 57), .lit (.int .u8 49), .lit (.int .u8 28), .lit (.int .u8 3), .lit (.int .u8 61), .lit (.int .u8 58), .lit (.int .u8 42), .lit (.int .u8 50), .lit (.int .u8 38), .lit (.int .u8 29), .lit (.int .u8 17), .lit (.int .u8 4), .lit (.int .u8 62), .lit (.int .u8 47), .lit (.int .u8 59), .lit (.int .u8 36), .lit (.int .u8 45), .lit (.int .u8 43), .lit (.int .u8 51), .lit (.int .u8 22), .lit (.int .u8 53), .lit (.int .u8 39), .lit (.int .u8 33), .lit (.int .u8 30), .lit (.int .u8 24), .lit (.int .u8 18), .lit (.int .u8 12), .lit (.int .u8 5), .lit (.int .u8 63), .lit (.int .u8 55), .lit (.int .u8 48), .lit (.int .u8 27), .lit (.int .u8 60), .lit (.int .u8 41), .lit (.int .u8 37), .lit (.int .u8 16), .lit (.int .u8 46), .lit (.int .u8 35), .lit (.int .u8 44), .lit (.int .u8 21), .lit (.int .u8 52), .lit (.int .u8 32), .lit (.int .u8 23), .lit (.int .u8 11), .lit (.int .u8 54), .lit (.int .u8 26), .lit (.int .u8 40), .lit (.int .u8 15), .lit (.int .u8 34), .lit (.int .u8 20), .lit (.int .u8 31), .lit (.int .u8 10), .lit (.int .u8 25), .lit (.int .u8 14), .lit (.int .u8 19), .lit (.int .u8 9), .lit (.int .u8 13), .lit (.int .u8 8), .lit (.int .u8 7), .lit (.int .u8 6)]
def laid_internal_strconv_uint64pow10 {H : Type} : DataW H := .agg [.lit (.int .u64 1), .lit (.int .u64 10), .lit (.int .u64 100), .lit (.int .u64 1000), .lit (.int .u64 10000), .lit (.int .u64 100000), .lit (.int .u64 1000000), .lit (.int .u64 10000000), .lit (.int .u64 100000000), .lit (.int .u64 1000000000), .lit (.int .u64 10000000000), .lit (.int .u64 100000000000), .lit (.int .u64 1000000000000), .lit (.int .u64 10000000000000), .lit (.int .u64 100000000000000), .lit (.int .u64 1000000000000000), .lit (.int .u64 10000000000000000), .lit (.int .u64 100000000000000000), .lit (.int .u64 1000000000000000000), .lit (.int .u64 10000000000000000000)]
def laid_unicode_utf8_acceptRanges {H : Type} : DataW H := .agg [.agg [.lit (.int .u8 128), .lit (.int .u8 191)], .agg [.lit (.int .u8 160), .lit (.int .u8 191)], .agg [.lit (.int .u8 128), .lit (.int .u8 159)], .agg [.lit (.int .u8 144), .lit (.int .u8 191)], .agg [.lit (.int .u8 128), .lit (.int .u8 143)], .agg [.lit (.int .u8 0), .lit (.int .u8 0)], .agg [.lit (.int .u8 0), .lit (.int .u8 0)], .agg [.lit (.int .u8 0), .lit (.int .u8 0)], .agg [.lit (.int .u8 0), .lit (.int .u8 0)], .agg [.lit (.int .u8 0), .lit (.int .u8 0)], .agg [.lit (.int .u8 0), .lit (.int .u8 0)], .agg [.lit (.int .u8 0), .lit (.int .u8 0)], .agg [.lit (.int .u8 0), .lit (.int .u8 0)], .agg [.lit (.int .u8 0), .lit (.int .u8 0)], .agg [.lit (.int .u8 0), .lit (.int .u8 0)], .agg [.lit (.int .u8 0), .lit (.int .u8 0)]]
def laid_strconv_ErrRange {H : Type} : DataW H := .iface "*errors.errorString" (.ptr (.agg [.lit (.string [118, 97, 108, 117, 101, 32, 111, 117, 116, 32, 111, 102, 32, 114, 97, 110, 103, 101])]))
def laid_strconv_ErrSyntax {H : Type} : DataW H := .iface "*errors.errorString" (.ptr (.agg [.lit (.string [105, 110, 118, 97, 108, 105, 100, 32, 115, 121, 110, 116, 97, 120])]))
/-- One of Go's own tables, pinned by name: the form's constant. -/
def laid_unicode_utf8_first : DataW Unit := Go.Pinned.utf8First

/-- 'laws.FnExactTableFind': WHATEVER THE INPUT: true; the input reads as it did. -/
def fnExactTableFindSpec : ChangeSpec := { name := "fnExactTableFind", fn := fun _ => fun
  | [d1, d2] => { results := [.lit (.bool true)], args := [d1, d2] }
  | _ => none }
def fnExactTableFindRow : OpenClaim := { program := "ytkaclcgkndbppaagreatdoor", sum := "ed3d8f771dd2092c82e5f84e06228d75350779defc20b6971586249aa4105eb7", func := "loop.example/changetrail/laws.FnExactTableFind", spec := "fnExactTableFind", inPlace := ["slices.overlaps[string]", "slices.overlaps[loop.example/changetrail/impl.Tree]", "internal/abi.NoEscape", "internal/bytealg.MakeNoZero"], unfollowed := true, recurses := true, named := ["internal/strconv.uint64pow10", "math/bits.deBruijn32tab", "math/bits.deBruijn64tab"], apart := false, laid := [("math/bits.deBruijn32tab", laid_math_bits_deBruijn32tab), ("math/bits.deBruijn64tab", laid_math_bits_deBruijn64tab), ("internal/strconv.uint64pow10", laid_internal_strconv_uint64pow10)] }
def FnExactTableFindSaid : Prop := fnExactTableFindRow.holds Tryz.pinned (OpenSpec.ofChange fnExactTableFindSpec)

/-- ITS FALSE NEIGHBOUR: 'it returns false'. Refute it at one input. -/
def fnExactTableFindWrong : ChangeSpec := { name := "fnExactTableFind", fn := fun _ => fun
  | [d1, d2] => { results := [.lit (.bool false)], args := [d1, d2] }
  | _ => none }
def FnExactTableFindWrongFalsely : Prop := fnExactTableFindRow.holds Tryz.pinned (OpenSpec.ofChange fnExactTableFindWrong)

/-- 'laws.FnExactTableUnder': WHATEVER THE INPUT: true; the input reads as it did. -/
def fnExactTableUnderSpec : ChangeSpec := { name := "fnExactTableUnder", fn := fun _ => fun
  | [d1, d2] => { results := [.lit (.bool true)], args := [d1, d2] }
  | _ => none }
def fnExactTableUnderRow : OpenClaim := { program := "ytkaclcgkndbppaagreatdoor", sum := "ed3d8f771dd2092c82e5f84e06228d75350779defc20b6971586249aa4105eb7", func := "loop.example/changetrail/laws.FnExactTableUnder", spec := "fnExactTableUnder", inPlace := ["slices.overlaps[string]", "slices.overlaps[loop.example/changetrail/impl.Tree]", "internal/abi.NoEscape", "internal/bytealg.MakeNoZero"], unfollowed := true, recurses := true, named := ["internal/strconv.uint64pow10", "math/bits.deBruijn32tab", "math/bits.deBruijn64tab"], apart := false, laid := [("math/bits.deBruijn32tab", laid_math_bits_deBruijn32tab), ("math/bits.deBruijn64tab", laid_math_bits_deBruijn64tab), ("internal/strconv.uint64pow10", laid_internal_strconv_uint64pow10)] }
def FnExactTableUnderSaid : Prop := fnExactTableUnderRow.holds Tryz.pinned (OpenSpec.ofChange fnExactTableUnderSpec)

/-- ITS FALSE NEIGHBOUR: 'it returns false'. Refute it at one input. -/
def fnExactTableUnderWrong : ChangeSpec := { name := "fnExactTableUnder", fn := fun _ => fun
  | [d1, d2] => { results := [.lit (.bool false)], args := [d1, d2] }
  | _ => none }
def FnExactTableUnderWrongFalsely : Prop := fnExactTableUnderRow.holds Tryz.pinned (OpenSpec.ofChange fnExactTableUnderWrong)

/-- 'laws.FnExactTableTree': WHATEVER THE INPUT: true; the input reads as it did. -/
def fnExactTableTreeSpec : ChangeSpec := { name := "fnExactTableTree", fn := fun _ => fun
  | [d] => { results := [.lit (.bool true)], args := [d] }
  | _ => none }
def fnExactTableTreeRow : OpenClaim := { program := "ytkaclcgkndbppaagreatdoor", sum := "ed3d8f771dd2092c82e5f84e06228d75350779defc20b6971586249aa4105eb7", func := "loop.example/changetrail/laws.FnExactTableTree", spec := "fnExactTableTree", inPlace := ["slices.overlaps[string]", "slices.overlaps[loop.example/changetrail/impl.Tree]", "internal/abi.NoEscape", "internal/bytealg.MakeNoZero"], unfollowed := true, recurses := true, named := ["internal/strconv.uint64pow10", "math/bits.deBruijn32tab", "math/bits.deBruijn64tab"], apart := false, laid := [("math/bits.deBruijn32tab", laid_math_bits_deBruijn32tab), ("math/bits.deBruijn64tab", laid_math_bits_deBruijn64tab), ("internal/strconv.uint64pow10", laid_internal_strconv_uint64pow10)] }
def FnExactTableTreeSaid : Prop := fnExactTableTreeRow.holds Tryz.pinned (OpenSpec.ofChange fnExactTableTreeSpec)

/-- ITS FALSE NEIGHBOUR: 'it returns false'. Refute it at one input. -/
def fnExactTableTreeWrong : ChangeSpec := { name := "fnExactTableTree", fn := fun _ => fun
  | [d] => { results := [.lit (.bool false)], args := [d] }
  | _ => none }
def FnExactTableTreeWrongFalsely : Prop := fnExactTableTreeRow.holds Tryz.pinned (OpenSpec.ofChange fnExactTableTreeWrong)

/-- 'laws.FnExactTableNames': WHATEVER THE INPUT: true; the input reads as it did. -/
def fnExactTableNamesSpec : ChangeSpec := { name := "fnExactTableNames", fn := fun _ => fun
  | [d1, d2] => { results := [.lit (.bool true)], args := [d1, d2] }
  | _ => none }
def fnExactTableNamesRow : OpenClaim := { program := "ytkaclcgkndbppaagreatdoor", sum := "ed3d8f771dd2092c82e5f84e06228d75350779defc20b6971586249aa4105eb7", func := "loop.example/changetrail/laws.FnExactTableNames", spec := "fnExactTableNames", inPlace := ["slices.overlaps[string]", "slices.overlaps[loop.example/changetrail/impl.Tree]", "internal/abi.NoEscape", "internal/bytealg.MakeNoZero"], unfollowed := true, recurses := true, named := ["internal/strconv.uint64pow10", "math/bits.deBruijn32tab", "math/bits.deBruijn64tab"], apart := false, laid := [("math/bits.deBruijn32tab", laid_math_bits_deBruijn32tab), ("math/bits.deBruijn64tab", laid_math_bits_deBruijn64tab), ("internal/strconv.uint64pow10", laid_internal_strconv_uint64pow10)] }
def FnExactTableNamesSaid : Prop := fnExactTableNamesRow.holds Tryz.pinned (OpenSpec.ofChange fnExactTableNamesSpec)

/-- ITS FALSE NEIGHBOUR: 'it returns false'. Refute it at one input. -/
def fnExactTableNamesWrong : ChangeSpec := { name := "fnExactTableNames", fn := fun _ => fun
  | [d1, d2] => { results := [.lit (.bool false)], args := [d1, d2] }
  | _ => none }
def FnExactTableNamesWrongFalsely : Prop := fnExactTableNamesRow.holds Tryz.pinned (OpenSpec.ofChange fnExactTableNamesWrong)

/-- 'laws.FnExactStateNew': WHATEVER THE INPUT: true; the input reads as it did. -/
def fnExactStateNewSpec : ChangeSpec := { name := "fnExactStateNew", fn := fun _ => fun
  | [d] => { results := [.lit (.bool true)], args := [d] }
  | _ => none }
def fnExactStateNewRow : OpenClaim := { program := "ytkaclcgkndbppaagreatdoor", sum := "ed3d8f771dd2092c82e5f84e06228d75350779defc20b6971586249aa4105eb7", func := "loop.example/changetrail/laws.FnExactStateNew", spec := "fnExactStateNew", inPlace := ["internal/abi.NoEscape", "internal/bytealg.MakeNoZero"], unfollowed := true, recurses := true, named := ["internal/strconv.uint64pow10", "math/bits.deBruijn32tab", "math/bits.deBruijn64tab"], loops := true, apart := false, laid := [("math/bits.deBruijn32tab", laid_math_bits_deBruijn32tab), ("math/bits.deBruijn64tab", laid_math_bits_deBruijn64tab), ("internal/strconv.uint64pow10", laid_internal_strconv_uint64pow10)] }
def FnExactStateNewSaid : Prop := fnExactStateNewRow.holds Tryz.pinned (OpenSpec.ofChange fnExactStateNewSpec)

/-- ITS FALSE NEIGHBOUR: 'it returns false'. Refute it at one input. -/
def fnExactStateNewWrong : ChangeSpec := { name := "fnExactStateNew", fn := fun _ => fun
  | [d] => { results := [.lit (.bool false)], args := [d] }
  | _ => none }
def FnExactStateNewWrongFalsely : Prop := fnExactStateNewRow.holds Tryz.pinned (OpenSpec.ofChange fnExactStateNewWrong)

/-- 'laws.FnExactUpperRead': WHATEVER THE INPUT: true; the input reads as it did. -/
def fnExactUpperReadSpec : ChangeSpec := { name := "fnExactUpperRead", fn := fun _ => fun
  | [d] => { results := [.lit (.bool true)], args := [d] }
  | _ => none }
def fnExactUpperReadRow : OpenClaim := { program := "ytkaclcgkndbppaagreatdoor", sum := "ed3d8f771dd2092c82e5f84e06228d75350779defc20b6971586249aa4105eb7", func := "loop.example/changetrail/laws.FnExactUpperRead", spec := "fnExactUpperRead", inPlace := ["internal/bytealg.CountString", "internal/bytealg.IndexByteString", "internal/bytealg.IndexString", "internal/abi.NoEscape", "internal/bytealg.MakeNoZero"], recurses := true, named := ["unicode/utf8.first", "unicode/utf8.acceptRanges", "internal/bytealg.MaxLen", "strconv.ErrSyntax", "strconv.ErrRange", "internal/strconv.uint64pow10", "math/bits.deBruijn32tab", "math/bits.deBruijn64tab"], apart := false, laid := [("math/bits.deBruijn32tab", laid_math_bits_deBruijn32tab), ("math/bits.deBruijn64tab", laid_math_bits_deBruijn64tab), ("internal/strconv.uint64pow10", laid_internal_strconv_uint64pow10), ("unicode/utf8.acceptRanges", laid_unicode_utf8_acceptRanges), ("strconv.ErrRange", laid_strconv_ErrRange), ("strconv.ErrSyntax", laid_strconv_ErrSyntax), ("unicode/utf8.first", laid_unicode_utf8_first)] }
def FnExactUpperReadSaid : Prop := fnExactUpperReadRow.holds Tryz.pinned (OpenSpec.ofChange fnExactUpperReadSpec)

/-- ITS FALSE NEIGHBOUR: 'it returns false'. Refute it at one input. -/
def fnExactUpperReadWrong : ChangeSpec := { name := "fnExactUpperRead", fn := fun _ => fun
  | [d] => { results := [.lit (.bool false)], args := [d] }
  | _ => none }
def FnExactUpperReadWrongFalsely : Prop := fnExactUpperReadRow.holds Tryz.pinned (OpenSpec.ofChange fnExactUpperReadWrong)

/-- 'laws.FnExactTreeParse': WHATEVER THE INPUT: true; the input reads as it did. -/
def fnExactTreeParseSpec : ChangeSpec := { name := "fnExactTreeParse", fn := fun _ => fun
  | [d] => { results := [.lit (.bool true)], args := [d] }
  | _ => none }
def fnExactTreeParseRow : OpenClaim := { program := "ytkaclcgkndbppaagreatdoor", sum := "ed3d8f771dd2092c82e5f84e06228d75350779defc20b6971586249aa4105eb7", func := "loop.example/changetrail/laws.FnExactTreeParse", spec := "fnExactTreeParse", inPlace := ["internal/bytealg.CountString", "internal/bytealg.IndexByteString", "internal/bytealg.IndexString", "slices.overlaps[string]", "slices.overlaps[loop.example/changetrail/impl.Tree]", "internal/abi.NoEscape", "internal/bytealg.MakeNoZero"], unfollowed := true, recurses := true, named := ["unicode/utf8.first", "unicode/utf8.acceptRanges", "internal/bytealg.MaxLen", "strconv.ErrSyntax", "strconv.ErrRange", "internal/strconv.uint64pow10", "math/bits.deBruijn32tab", "math/bits.deBruijn64tab"], apart := false, laid := [("math/bits.deBruijn32tab", laid_math_bits_deBruijn32tab), ("math/bits.deBruijn64tab", laid_math_bits_deBruijn64tab), ("internal/strconv.uint64pow10", laid_internal_strconv_uint64pow10), ("unicode/utf8.acceptRanges", laid_unicode_utf8_acceptRanges), ("strconv.ErrRange", laid_strconv_ErrRange), ("strconv.ErrSyntax", laid_strconv_ErrSyntax), ("unicode/utf8.first", laid_unicode_utf8_first)] }
def FnExactTreeParseSaid : Prop := fnExactTreeParseRow.holds Tryz.pinned (OpenSpec.ofChange fnExactTreeParseSpec)

/-- ITS FALSE NEIGHBOUR: 'it returns false'. Refute it at one input. -/
def fnExactTreeParseWrong : ChangeSpec := { name := "fnExactTreeParse", fn := fun _ => fun
  | [d] => { results := [.lit (.bool false)], args := [d] }
  | _ => none }
def FnExactTreeParseWrongFalsely : Prop := fnExactTreeParseRow.holds Tryz.pinned (OpenSpec.ofChange fnExactTreeParseWrong)

/-- 'laws.FnExactUpperOf': WHATEVER THE INPUT: true; the input reads as it did. -/
def fnExactUpperOfSpec : ChangeSpec := { name := "fnExactUpperOf", fn := fun _ => fun
  | [d1, d2] => { results := [.lit (.bool true)], args := [d1, d2] }
  | _ => none }
def fnExactUpperOfRow : OpenClaim := { program := "ytkaclcgkndbppaagreatdoor", sum := "ed3d8f771dd2092c82e5f84e06228d75350779defc20b6971586249aa4105eb7", func := "loop.example/changetrail/laws.FnExactUpperOf", spec := "fnExactUpperOf", inPlace := ["slices.overlaps[string]", "slices.overlaps[loop.example/changetrail/impl.Tree]", "internal/abi.NoEscape", "internal/bytealg.MakeNoZero"], unfollowed := true, recurses := true, named := ["internal/strconv.uint64pow10", "math/bits.deBruijn32tab", "math/bits.deBruijn64tab"], loops := true, apart := false, laid := [("math/bits.deBruijn32tab", laid_math_bits_deBruijn32tab), ("math/bits.deBruijn64tab", laid_math_bits_deBruijn64tab), ("internal/strconv.uint64pow10", laid_internal_strconv_uint64pow10)] }
def FnExactUpperOfSaid : Prop := fnExactUpperOfRow.holds Tryz.pinned (OpenSpec.ofChange fnExactUpperOfSpec)

/-- ITS FALSE NEIGHBOUR: 'it returns false'. Refute it at one input. -/
def fnExactUpperOfWrong : ChangeSpec := { name := "fnExactUpperOf", fn := fun _ => fun
  | [d1, d2] => { results := [.lit (.bool false)], args := [d1, d2] }
  | _ => none }
def FnExactUpperOfWrongFalsely : Prop := fnExactUpperOfRow.holds Tryz.pinned (OpenSpec.ofChange fnExactUpperOfWrong)

/-- 'laws.FnExactUpperOk': WHATEVER THE INPUT: true; the input reads as it did. -/
def fnExactUpperOkSpec : ChangeSpec := { name := "fnExactUpperOk", fn := fun _ => fun
  | [d1, d2] => { results := [.lit (.bool true)], args := [d1, d2] }
  | _ => none }
def fnExactUpperOkRow : OpenClaim := { program := "ytkaclcgkndbppaagreatdoor", sum := "ed3d8f771dd2092c82e5f84e06228d75350779defc20b6971586249aa4105eb7", func := "loop.example/changetrail/laws.FnExactUpperOk", spec := "fnExactUpperOk", inPlace := ["slices.overlaps[string]", "slices.overlaps[loop.example/changetrail/impl.Tree]", "internal/abi.NoEscape", "internal/bytealg.MakeNoZero"], unfollowed := true, recurses := true, named := ["internal/strconv.uint64pow10", "math/bits.deBruijn32tab", "math/bits.deBruijn64tab"], apart := false, laid := [("math/bits.deBruijn32tab", laid_math_bits_deBruijn32tab), ("math/bits.deBruijn64tab", laid_math_bits_deBruijn64tab), ("internal/strconv.uint64pow10", laid_internal_strconv_uint64pow10)] }
def FnExactUpperOkSaid : Prop := fnExactUpperOkRow.holds Tryz.pinned (OpenSpec.ofChange fnExactUpperOkSpec)

/-- ITS FALSE NEIGHBOUR: 'it returns false'. Refute it at one input. -/
def fnExactUpperOkWrong : ChangeSpec := { name := "fnExactUpperOk", fn := fun _ => fun
  | [d1, d2] => { results := [.lit (.bool false)], args := [d1, d2] }
  | _ => none }
def FnExactUpperOkWrongFalsely : Prop := fnExactUpperOkRow.holds Tryz.pinned (OpenSpec.ofChange fnExactUpperOkWrong)

/-- 'laws.FnExactUpperNames': WHATEVER THE INPUT: true; the input reads as it did. -/
def fnExactUpperNamesSpec : ChangeSpec := { name := "fnExactUpperNames", fn := fun _ => fun
  | [d1, d2, d3] => { results := [.lit (.bool true)], args := [d1, d2, d3] }
  | _ => none }
def fnExactUpperNamesRow : OpenClaim := { program := "ytkaclcgkndbppaagreatdoor", sum := "ed3d8f771dd2092c82e5f84e06228d75350779defc20b6971586249aa4105eb7", func := "loop.example/changetrail/laws.FnExactUpperNames", spec := "fnExactUpperNames", inPlace := ["slices.overlaps[string]", "slices.overlaps[loop.example/changetrail/impl.Tree]", "internal/abi.NoEscape", "internal/bytealg.MakeNoZero"], unfollowed := true, recurses := true, named := ["internal/strconv.uint64pow10", "math/bits.deBruijn32tab", "math/bits.deBruijn64tab"], apart := false, laid := [("math/bits.deBruijn32tab", laid_math_bits_deBruijn32tab), ("math/bits.deBruijn64tab", laid_math_bits_deBruijn64tab), ("internal/strconv.uint64pow10", laid_internal_strconv_uint64pow10)] }
def FnExactUpperNamesSaid : Prop := fnExactUpperNamesRow.holds Tryz.pinned (OpenSpec.ofChange fnExactUpperNamesSpec)

/-- ITS FALSE NEIGHBOUR: 'it returns false'. Refute it at one input. -/
def fnExactUpperNamesWrong : ChangeSpec := { name := "fnExactUpperNames", fn := fun _ => fun
  | [d1, d2, d3] => { results := [.lit (.bool false)], args := [d1, d2, d3] }
  | _ => none }
def FnExactUpperNamesWrongFalsely : Prop := fnExactUpperNamesRow.holds Tryz.pinned (OpenSpec.ofChange fnExactUpperNamesWrong)

/-- 'laws.FnExactUpperTree': WHATEVER THE INPUT: true; the input reads as it did. -/
def fnExactUpperTreeSpec : ChangeSpec := { name := "fnExactUpperTree", fn := fun _ => fun
  | [d1, d2] => { results := [.lit (.bool true)], args := [d1, d2] }
  | _ => none }
def fnExactUpperTreeRow : OpenClaim := { program := "ytkaclcgkndbppaagreatdoor", sum := "ed3d8f771dd2092c82e5f84e06228d75350779defc20b6971586249aa4105eb7", func := "loop.example/changetrail/laws.FnExactUpperTree", spec := "fnExactUpperTree", inPlace := ["slices.overlaps[string]", "slices.overlaps[loop.example/changetrail/impl.Tree]", "internal/abi.NoEscape", "internal/bytealg.MakeNoZero"], unfollowed := true, recurses := true, named := ["internal/strconv.uint64pow10", "math/bits.deBruijn32tab", "math/bits.deBruijn64tab"], apart := false, laid := [("math/bits.deBruijn32tab", laid_math_bits_deBruijn32tab), ("math/bits.deBruijn64tab", laid_math_bits_deBruijn64tab), ("internal/strconv.uint64pow10", laid_internal_strconv_uint64pow10)] }
def FnExactUpperTreeSaid : Prop := fnExactUpperTreeRow.holds Tryz.pinned (OpenSpec.ofChange fnExactUpperTreeSpec)

/-- ITS FALSE NEIGHBOUR: 'it returns false'. Refute it at one input. -/
def fnExactUpperTreeWrong : ChangeSpec := { name := "fnExactUpperTree", fn := fun _ => fun
  | [d1, d2] => { results := [.lit (.bool false)], args := [d1, d2] }
  | _ => none }
def FnExactUpperTreeWrongFalsely : Prop := fnExactUpperTreeRow.holds Tryz.pinned (OpenSpec.ofChange fnExactUpperTreeWrong)

/- THE SECOND FORM. 'bulk': how many values and letters a reading holds, each counted each time it is reached (what is shared counts as often as it is met; a slice's spare places count too). A statement '..UptoSaid' is the law's where the arguments, and the package variables that the reading takes, are together of bulk at most 1048576: NARROWER than '..Said'. Prove '..Said' where nothing that the law and all that it calls make is longer than what came in: it says more and counts as full. Else prove '..UptoSaid'. A law counts once. -/
mutual
def uptoBulk {H : Type} : DataW H → Nat
  | .lit (.string bytes) => bytes.length + 1
  | .lit _ => 1
  | .nil => 1
  | .ptr d => uptoBulk d + 1
  | .slice elems spare => uptoBulkAll elems + uptoBulkAll spare + 1
  | .agg parts => uptoBulkAll parts + 1
  | .iface _ d => uptoBulk d + 1
  | .map entries => uptoBulkEntries entries + 1
  | .held _ => 1
def uptoBulkAll {H : Type} : List (DataW H) → Nat
  | [] => 0
  | d :: r => uptoBulk d + uptoBulkAll r
def uptoBulkEntries {H : Type} : List (Lit × DataW H) → Nat
  | [] => 0
  | x :: r => uptoBulkEntry x + uptoBulkEntries r
def uptoBulkEntry {H : Type} : Lit × DataW H → Nat
  | (.string bytes, d) => bytes.length + uptoBulk d + 1
  | (_, d) => uptoBulk d + 1
 end
def uptoSmall : (H : Type) → List (DataW H) → Bool := fun _ ds => decide (uptoBulkAll ds ≤ 1048576)
def OpenSpec.upto (s : _root_.Go.ChangeSpec) : _root_.Go.OpenSpec := { _root_.Go.OpenSpec.ofChange s with cond := some uptoSmall }

/-- 'laws.FnExactTableFind', WHERE WHAT IT READS IS OF BULK AT MOST 1048576: true; the input reads as it did. -/
def fnExactTableFindUptoRow : OpenClaim := { program := "ytkaclcgkndbppaagreatdoor", sum := "ed3d8f771dd2092c82e5f84e06228d75350779defc20b6971586249aa4105eb7", func := "loop.example/changetrail/laws.FnExactTableFind", spec := "fnExactTableFind", inPlace := ["slices.overlaps[string]", "slices.overlaps[loop.example/changetrail/impl.Tree]", "internal/abi.NoEscape", "internal/bytealg.MakeNoZero"], unfollowed := true, recurses := true, named := ["internal/strconv.uint64pow10", "math/bits.deBruijn32tab", "math/bits.deBruijn64tab"], apart := false, laid := [("math/bits.deBruijn32tab", laid_math_bits_deBruijn32tab), ("math/bits.deBruijn64tab", laid_math_bits_deBruijn64tab), ("internal/strconv.uint64pow10", laid_internal_strconv_uint64pow10)], narrowed := true }
def FnExactTableFindUptoSaid : Prop := fnExactTableFindUptoRow.holds Tryz.pinned (OpenSpec.upto fnExactTableFindSpec)

/-- 'laws.FnExactTableUnder', WHERE WHAT IT READS IS OF BULK AT MOST 1048576: true; the input reads as it did. -/
def fnExactTableUnderUptoRow : OpenClaim := { program := "ytkaclcgkndbppaagreatdoor", sum := "ed3d8f771dd2092c82e5f84e06228d75350779defc20b6971586249aa4105eb7", func := "loop.example/changetrail/laws.FnExactTableUnder", spec := "fnExactTableUnder", inPlace := ["slices.overlaps[string]", "slices.overlaps[loop.example/changetrail/impl.Tree]", "internal/abi.NoEscape", "internal/bytealg.MakeNoZero"], unfollowed := true, recurses := true, named := ["internal/strconv.uint64pow10", "math/bits.deBruijn32tab", "math/bits.deBruijn64tab"], apart := false, laid := [("math/bits.deBruijn32tab", laid_math_bits_deBruijn32tab), ("math/bits.deBruijn64tab", laid_math_bits_deBruijn64tab), ("internal/strconv.uint64pow10", laid_internal_strconv_uint64pow10)], narrowed := true }
def FnExactTableUnderUptoSaid : Prop := fnExactTableUnderUptoRow.holds Tryz.pinned (OpenSpec.upto fnExactTableUnderSpec)

/-- 'laws.FnExactTableTree', WHERE WHAT IT READS IS OF BULK AT MOST 1048576: true; the input reads as it did. -/
def fnExactTableTreeUptoRow : OpenClaim := { program := "ytkaclcgkndbppaagreatdoor", sum := "ed3d8f771dd2092c82e5f84e06228d75350779defc20b6971586249aa4105eb7", func := "loop.example/changetrail/laws.FnExactTableTree", spec := "fnExactTableTree", inPlace := ["slices.overlaps[string]", "slices.overlaps[loop.example/changetrail/impl.Tree]", "internal/abi.NoEscape", "internal/bytealg.MakeNoZero"], unfollowed := true, recurses := true, named := ["internal/strconv.uint64pow10", "math/bits.deBruijn32tab", "math/bits.deBruijn64tab"], apart := false, laid := [("math/bits.deBruijn32tab", laid_math_bits_deBruijn32tab), ("math/bits.deBruijn64tab", laid_math_bits_deBruijn64tab), ("internal/strconv.uint64pow10", laid_internal_strconv_uint64pow10)], narrowed := true }
def FnExactTableTreeUptoSaid : Prop := fnExactTableTreeUptoRow.holds Tryz.pinned (OpenSpec.upto fnExactTableTreeSpec)

/-- 'laws.FnExactTableNames', WHERE WHAT IT READS IS OF BULK AT MOST 1048576: true; the input reads as it did. -/
def fnExactTableNamesUptoRow : OpenClaim := { program := "ytkaclcgkndbppaagreatdoor", sum := "ed3d8f771dd2092c82e5f84e06228d75350779defc20b6971586249aa4105eb7", func := "loop.example/changetrail/laws.FnExactTableNames", spec := "fnExactTableNames", inPlace := ["slices.overlaps[string]", "slices.overlaps[loop.example/changetrail/impl.Tree]", "internal/abi.NoEscape", "internal/bytealg.MakeNoZero"], unfollowed := true, recurses := true, named := ["internal/strconv.uint64pow10", "math/bits.deBruijn32tab", "math/bits.deBruijn64tab"], apart := false, laid := [("math/bits.deBruijn32tab", laid_math_bits_deBruijn32tab), ("math/bits.deBruijn64tab", laid_math_bits_deBruijn64tab), ("internal/strconv.uint64pow10", laid_internal_strconv_uint64pow10)], narrowed := true }
def FnExactTableNamesUptoSaid : Prop := fnExactTableNamesUptoRow.holds Tryz.pinned (OpenSpec.upto fnExactTableNamesSpec)

/-- 'laws.FnExactStateNew', WHERE WHAT IT READS IS OF BULK AT MOST 1048576: true; the input reads as it did. -/
def fnExactStateNewUptoRow : OpenClaim := { program := "ytkaclcgkndbppaagreatdoor", sum := "ed3d8f771dd2092c82e5f84e06228d75350779defc20b6971586249aa4105eb7", func := "loop.example/changetrail/laws.FnExactStateNew", spec := "fnExactStateNew", inPlace := ["internal/abi.NoEscape", "internal/bytealg.MakeNoZero"], unfollowed := true, recurses := true, named := ["internal/strconv.uint64pow10", "math/bits.deBruijn32tab", "math/bits.deBruijn64tab"], loops := true, apart := false, laid := [("math/bits.deBruijn32tab", laid_math_bits_deBruijn32tab), ("math/bits.deBruijn64tab", laid_math_bits_deBruijn64tab), ("internal/strconv.uint64pow10", laid_internal_strconv_uint64pow10)], narrowed := true }
def FnExactStateNewUptoSaid : Prop := fnExactStateNewUptoRow.holds Tryz.pinned (OpenSpec.upto fnExactStateNewSpec)

/-- 'laws.FnExactUpperRead', WHERE WHAT IT READS IS OF BULK AT MOST 1048576: true; the input reads as it did. -/
def fnExactUpperReadUptoRow : OpenClaim := { program := "ytkaclcgkndbppaagreatdoor", sum := "ed3d8f771dd2092c82e5f84e06228d75350779defc20b6971586249aa4105eb7", func := "loop.example/changetrail/laws.FnExactUpperRead", spec := "fnExactUpperRead", inPlace := ["internal/bytealg.CountString", "internal/bytealg.IndexByteString", "internal/bytealg.IndexString", "internal/abi.NoEscape", "internal/bytealg.MakeNoZero"], recurses := true, named := ["unicode/utf8.first", "unicode/utf8.acceptRanges", "internal/bytealg.MaxLen", "strconv.ErrSyntax", "strconv.ErrRange", "internal/strconv.uint64pow10", "math/bits.deBruijn32tab", "math/bits.deBruijn64tab"], apart := false, laid := [("math/bits.deBruijn32tab", laid_math_bits_deBruijn32tab), ("math/bits.deBruijn64tab", laid_math_bits_deBruijn64tab), ("internal/strconv.uint64pow10", laid_internal_strconv_uint64pow10), ("unicode/utf8.acceptRanges", laid_unicode_utf8_acceptRanges), ("strconv.ErrRange", laid_strconv_ErrRange), ("strconv.ErrSyntax", laid_strconv_ErrSyntax), ("unicode/utf8.first", laid_unicode_utf8_first)], narrowed := true }
def FnExactUpperReadUptoSaid : Prop := fnExactUpperReadUptoRow.holds Tryz.pinned (OpenSpec.upto fnExactUpperReadSpec)

/-- 'laws.FnExactTreeParse', WHERE WHAT IT READS IS OF BULK AT MOST 1048576: true; the input reads as it did. -/
def fnExactTreeParseUptoRow : OpenClaim := { program := "ytkaclcgkndbppaagreatdoor", sum := "ed3d8f771dd2092c82e5f84e06228d75350779defc20b6971586249aa4105eb7", func := "loop.example/changetrail/laws.FnExactTreeParse", spec := "fnExactTreeParse", inPlace := ["internal/bytealg.CountString", "internal/bytealg.IndexByteString", "internal/bytealg.IndexString", "slices.overlaps[string]", "slices.overlaps[loop.example/changetrail/impl.Tree]", "internal/abi.NoEscape", "internal/bytealg.MakeNoZero"], unfollowed := true, recurses := true, named := ["unicode/utf8.first", "unicode/utf8.acceptRanges", "internal/bytealg.MaxLen", "strconv.ErrSyntax", "strconv.ErrRange", "internal/strconv.uint64pow10", "math/bits.deBruijn32tab", "math/bits.deBruijn64tab"], apart := false, laid := [("math/bits.deBruijn32tab", laid_math_bits_deBruijn32tab), ("math/bits.deBruijn64tab", laid_math_bits_deBruijn64tab), ("internal/strconv.uint64pow10", laid_internal_strconv_uint64pow10), ("unicode/utf8.acceptRanges", laid_unicode_utf8_acceptRanges), ("strconv.ErrRange", laid_strconv_ErrRange), ("strconv.ErrSyntax", laid_strconv_ErrSyntax), ("unicode/utf8.first", laid_unicode_utf8_first)], narrowed := true }
def FnExactTreeParseUptoSaid : Prop := fnExactTreeParseUptoRow.holds Tryz.pinned (OpenSpec.upto fnExactTreeParseSpec)

/-- 'laws.FnExactUpperOf', WHERE WHAT IT READS IS OF BULK AT MOST 1048576: true; the input reads as it did. -/
def fnExactUpperOfUptoRow : OpenClaim := { program := "ytkaclcgkndbppaagreatdoor", sum := "ed3d8f771dd2092c82e5f84e06228d75350779defc20b6971586249aa4105eb7", func := "loop.example/changetrail/laws.FnExactUpperOf", spec := "fnExactUpperOf", inPlace := ["slices.overlaps[string]", "slices.overlaps[loop.example/changetrail/impl.Tree]", "internal/abi.NoEscape", "internal/bytealg.MakeNoZero"], unfollowed := true, recurses := true, named := ["internal/strconv.uint64pow10", "math/bits.deBruijn32tab", "math/bits.deBruijn64tab"], loops := true, apart := false, laid := [("math/bits.deBruijn32tab", laid_math_bits_deBruijn32tab), ("math/bits.deBruijn64tab", laid_math_bits_deBruijn64tab), ("internal/strconv.uint64pow10", laid_internal_strconv_uint64pow10)], narrowed := true }
def FnExactUpperOfUptoSaid : Prop := fnExactUpperOfUptoRow.holds Tryz.pinned (OpenSpec.upto fnExactUpperOfSpec)

/-- 'laws.FnExactUpperOk', WHERE WHAT IT READS IS OF BULK AT MOST 1048576: true; the input reads as it did. -/
def fnExactUpperOkUptoRow : OpenClaim := { program := "ytkaclcgkndbppaagreatdoor", sum := "ed3d8f771dd2092c82e5f84e06228d75350779defc20b6971586249aa4105eb7", func := "loop.example/changetrail/laws.FnExactUpperOk", spec := "fnExactUpperOk", inPlace := ["slices.overlaps[string]", "slices.overlaps[loop.example/changetrail/impl.Tree]", "internal/abi.NoEscape", "internal/bytealg.MakeNoZero"], unfollowed := true, recurses := true, named := ["internal/strconv.uint64pow10", "math/bits.deBruijn32tab", "math/bits.deBruijn64tab"], apart := false, laid := [("math/bits.deBruijn32tab", laid_math_bits_deBruijn32tab), ("math/bits.deBruijn64tab", laid_math_bits_deBruijn64tab), ("internal/strconv.uint64pow10", laid_internal_strconv_uint64pow10)], narrowed := true }
def FnExactUpperOkUptoSaid : Prop := fnExactUpperOkUptoRow.holds Tryz.pinned (OpenSpec.upto fnExactUpperOkSpec)

/-- 'laws.FnExactUpperNames', WHERE WHAT IT READS IS OF BULK AT MOST 1048576: true; the input reads as it did. -/
def fnExactUpperNamesUptoRow : OpenClaim := { program := "ytkaclcgkndbppaagreatdoor", sum := "ed3d8f771dd2092c82e5f84e06228d75350779defc20b6971586249aa4105eb7", func := "loop.example/changetrail/laws.FnExactUpperNames", spec := "fnExactUpperNames", inPlace := ["slices.overlaps[string]", "slices.overlaps[loop.example/changetrail/impl.Tree]", "internal/abi.NoEscape", "internal/bytealg.MakeNoZero"], unfollowed := true, recurses := true, named := ["internal/strconv.uint64pow10", "math/bits.deBruijn32tab", "math/bits.deBruijn64tab"], apart := false, laid := [("math/bits.deBruijn32tab", laid_math_bits_deBruijn32tab), ("math/bits.deBruijn64tab", laid_math_bits_deBruijn64tab), ("internal/strconv.uint64pow10", laid_internal_strconv_uint64pow10)], narrowed := true }
def FnExactUpperNamesUptoSaid : Prop := fnExactUpperNamesUptoRow.holds Tryz.pinned (OpenSpec.upto fnExactUpperNamesSpec)

/-- 'laws.FnExactUpperTree', WHERE WHAT IT READS IS OF BULK AT MOST 1048576: true; the input reads as it did. -/
def fnExactUpperTreeUptoRow : OpenClaim := { program := "ytkaclcgkndbppaagreatdoor", sum := "ed3d8f771dd2092c82e5f84e06228d75350779defc20b6971586249aa4105eb7", func := "loop.example/changetrail/laws.FnExactUpperTree", spec := "fnExactUpperTree", inPlace := ["slices.overlaps[string]", "slices.overlaps[loop.example/changetrail/impl.Tree]", "internal/abi.NoEscape", "internal/bytealg.MakeNoZero"], unfollowed := true, recurses := true, named := ["internal/strconv.uint64pow10", "math/bits.deBruijn32tab", "math/bits.deBruijn64tab"], apart := false, laid := [("math/bits.deBruijn32tab", laid_math_bits_deBruijn32tab), ("math/bits.deBruijn64tab", laid_math_bits_deBruijn64tab), ("internal/strconv.uint64pow10", laid_internal_strconv_uint64pow10)], narrowed := true }
def FnExactUpperTreeUptoSaid : Prop := fnExactUpperTreeUptoRow.holds Tryz.pinned (OpenSpec.upto fnExactUpperTreeSpec)

end Rows
end Go.Proofs.YtkaclcgkndbppaaGreatDoor
