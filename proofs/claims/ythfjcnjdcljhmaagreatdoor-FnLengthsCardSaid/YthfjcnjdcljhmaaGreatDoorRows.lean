/-
  NARROWER THAN 'FOR EVERY INPUT', by the rows' own cells (each row's printed sentence says how): FnGroups: laid · FnEqualMany: laid · FnHere: laid · FnTwoNumbers: laid · FnLeft: laid · FnLongest: laid · FnNested: laid · FnTwoTrees: laid · FnTwoEach: laid · FnLengths: laid · FnEither: laid · FnStars: laid.
  DERIVED. THE GIVEN ROWS OF THIS SEAT. 12 by the template 'for every input the law returns true; each argument reads behind the call as it read before'; 0 by the template 'total and deterministic' (their statements: YthfjcnjdcljhmaaGreatDoorTotals.lean).
  GIVEN WITH THE SEED: the statements are not yours to turn. If you find one false, say at which input.
  Laid BY PROGRAM, IN A SANDBOX (cutbox-rows.mjs): the forced cells as the released guide's own fill.sh prints them over the translation 4c3189416c9abe13… (all of the seat's roots in one cut). By AI agents, Wed Nov 11 2026. No macro, syntax, notation, axiom, sorry.
-/
import Derived.Test.YthfjcnjdcljhmaaGreatDoorChecked
import GoSem.Claim
import GoSem.ClaimJoined
import GoSem.ClaimMapViews
import Derived.JoinedTies
import Derived.KernelRfl
namespace Go.Proofs.YthfjcnjdcljhmaaGreatDoor
/- THE CELL 'sum', in the pinned program and in every row, IS THE sha256 OF THE DUMP (.gsa) THAT YthfjcnjdcljhmaaGreatDoorProg.lean LOADS. Nothing in Lean hashes anything: it is a label: what it is worth is what the hold of that sum in a sandbox is worth. -/
noncomputable def Tryz.pinned : Pinned := { name := "ythfjcnjdcljhmaagreatdoor", sum := "4c3189416c9abe13e67bbfcfffe12e9c9423f3743ff2162f5eb47dda40d6d07d", checked := Tryz.checked }
namespace Rows
def none {H : Type} : Left H := { results := [], args := [] }

/- WHAT THE LISTED PACKAGE-LEVEL VARIABLES READ AS WHEN THE CALL BEGINS. Each datum BY PROGRAM (the guide's laid-datum.mjs) off the statement by which the dump's own 'gosem.cut.vars' lays the variable. In a bare row this is a premise. The card (YthfjcnjdcljhmaaGreatDoorCards.lean) ties it to the program's text. -/
def laid_math_bits_deBruijn32tab {H : Type} : DataW H := .agg [.lit (.int .u8 0), .lit (.int .u8 1), .lit (.int .u8 28), .lit (.int .u8 2), .lit (.int .u8 29), .lit (.int .u8 14), .lit (.int .u8 24), .lit (.int .u8 3), .lit (.int .u8 30), .lit (.int .u8 22), .lit (.int .u8 20), .lit (.int .u8 15), .lit (.int .u8 25), .lit (.int .u8 17), .lit (.int .u8 4), .lit (.int .u8 8), .lit (.int .u8 31), .lit (.int .u8 27), .lit (.int .u8 13), .lit (.int .u8 23), .lit (.int .u8 21), .lit (.int .u8 19), .lit (.int .u8 16), .lit (.int .u8 7), .lit (.int .u8 26), .lit (.int .u8 12), .lit (.int .u8 18), .lit (.int .u8 6), .lit (.int .u8 11), .lit (.int .u8 5), .lit (.int .u8 10), .lit (.int .u8 9)]
def laid_math_bits_deBruijn64tab {H : Type} : DataW H := .agg [.lit (.int .u8 0), .lit (.int .u8 1), .lit (.int .u8 56), .lit (.int .u8 2), .lit (.int .u8 57), .lit (.int .u8 49), .lit (.int .u8 28), .lit (.int .u8 3), .lit (.int .u8 61), .lit (.int .u8 58), .lit (.int .u8 42), .lit (.int .u8 50), .lit (.int .u8 38), .lit (.int .u8 29), .lit (.int .u8 17), .lit (.int .u8 4), .lit (.int .u8 62), .lit (.int .u8 47), .lit (.int .u8 59), .lit (.int .u8 36), .lit (.int .u8 45), .lit (.int .u8 43), .lit (.int .u8 51), .lit (.int .u8 22), .lit (.int .u8 53), .lit (.int .u8 39), .lit (.int .u8 33), .lit (.int .u8 30), .lit (.int .u8 24), .lit (.int .u8 18), .lit (.int .u8 12), .lit (.int .u8 5), .lit (.int .u8 63), .lit (.int .u8 55), .lit (.int .u8 48), .lit (.int .u8 27), .lit (.int .u8 60), .lit (.int .u8 41), .lit (.int .u8 37), .lit (.int .u8 16), .lit (.int .u8 46), .lit (.int .u8 35), .lit (.int .u8 44), .lit (.int .u8 21), .lit (.int .u8 52), .lit (.int .u8 32), .lit (.int .u8 23), .lit (.int .u8 11), .lit (.int .u8 54), .lit (.int .u8 26), .lit (.int .u8 40), .lit (.int .u8 15), .lit (.int .u8 34), .lit (.int .u8 20), .lit (.int .u8 31), .lit (.int .u8 10), .lit (.int .u8 25), .lit (.int .u8 14), .lit (.int .u8 19), .lit (.int .u8 9), .lit (.int .u8 13), .lit (.int .u8 8), .lit (.int .u8 7), .lit (.int .u8 6)]
def laid_internal_strconv_uint64pow10 {H : Type} : DataW H := .agg [.lit (.int .u64 1), .lit (.int .u64 10), .lit (.int .u64 100), .lit (.int .u64 1000), .lit (.int .u64 10000), .lit (.int .u64 100000), .lit (.int .u64 1000000), .lit (.int .u64 10000000), .lit (.int .u64 100000000), .lit (.int .u64 1000000000), .lit (.int .u64 10000000000), .lit (.int .u64 100000000000), .lit (.int .u64 1000000000000), .lit (.int .u64 10000000000000), .lit (.int .u64 100000000000000), .lit (.int .u64 1000000000000000), .lit (.int .u64 10000000000000000), .lit (.int .u64 100000000000000000), .lit (.int .u64 1000000000000000000), .lit (.int .u64 10000000000000000000)]

/-- 'laws.FnGroups': WHATEVER THE INPUT: true; the input reads as it did. -/
def fnGroupsSpec : ChangeSpec := { name := "fnGroups", fn := fun _ => fun
  | [d] => { results := [.lit (.bool true)], args := [d] }
  | _ => none }
def fnGroupsRow : OpenClaim := { program := "ythfjcnjdcljhmaagreatdoor", sum := "4c3189416c9abe13e67bbfcfffe12e9c9423f3743ff2162f5eb47dda40d6d07d", func := "loop.example/g00243/laws.FnGroups", spec := "fnGroups", inPlace := ["internal/bytealg.IndexByteString", "internal/abi.NoEscape", "internal/bytealg.MakeNoZero", "slices.overlaps[int]"], unfollowed := true, recurses := true, named := ["internal/strconv.uint64pow10", "math/bits.deBruijn32tab", "math/bits.deBruijn64tab"], apart := false, laid := [("math/bits.deBruijn32tab", laid_math_bits_deBruijn32tab), ("math/bits.deBruijn64tab", laid_math_bits_deBruijn64tab), ("internal/strconv.uint64pow10", laid_internal_strconv_uint64pow10)] }
def FnGroupsSaid : Prop := fnGroupsRow.holds Tryz.pinned (OpenSpec.ofChange fnGroupsSpec)

/-- ITS FALSE NEIGHBOUR: 'it returns false'. Refute it at one input. -/
def fnGroupsWrong : ChangeSpec := { name := "fnGroups", fn := fun _ => fun
  | [d] => { results := [.lit (.bool false)], args := [d] }
  | _ => none }
def FnGroupsWrongFalsely : Prop := fnGroupsRow.holds Tryz.pinned (OpenSpec.ofChange fnGroupsWrong)

/-- 'laws.FnEqualMany': WHATEVER THE INPUT: true; the input reads as it did. -/
def fnEqualManySpec : ChangeSpec := { name := "fnEqualMany", fn := fun _ => fun
  | [d] => { results := [.lit (.bool true)], args := [d] }
  | _ => none }
def fnEqualManyRow : OpenClaim := { program := "ythfjcnjdcljhmaagreatdoor", sum := "4c3189416c9abe13e67bbfcfffe12e9c9423f3743ff2162f5eb47dda40d6d07d", func := "loop.example/g00243/laws.FnEqualMany", spec := "fnEqualMany", inPlace := ["internal/bytealg.IndexByteString", "internal/abi.NoEscape", "internal/bytealg.MakeNoZero", "slices.overlaps[int]"], unfollowed := true, recurses := true, named := ["internal/strconv.uint64pow10", "math/bits.deBruijn32tab", "math/bits.deBruijn64tab"], apart := false, laid := [("math/bits.deBruijn32tab", laid_math_bits_deBruijn32tab), ("math/bits.deBruijn64tab", laid_math_bits_deBruijn64tab), ("internal/strconv.uint64pow10", laid_internal_strconv_uint64pow10)] }
def FnEqualManySaid : Prop := fnEqualManyRow.holds Tryz.pinned (OpenSpec.ofChange fnEqualManySpec)

/-- ITS FALSE NEIGHBOUR: 'it returns false'. Refute it at one input. -/
def fnEqualManyWrong : ChangeSpec := { name := "fnEqualMany", fn := fun _ => fun
  | [d] => { results := [.lit (.bool false)], args := [d] }
  | _ => none }
def FnEqualManyWrongFalsely : Prop := fnEqualManyRow.holds Tryz.pinned (OpenSpec.ofChange fnEqualManyWrong)

/-- 'laws.FnHere': WHATEVER THE INPUT: true; the input reads as it did. -/
def fnHereSpec : ChangeSpec := { name := "fnHere", fn := fun _ => fun
  | [d] => { results := [.lit (.bool true)], args := [d] }
  | _ => none }
def fnHereRow : OpenClaim := { program := "ythfjcnjdcljhmaagreatdoor", sum := "4c3189416c9abe13e67bbfcfffe12e9c9423f3743ff2162f5eb47dda40d6d07d", func := "loop.example/g00243/laws.FnHere", spec := "fnHere", inPlace := ["internal/bytealg.IndexByteString", "internal/abi.NoEscape", "internal/bytealg.MakeNoZero", "slices.overlaps[int]"], unfollowed := true, recurses := true, named := ["internal/strconv.uint64pow10", "math/bits.deBruijn32tab", "math/bits.deBruijn64tab"], apart := false, laid := [("math/bits.deBruijn32tab", laid_math_bits_deBruijn32tab), ("math/bits.deBruijn64tab", laid_math_bits_deBruijn64tab), ("internal/strconv.uint64pow10", laid_internal_strconv_uint64pow10)] }
def FnHereSaid : Prop := fnHereRow.holds Tryz.pinned (OpenSpec.ofChange fnHereSpec)

/-- ITS FALSE NEIGHBOUR: 'it returns false'. Refute it at one input. -/
def fnHereWrong : ChangeSpec := { name := "fnHere", fn := fun _ => fun
  | [d] => { results := [.lit (.bool false)], args := [d] }
  | _ => none }
def FnHereWrongFalsely : Prop := fnHereRow.holds Tryz.pinned (OpenSpec.ofChange fnHereWrong)

/-- 'laws.FnTwoNumbers': WHATEVER THE INPUT: true; the input reads as it did. -/
def fnTwoNumbersSpec : ChangeSpec := { name := "fnTwoNumbers", fn := fun _ => fun
  | [d] => { results := [.lit (.bool true)], args := [d] }
  | _ => none }
def fnTwoNumbersRow : OpenClaim := { program := "ythfjcnjdcljhmaagreatdoor", sum := "4c3189416c9abe13e67bbfcfffe12e9c9423f3743ff2162f5eb47dda40d6d07d", func := "loop.example/g00243/laws.FnTwoNumbers", spec := "fnTwoNumbers", inPlace := ["internal/bytealg.IndexByteString", "internal/abi.NoEscape", "internal/bytealg.MakeNoZero", "slices.overlaps[int]"], unfollowed := true, recurses := true, named := ["internal/strconv.uint64pow10", "math/bits.deBruijn32tab", "math/bits.deBruijn64tab"], apart := false, laid := [("math/bits.deBruijn32tab", laid_math_bits_deBruijn32tab), ("math/bits.deBruijn64tab", laid_math_bits_deBruijn64tab), ("internal/strconv.uint64pow10", laid_internal_strconv_uint64pow10)] }
def FnTwoNumbersSaid : Prop := fnTwoNumbersRow.holds Tryz.pinned (OpenSpec.ofChange fnTwoNumbersSpec)

/-- ITS FALSE NEIGHBOUR: 'it returns false'. Refute it at one input. -/
def fnTwoNumbersWrong : ChangeSpec := { name := "fnTwoNumbers", fn := fun _ => fun
  | [d] => { results := [.lit (.bool false)], args := [d] }
  | _ => none }
def FnTwoNumbersWrongFalsely : Prop := fnTwoNumbersRow.holds Tryz.pinned (OpenSpec.ofChange fnTwoNumbersWrong)

/-- 'laws.FnLeft': WHATEVER THE INPUT: true; the input reads as it did. -/
def fnLeftSpec : ChangeSpec := { name := "fnLeft", fn := fun _ => fun
  | [d] => { results := [.lit (.bool true)], args := [d] }
  | _ => none }
def fnLeftRow : OpenClaim := { program := "ythfjcnjdcljhmaagreatdoor", sum := "4c3189416c9abe13e67bbfcfffe12e9c9423f3743ff2162f5eb47dda40d6d07d", func := "loop.example/g00243/laws.FnLeft", spec := "fnLeft", inPlace := ["internal/bytealg.IndexByteString", "internal/abi.NoEscape", "internal/bytealg.MakeNoZero", "slices.overlaps[int]"], unfollowed := true, recurses := true, named := ["internal/strconv.uint64pow10", "math/bits.deBruijn32tab", "math/bits.deBruijn64tab"], apart := false, laid := [("math/bits.deBruijn32tab", laid_math_bits_deBruijn32tab), ("math/bits.deBruijn64tab", laid_math_bits_deBruijn64tab), ("internal/strconv.uint64pow10", laid_internal_strconv_uint64pow10)] }
def FnLeftSaid : Prop := fnLeftRow.holds Tryz.pinned (OpenSpec.ofChange fnLeftSpec)

/-- ITS FALSE NEIGHBOUR: 'it returns false'. Refute it at one input. -/
def fnLeftWrong : ChangeSpec := { name := "fnLeft", fn := fun _ => fun
  | [d] => { results := [.lit (.bool false)], args := [d] }
  | _ => none }
def FnLeftWrongFalsely : Prop := fnLeftRow.holds Tryz.pinned (OpenSpec.ofChange fnLeftWrong)

/-- 'laws.FnLongest': WHATEVER THE INPUT: true; the input reads as it did. -/
def fnLongestSpec : ChangeSpec := { name := "fnLongest", fn := fun _ => fun
  | [d] => { results := [.lit (.bool true)], args := [d] }
  | _ => none }
def fnLongestRow : OpenClaim := { program := "ythfjcnjdcljhmaagreatdoor", sum := "4c3189416c9abe13e67bbfcfffe12e9c9423f3743ff2162f5eb47dda40d6d07d", func := "loop.example/g00243/laws.FnLongest", spec := "fnLongest", inPlace := ["internal/bytealg.IndexByteString", "internal/abi.NoEscape", "internal/bytealg.MakeNoZero", "slices.overlaps[int]"], unfollowed := true, recurses := true, named := ["internal/strconv.uint64pow10", "math/bits.deBruijn32tab", "math/bits.deBruijn64tab"], apart := false, laid := [("math/bits.deBruijn32tab", laid_math_bits_deBruijn32tab), ("math/bits.deBruijn64tab", laid_math_bits_deBruijn64tab), ("internal/strconv.uint64pow10", laid_internal_strconv_uint64pow10)] }
def FnLongestSaid : Prop := fnLongestRow.holds Tryz.pinned (OpenSpec.ofChange fnLongestSpec)

/-- ITS FALSE NEIGHBOUR: 'it returns false'. Refute it at one input. -/
def fnLongestWrong : ChangeSpec := { name := "fnLongest", fn := fun _ => fun
  | [d] => { results := [.lit (.bool false)], args := [d] }
  | _ => none }
def FnLongestWrongFalsely : Prop := fnLongestRow.holds Tryz.pinned (OpenSpec.ofChange fnLongestWrong)

/-- 'laws.FnNested': WHATEVER THE INPUT: true; the input reads as it did. -/
def fnNestedSpec : ChangeSpec := { name := "fnNested", fn := fun _ => fun
  | [d] => { results := [.lit (.bool true)], args := [d] }
  | _ => none }
def fnNestedRow : OpenClaim := { program := "ythfjcnjdcljhmaagreatdoor", sum := "4c3189416c9abe13e67bbfcfffe12e9c9423f3743ff2162f5eb47dda40d6d07d", func := "loop.example/g00243/laws.FnNested", spec := "fnNested", inPlace := ["internal/bytealg.IndexByteString", "internal/bytealg.IndexString"], unfollowed := true, recurses := true, named := ["internal/bytealg.MaxLen", "internal/strconv.uint64pow10", "math/bits.deBruijn32tab", "math/bits.deBruijn64tab"], apart := false, laid := [("math/bits.deBruijn32tab", laid_math_bits_deBruijn32tab), ("math/bits.deBruijn64tab", laid_math_bits_deBruijn64tab), ("internal/strconv.uint64pow10", laid_internal_strconv_uint64pow10)] }
def FnNestedSaid : Prop := fnNestedRow.holds Tryz.pinned (OpenSpec.ofChange fnNestedSpec)

/-- ITS FALSE NEIGHBOUR: 'it returns false'. Refute it at one input. -/
def fnNestedWrong : ChangeSpec := { name := "fnNested", fn := fun _ => fun
  | [d] => { results := [.lit (.bool false)], args := [d] }
  | _ => none }
def FnNestedWrongFalsely : Prop := fnNestedRow.holds Tryz.pinned (OpenSpec.ofChange fnNestedWrong)

/-- 'laws.FnTwoTrees': WHATEVER THE INPUT: true; the input reads as it did. -/
def fnTwoTreesSpec : ChangeSpec := { name := "fnTwoTrees", fn := fun _ => fun
  | [d] => { results := [.lit (.bool true)], args := [d] }
  | _ => none }
def fnTwoTreesRow : OpenClaim := { program := "ythfjcnjdcljhmaagreatdoor", sum := "4c3189416c9abe13e67bbfcfffe12e9c9423f3743ff2162f5eb47dda40d6d07d", func := "loop.example/g00243/laws.FnTwoTrees", spec := "fnTwoTrees", inPlace := ["internal/bytealg.IndexByteString", "internal/abi.NoEscape", "internal/bytealg.MakeNoZero", "slices.overlaps[int]"], unfollowed := true, recurses := true, named := ["internal/strconv.uint64pow10", "math/bits.deBruijn32tab", "math/bits.deBruijn64tab"], apart := false, laid := [("math/bits.deBruijn32tab", laid_math_bits_deBruijn32tab), ("math/bits.deBruijn64tab", laid_math_bits_deBruijn64tab), ("internal/strconv.uint64pow10", laid_internal_strconv_uint64pow10)] }
def FnTwoTreesSaid : Prop := fnTwoTreesRow.holds Tryz.pinned (OpenSpec.ofChange fnTwoTreesSpec)

/-- ITS FALSE NEIGHBOUR: 'it returns false'. Refute it at one input. -/
def fnTwoTreesWrong : ChangeSpec := { name := "fnTwoTrees", fn := fun _ => fun
  | [d] => { results := [.lit (.bool false)], args := [d] }
  | _ => none }
def FnTwoTreesWrongFalsely : Prop := fnTwoTreesRow.holds Tryz.pinned (OpenSpec.ofChange fnTwoTreesWrong)

/-- 'laws.FnTwoEach': WHATEVER THE INPUT: true; the input reads as it did. -/
def fnTwoEachSpec : ChangeSpec := { name := "fnTwoEach", fn := fun _ => fun
  | [d] => { results := [.lit (.bool true)], args := [d] }
  | _ => none }
def fnTwoEachRow : OpenClaim := { program := "ythfjcnjdcljhmaagreatdoor", sum := "4c3189416c9abe13e67bbfcfffe12e9c9423f3743ff2162f5eb47dda40d6d07d", func := "loop.example/g00243/laws.FnTwoEach", spec := "fnTwoEach", inPlace := ["internal/bytealg.IndexByteString", "internal/abi.NoEscape", "internal/bytealg.MakeNoZero", "slices.overlaps[int]"], unfollowed := true, recurses := true, named := ["internal/strconv.uint64pow10", "math/bits.deBruijn32tab", "math/bits.deBruijn64tab"], apart := false, laid := [("math/bits.deBruijn32tab", laid_math_bits_deBruijn32tab), ("math/bits.deBruijn64tab", laid_math_bits_deBruijn64tab), ("internal/strconv.uint64pow10", laid_internal_strconv_uint64pow10)] }
def FnTwoEachSaid : Prop := fnTwoEachRow.holds Tryz.pinned (OpenSpec.ofChange fnTwoEachSpec)

/-- ITS FALSE NEIGHBOUR: 'it returns false'. Refute it at one input. -/
def fnTwoEachWrong : ChangeSpec := { name := "fnTwoEach", fn := fun _ => fun
  | [d] => { results := [.lit (.bool false)], args := [d] }
  | _ => none }
def FnTwoEachWrongFalsely : Prop := fnTwoEachRow.holds Tryz.pinned (OpenSpec.ofChange fnTwoEachWrong)

/-- 'laws.FnLengths': WHATEVER THE INPUT: true; the input reads as it did. -/
def fnLengthsSpec : ChangeSpec := { name := "fnLengths", fn := fun _ => fun
  | [d] => { results := [.lit (.bool true)], args := [d] }
  | _ => none }
def fnLengthsRow : OpenClaim := { program := "ythfjcnjdcljhmaagreatdoor", sum := "4c3189416c9abe13e67bbfcfffe12e9c9423f3743ff2162f5eb47dda40d6d07d", func := "loop.example/g00243/laws.FnLengths", spec := "fnLengths", inPlace := ["internal/bytealg.IndexByteString", "internal/abi.NoEscape", "internal/bytealg.MakeNoZero", "slices.overlaps[int]"], unfollowed := true, recurses := true, named := ["internal/strconv.uint64pow10", "math/bits.deBruijn32tab", "math/bits.deBruijn64tab"], apart := false, laid := [("math/bits.deBruijn32tab", laid_math_bits_deBruijn32tab), ("math/bits.deBruijn64tab", laid_math_bits_deBruijn64tab), ("internal/strconv.uint64pow10", laid_internal_strconv_uint64pow10)] }
def FnLengthsSaid : Prop := fnLengthsRow.holds Tryz.pinned (OpenSpec.ofChange fnLengthsSpec)

/-- ITS FALSE NEIGHBOUR: 'it returns false'. Refute it at one input. -/
def fnLengthsWrong : ChangeSpec := { name := "fnLengths", fn := fun _ => fun
  | [d] => { results := [.lit (.bool false)], args := [d] }
  | _ => none }
def FnLengthsWrongFalsely : Prop := fnLengthsRow.holds Tryz.pinned (OpenSpec.ofChange fnLengthsWrong)

/-- 'laws.FnEither': WHATEVER THE INPUT: true; the input reads as it did. -/
def fnEitherSpec : ChangeSpec := { name := "fnEither", fn := fun _ => fun
  | [d] => { results := [.lit (.bool true)], args := [d] }
  | _ => none }
def fnEitherRow : OpenClaim := { program := "ythfjcnjdcljhmaagreatdoor", sum := "4c3189416c9abe13e67bbfcfffe12e9c9423f3743ff2162f5eb47dda40d6d07d", func := "loop.example/g00243/laws.FnEither", spec := "fnEither", inPlace := ["internal/bytealg.IndexByteString", "internal/abi.NoEscape", "internal/bytealg.MakeNoZero", "slices.overlaps[int]"], unfollowed := true, recurses := true, named := ["internal/strconv.uint64pow10", "math/bits.deBruijn32tab", "math/bits.deBruijn64tab"], apart := false, laid := [("math/bits.deBruijn32tab", laid_math_bits_deBruijn32tab), ("math/bits.deBruijn64tab", laid_math_bits_deBruijn64tab), ("internal/strconv.uint64pow10", laid_internal_strconv_uint64pow10)] }
def FnEitherSaid : Prop := fnEitherRow.holds Tryz.pinned (OpenSpec.ofChange fnEitherSpec)

/-- ITS FALSE NEIGHBOUR: 'it returns false'. Refute it at one input. -/
def fnEitherWrong : ChangeSpec := { name := "fnEither", fn := fun _ => fun
  | [d] => { results := [.lit (.bool false)], args := [d] }
  | _ => none }
def FnEitherWrongFalsely : Prop := fnEitherRow.holds Tryz.pinned (OpenSpec.ofChange fnEitherWrong)

/-- 'laws.FnStars': WHATEVER THE INPUT: true; the input reads as it did. -/
def fnStarsSpec : ChangeSpec := { name := "fnStars", fn := fun _ => fun
  | [d] => { results := [.lit (.bool true)], args := [d] }
  | _ => none }
def fnStarsRow : OpenClaim := { program := "ythfjcnjdcljhmaagreatdoor", sum := "4c3189416c9abe13e67bbfcfffe12e9c9423f3743ff2162f5eb47dda40d6d07d", func := "loop.example/g00243/laws.FnStars", spec := "fnStars", inPlace := ["internal/bytealg.IndexByteString", "internal/abi.NoEscape", "internal/bytealg.MakeNoZero", "slices.overlaps[int]"], unfollowed := true, recurses := true, named := ["internal/strconv.uint64pow10", "math/bits.deBruijn32tab", "math/bits.deBruijn64tab"], apart := false, laid := [("math/bits.deBruijn32tab", laid_math_bits_deBruijn32tab), ("math/bits.deBruijn64tab", laid_math_bits_deBruijn64tab), ("internal/strconv.uint64pow10", laid_internal_strconv_uint64pow10)] }
def FnStarsSaid : Prop := fnStarsRow.holds Tryz.pinned (OpenSpec.ofChange fnStarsSpec)

/-- ITS FALSE NEIGHBOUR: 'it returns false'. Refute it at one input. -/
def fnStarsWrong : ChangeSpec := { name := "fnStars", fn := fun _ => fun
  | [d] => { results := [.lit (.bool false)], args := [d] }
  | _ => none }
def FnStarsWrongFalsely : Prop := fnStarsRow.holds Tryz.pinned (OpenSpec.ofChange fnStarsWrong)

/- THE SECOND FORM. 'bulk': how many values and letters a reading holds, each counted each time it is reached (what is shared counts as often as it is met; a slice's spare places count too). A statement '..UptoSaid' is the law's where the arguments, and the package variables that the reading takes, are together of bulk at most 1048576: NARROWER than '..Said'. Prove '..Said' where nothing that the law and all that it calls make is longer than what came in: it says more and counts as full. Else prove '..UptoSaid'. A law counts once. -/
mutual
def uptoBulk {H : Type} : DataW H → Nat
  | .lit (.string bytes) => bytes.length + 1
  | .lit _ => 1
  | .nil => 1
  | .ptr d => uptoBulk d + 1
  | .slice elems spare => uptoBulkAll elems + uptoBulkAll spare + 1
  | .agg parts => uptoBulkAll parts + 1
  | .iface _ d => uptoBulk d + 1
  | .map entries => uptoBulkEntries entries + 1
  | .held _ => 1
def uptoBulkAll {H : Type} : List (DataW H) → Nat
  | [] => 0
  | d :: r => uptoBulk d + uptoBulkAll r
def uptoBulkEntries {H : Type} : List (Lit × DataW H) → Nat
  | [] => 0
  | x :: r => uptoBulkEntry x + uptoBulkEntries r
def uptoBulkEntry {H : Type} : Lit × DataW H → Nat
  | (.string bytes, d) => bytes.length + uptoBulk d + 1
  | (_, d) => uptoBulk d + 1
 end
def uptoSmall : (H : Type) → List (DataW H) → Bool := fun _ ds => decide (uptoBulkAll ds ≤ 1048576)
def OpenSpec.upto (s : _root_.Go.ChangeSpec) : _root_.Go.OpenSpec := { _root_.Go.OpenSpec.ofChange s with cond := some uptoSmall }

/-- 'laws.FnGroups', WHERE WHAT IT READS IS OF BULK AT MOST 1048576: true; the input reads as it did. -/
def fnGroupsUptoRow : OpenClaim := { program := "ythfjcnjdcljhmaagreatdoor", sum := "4c3189416c9abe13e67bbfcfffe12e9c9423f3743ff2162f5eb47dda40d6d07d", func := "loop.example/g00243/laws.FnGroups", spec := "fnGroups", inPlace := ["internal/bytealg.IndexByteString", "internal/abi.NoEscape", "internal/bytealg.MakeNoZero", "slices.overlaps[int]"], unfollowed := true, recurses := true, named := ["internal/strconv.uint64pow10", "math/bits.deBruijn32tab", "math/bits.deBruijn64tab"], apart := false, laid := [("math/bits.deBruijn32tab", laid_math_bits_deBruijn32tab), ("math/bits.deBruijn64tab", laid_math_bits_deBruijn64tab), ("internal/strconv.uint64pow10", laid_internal_strconv_uint64pow10)], narrowed := true }
def FnGroupsUptoSaid : Prop := fnGroupsUptoRow.holds Tryz.pinned (OpenSpec.upto fnGroupsSpec)

/-- 'laws.FnEqualMany', WHERE WHAT IT READS IS OF BULK AT MOST 1048576: true; the input reads as it did. -/
def fnEqualManyUptoRow : OpenClaim := { program := "ythfjcnjdcljhmaagreatdoor", sum := "4c3189416c9abe13e67bbfcfffe12e9c9423f3743ff2162f5eb47dda40d6d07d", func := "loop.example/g00243/laws.FnEqualMany", spec := "fnEqualMany", inPlace := ["internal/bytealg.IndexByteString", "internal/abi.NoEscape", "internal/bytealg.MakeNoZero", "slices.overlaps[int]"], unfollowed := true, recurses := true, named := ["internal/strconv.uint64pow10", "math/bits.deBruijn32tab", "math/bits.deBruijn64tab"], apart := false, laid := [("math/bits.deBruijn32tab", laid_math_bits_deBruijn32tab), ("math/bits.deBruijn64tab", laid_math_bits_deBruijn64tab), ("internal/strconv.uint64pow10", laid_internal_strconv_uint64pow10)], narrowed := true }
def FnEqualManyUptoSaid : Prop := fnEqualManyUptoRow.holds Tryz.pinned (OpenSpec.upto fnEqualManySpec)

/-- 'laws.FnHere', WHERE WHAT IT READS IS OF BULK AT MOST 1048576: true; the input reads as it did. -/
def fnHereUptoRow : OpenClaim := { program := "ythfjcnjdcljhmaagreatdoor", sum := "4c3189416c9abe13e67bbfcfffe12e9c9423f3743ff2162f5eb47dda40d6d07d", func := "loop.example/g00243/laws.FnHere", spec := "fnHere", inPlace := ["internal/bytealg.IndexByteString", "internal/abi.NoEscape", "internal/bytealg.MakeNoZero", "slices.overlaps[int]"], unfollowed := true, recurses := true, named := ["internal/strconv.uint64pow10", "math/bits.deBruijn32tab", "math/bits.deBruijn64tab"], apart := false, laid := [("math/bits.deBruijn32tab", laid_math_bits_deBruijn32tab), ("math/bits.deBruijn64tab", laid_math_bits_deBruijn64tab), ("internal/strconv.uint64pow10", laid_internal_strconv_uint64pow10)], narrowed := true }
def FnHereUptoSaid : Prop := fnHereUptoRow.holds Tryz.pinned (OpenSpec.upto fnHereSpec)

/-- 'laws.FnTwoNumbers', WHERE WHAT IT READS IS OF BULK AT MOST 1048576: true; the input reads as it did. -/
def fnTwoNumbersUptoRow : OpenClaim := { program := "ythfjcnjdcljhmaagreatdoor", sum := "4c3189416c9abe13e67bbfcfffe12e9c9423f3743ff2162f5eb47dda40d6d07d", func := "loop.example/g00243/laws.FnTwoNumbers", spec := "fnTwoNumbers", inPlace := ["internal/bytealg.IndexByteString", "internal/abi.NoEscape", "internal/bytealg.MakeNoZero", "slices.overlaps[int]"], unfollowed := true, recurses := true, named := ["internal/strconv.uint64pow10", "math/bits.deBruijn32tab", "math/bits.deBruijn64tab"], apart := false, laid := [("math/bits.deBruijn32tab", laid_math_bits_deBruijn32tab), ("math/bits.deBruijn64tab", laid_math_bits_deBruijn64tab), ("internal/strconv.uint64pow10", laid_internal_strconv_uint64pow10)], narrowed := true }
def FnTwoNumbersUptoSaid : Prop := fnTwoNumbersUptoRow.holds Tryz.pinned (OpenSpec.upto fnTwoNumbersSpec)

/-- 'laws.FnLeft', WHERE WHAT IT READS IS OF BULK AT MOST 1048576: true; the input reads as it did. -/
def fnLeftUptoRow : OpenClaim := { program := "ythfjcnjdcljhmaagreatdoor", sum := "4c3189416c9abe13e67bbfcfffe12e9c9423f3743ff2162f5eb47dda40d6d07d", func := "loop.example/g00243/laws.FnLeft", spec := "fnLeft", inPlace := ["internal/bytealg.IndexByteString", "internal/abi.NoEscape", "internal/bytealg.MakeNoZero", "slices.overlaps[int]"], unfollowed := true, recurses := true, named := ["internal/strconv.uint64pow10", "math/bits.deBruijn32tab", "math/bits.deBruijn64tab"], apart := false, laid := [("math/bits.deBruijn32tab", laid_math_bits_deBruijn32tab), ("math/bits.deBruijn64tab", laid_math_bits_deBruijn64tab), ("internal/strconv.uint64pow10", laid_internal_strconv_uint64pow10)], narrowed := true }
def FnLeftUptoSaid : Prop := fnLeftUptoRow.holds Tryz.pinned (OpenSpec.upto fnLeftSpec)

/-- 'laws.FnLongest', WHERE WHAT IT READS IS OF BULK AT MOST 1048576: true; the input reads as it did. -/
def fnLongestUptoRow : OpenClaim := { program := "ythfjcnjdcljhmaagreatdoor", sum := "4c3189416c9abe13e67bbfcfffe12e9c9423f3743ff2162f5eb47dda40d6d07d", func := "loop.example/g00243/laws.FnLongest", spec := "fnLongest", inPlace := ["internal/bytealg.IndexByteString", "internal/abi.NoEscape", "internal/bytealg.MakeNoZero", "slices.overlaps[int]"], unfollowed := true, recurses := true, named := ["internal/strconv.uint64pow10", "math/bits.deBruijn32tab", "math/bits.deBruijn64tab"], apart := false, laid := [("math/bits.deBruijn32tab", laid_math_bits_deBruijn32tab), ("math/bits.deBruijn64tab", laid_math_bits_deBruijn64tab), ("internal/strconv.uint64pow10", laid_internal_strconv_uint64pow10)], narrowed := true }
def FnLongestUptoSaid : Prop := fnLongestUptoRow.holds Tryz.pinned (OpenSpec.upto fnLongestSpec)

/-- 'laws.FnNested', WHERE WHAT IT READS IS OF BULK AT MOST 1048576: true; the input reads as it did. -/
def fnNestedUptoRow : OpenClaim := { program := "ythfjcnjdcljhmaagreatdoor", sum := "4c3189416c9abe13e67bbfcfffe12e9c9423f3743ff2162f5eb47dda40d6d07d", func := "loop.example/g00243/laws.FnNested", spec := "fnNested", inPlace := ["internal/bytealg.IndexByteString", "internal/bytealg.IndexString"], unfollowed := true, recurses := true, named := ["internal/bytealg.MaxLen", "internal/strconv.uint64pow10", "math/bits.deBruijn32tab", "math/bits.deBruijn64tab"], apart := false, laid := [("math/bits.deBruijn32tab", laid_math_bits_deBruijn32tab), ("math/bits.deBruijn64tab", laid_math_bits_deBruijn64tab), ("internal/strconv.uint64pow10", laid_internal_strconv_uint64pow10)], narrowed := true }
def FnNestedUptoSaid : Prop := fnNestedUptoRow.holds Tryz.pinned (OpenSpec.upto fnNestedSpec)

/-- 'laws.FnTwoTrees', WHERE WHAT IT READS IS OF BULK AT MOST 1048576: true; the input reads as it did. -/
def fnTwoTreesUptoRow : OpenClaim := { program := "ythfjcnjdcljhmaagreatdoor", sum := "4c3189416c9abe13e67bbfcfffe12e9c9423f3743ff2162f5eb47dda40d6d07d", func := "loop.example/g00243/laws.FnTwoTrees", spec := "fnTwoTrees", inPlace := ["internal/bytealg.IndexByteString", "internal/abi.NoEscape", "internal/bytealg.MakeNoZero", "slices.overlaps[int]"], unfollowed := true, recurses := true, named := ["internal/strconv.uint64pow10", "math/bits.deBruijn32tab", "math/bits.deBruijn64tab"], apart := false, laid := [("math/bits.deBruijn32tab", laid_math_bits_deBruijn32tab), ("math/bits.deBruijn64tab", laid_math_bits_deBruijn64tab), ("internal/strconv.uint64pow10", laid_internal_strconv_uint64pow10)], narrowed := true }
def FnTwoTreesUptoSaid : Prop := fnTwoTreesUptoRow.holds Tryz.pinned (OpenSpec.upto fnTwoTreesSpec)

/-- 'laws.FnTwoEach', WHERE WHAT IT READS IS OF BULK AT MOST 1048576: true; the input reads as it did. -/
def fnTwoEachUptoRow : OpenClaim := { program := "ythfjcnjdcljhmaagreatdoor", sum := "4c3189416c9abe13e67bbfcfffe12e9c9423f3743ff2162f5eb47dda40d6d07d", func := "loop.example/g00243/laws.FnTwoEach", spec := "fnTwoEach", inPlace := ["internal/bytealg.IndexByteString", "internal/abi.NoEscape", "internal/bytealg.MakeNoZero", "slices.overlaps[int]"], unfollowed := true, recurses := true, named := ["internal/strconv.uint64pow10", "math/bits.deBruijn32tab", "math/bits.deBruijn64tab"], apart := false, laid := [("math/bits.deBruijn32tab", laid_math_bits_deBruijn32tab), ("math/bits.deBruijn64tab", laid_math_bits_deBruijn64tab), ("internal/strconv.uint64pow10", laid_internal_strconv_uint64pow10)], narrowed := true }
def FnTwoEachUptoSaid : Prop := fnTwoEachUptoRow.holds Tryz.pinned (OpenSpec.upto fnTwoEachSpec)

/-- 'laws.FnLengths', WHERE WHAT IT READS IS OF BULK AT MOST 1048576: true; the input reads as it did. -/
def fnLengthsUptoRow : OpenClaim := { program := "ythfjcnjdcljhmaagreatdoor", sum := "4c3189416c9abe13e67bbfcfffe12e9c9423f3743ff2162f5eb47dda40d6d07d", func := "loop.example/g00243/laws.FnLengths", spec := "fnLengths", inPlace := ["internal/bytealg.IndexByteString", "internal/abi.NoEscape", "internal/bytealg.MakeNoZero", "slices.overlaps[int]"], unfollowed := true, recurses := true, named := ["internal/strconv.uint64pow10", "math/bits.deBruijn32tab", "math/bits.deBruijn64tab"], apart := false, laid := [("math/bits.deBruijn32tab", laid_math_bits_deBruijn32tab), ("math/bits.deBruijn64tab", laid_math_bits_deBruijn64tab), ("internal/strconv.uint64pow10", laid_internal_strconv_uint64pow10)], narrowed := true }
def FnLengthsUptoSaid : Prop := fnLengthsUptoRow.holds Tryz.pinned (OpenSpec.upto fnLengthsSpec)

/-- 'laws.FnEither', WHERE WHAT IT READS IS OF BULK AT MOST 1048576: true; the input reads as it did. -/
def fnEitherUptoRow : OpenClaim := { program := "ythfjcnjdcljhmaagreatdoor", sum := "4c3189416c9abe13e67bbfcfffe12e9c9423f3743ff2162f5eb47dda40d6d07d", func := "loop.example/g00243/laws.FnEither", spec := "fnEither", inPlace := ["internal/bytealg.IndexByteString", "internal/abi.NoEscape", "internal/bytealg.MakeNoZero", "slices.overlaps[int]"], unfollowed := true, recurses := true, named := ["internal/strconv.uint64pow10", "math/bits.deBruijn32tab", "math/bits.deBruijn64tab"], apart := false, laid := [("math/bits.deBruijn32tab", laid_math_bits_deBruijn32tab), ("math/bits.deBruijn64tab", laid_math_bits_deBruijn64tab), ("internal/strconv.uint64pow10", laid_internal_strconv_uint64pow10)], narrowed := true }
def FnEitherUptoSaid : Prop := fnEitherUptoRow.holds Tryz.pinned (OpenSpec.upto fnEitherSpec)

/-- 'laws.FnStars', WHERE WHAT IT READS IS OF BULK AT MOST 1048576: true; the input reads as it did. -/
def fnStarsUptoRow : OpenClaim := { program := "ythfjcnjdcljhmaagreatdoor", sum := "4c3189416c9abe13e67bbfcfffe12e9c9423f3743ff2162f5eb47dda40d6d07d", func := "loop.example/g00243/laws.FnStars", spec := "fnStars", inPlace := ["internal/bytealg.IndexByteString", "internal/abi.NoEscape", "internal/bytealg.MakeNoZero", "slices.overlaps[int]"], unfollowed := true, recurses := true, named := ["internal/strconv.uint64pow10", "math/bits.deBruijn32tab", "math/bits.deBruijn64tab"], apart := false, laid := [("math/bits.deBruijn32tab", laid_math_bits_deBruijn32tab), ("math/bits.deBruijn64tab", laid_math_bits_deBruijn64tab), ("internal/strconv.uint64pow10", laid_internal_strconv_uint64pow10)], narrowed := true }
def FnStarsUptoSaid : Prop := fnStarsUptoRow.holds Tryz.pinned (OpenSpec.upto fnStarsSpec)

end Rows
end Go.Proofs.YthfjcnjdcljhmaaGreatDoor
