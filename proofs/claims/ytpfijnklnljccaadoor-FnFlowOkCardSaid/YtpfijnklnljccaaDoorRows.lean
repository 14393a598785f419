/-
  NARROWER THAN 'FOR EVERY INPUT', by the rows' own cells (each row's printed sentence says how): FnFracLess: laid · FnMineValid: laid · FnWiden: laid · FnAirMatrix: laid · FnFlowLoss: laid · FnAirLinked: laid · FnAirTrees: laid · FnAirTreesWith: laid · FnPressures: laid · FnFlowOk: laid · FnAirResist: laid · FnAirFlow: laid.
  DERIVED. THE GIVEN ROWS OF THIS SEAT. 12 by the template 'for every input the law returns true; each argument reads behind the call as it read before'; 0 by the template 'total and deterministic' (their statements: YtpfijnklnljccaaDoorTotals.lean).
  GIVEN WITH THE SEED: the statements are not yours to turn. If you find one false, say at which input.
  Laid BY PROGRAM, IN A SANDBOX (cutbox-rows.mjs): the forced cells as the released guide's own fill.sh prints them over the translation 5e7dd15170b5bcdf… (all of the seat's roots in one cut). By AI agents, Wed Nov 11 2026. No macro, syntax, notation, axiom, sorry.
-/
import Derived.Test.YtpfijnklnljccaaDoorChecked
import GoSem.Claim
import GoSem.ClaimJoined
import GoSem.ClaimMapViews
import Derived.JoinedTies
import Derived.KernelRfl
namespace Go.Proofs.YtpfijnklnljccaaDoor
/- THE CELL 'sum', in the pinned program and in every row, IS THE sha256 OF THE DUMP (.gsa) THAT YtpfijnklnljccaaDoorProg.lean LOADS. Nothing in Lean hashes anything: it is a label: what it is worth is what the hold of that sum in a sandbox is worth. -/
noncomputable def Tryd.pinned : Pinned := { name := "ytpfijnklnljccaadoor", sum := "5e7dd15170b5bcdf49c6579bd7e93e70fe23d0c9ee9ab2d0499eff155a1d6324", checked := Tryd.checked }
namespace Rows
def none {H : Type} : Left H := { results := [], args := [] }

/- WHAT THE LISTED PACKAGE-LEVEL VARIABLES READ AS WHEN THE CALL BEGINS. Each datum BY PROGRAM (the guide's laid-datum.mjs) off the statement by which the dump's own 'gosem.cut.vars' lays the variable. In a bare row this is a premise. The card (YtpfijnklnljccaaDoorCards.lean) ties it to the program's text. -/
def laid_math_bits_deBruijn32tab {H : Type} : DataW H := .agg [.lit (.int .u8 0), .lit (.int .u8 1), .lit (.int .u8 28), .lit (.int .u8 2), .lit (.int .u8 29), .lit (.int .u8 14), .lit (.int .u8 24), .lit (.int .u8 3), .lit (.int .u8 30), .lit (.int .u8 22), .lit (.int .u8 20), .lit (.int .u8 15), .lit (.int .u8 25), .lit (.int .u8 17), .lit (.int .u8 4), .lit (.int .u8 8), .lit (.int .u8 31), .lit (.int .u8 27), .lit (.int .u8 13), .lit (.int .u8 23), .lit (.int .u8 21), .lit (.int .u8 19), .lit (.int .u8 16), .lit (.int .u8 7), .lit (.int .u8 26), .lit (.int .u8 12), .lit (.int .u8 18), .lit (.int .u8 6), .lit (.int .u8 11), .lit (.int .u8 5), .lit (.int .u8 10), .lit (.int .u8 9)]
def laid_math_bits_deBruijn64tab {H : Type} : DataW H := .agg [.lit (.int .u8 0), .lit (.int .u8 1), .lit (.int .u8 56), .lit (.int .u8 2), .lit (.int .u8 57), .lit (.int .u8 49), .lit (.int .u8 28), .lit (.int .u8 3), .lit (.int .u8 61), .lit (.int .u8 58), .lit (.int .u8 42), .lit (.int .u8 50), .lit (.int .u8 38), .lit (.int .u8 29), .lit (.int .u8 17), .lit (.int .u8 4), .lit (.int .u8 62), .lit (.int .u8 47), .lit (.int .u8 59), .lit (.int .u8 36), .lit (.int .u8 45), .lit (.int .u8 43), .lit (.int .u8 51), .lit (.int .u8 22), .lit (.int .u8 53), .lit (.int .u8 39), .lit (.int .u8 33), .lit (.int .u8 30), .lit (.int .u8 24), .lit (.int .u8 18), .lit (.int .u8 12), .lit (.int .u8 5), .lit (.int .u8 63), .lit (.int .u8 55), .lit (.int .u8 48), .lit (.int .u8 27), .lit (.int .u8 60), .lit (.int .u8 41), .lit (.int .u8 37), .lit (.int .u8 16), .lit (.int .u8 46), .lit (.int .u8 35), .lit (.int .u8 44), .lit (.int .u8 21), .lit (.int .u8 52), .lit (.int .u8 32), .lit (.int .u8 23), .lit (.int .u8 11), .lit (.int .u8 54), .lit (.int .u8 26), .lit (.int .u8 40), .lit (.int .u8 15), .lit (.int .u8 34), .lit (.int .u8 20), .lit (.int .u8 31), .lit (.int .u8 10), .lit (.int .u8 25), .lit (.int .u8 14), .lit (.int .u8 19), .lit (.int .u8 9), .lit (.int .u8 13), .lit (.int .u8 8), .lit (.int .u8 7), .lit (.int .u8 6)]
def laid_internal_strconv_uint64pow10 {H : Type} : DataW H := .agg [.lit (.int .u64 1), .lit (.int .u64 10), .lit (.int .u64 100), .lit (.int .u64 1000), .lit (.int .u64 10000), .lit (.int .u64 100000), .lit (.int .u64 1000000), .lit (.int .u64 10000000), .lit (.int .u64 100000000), .lit (.int .u64 1000000000), .lit (.int .u64 10000000000), .lit (.int .u64 100000000000), .lit (.int .u64 1000000000000), .lit (.int .u64 10000000000000), .lit (.int .u64 100000000000000), .lit (.int .u64 1000000000000000), .lit (.int .u64 10000000000000000), .lit (.int .u64 100000000000000000), .lit (.int .u64 1000000000000000000), .lit (.int .u64 10000000000000000000)]

/-- 'laws.FnFracLess': WHATEVER THE INPUT: true; the input reads as it did. -/
def fnFracLessSpec : ChangeSpec := { name := "fnFracLess", fn := fun _ => fun
  | [d] => { results := [.lit (.bool true)], args := [d] }
  | _ => none }
def fnFracLessRow : OpenClaim := { program := "ytpfijnklnljccaadoor", sum := "5e7dd15170b5bcdf49c6579bd7e93e70fe23d0c9ee9ab2d0499eff155a1d6324", func := "loop.example/cavesurvey/laws.FnFracLess", spec := "fnFracLess", named := ["internal/strconv.uint64pow10", "math/bits.deBruijn32tab", "math/bits.deBruijn64tab"], apart := false, laid := [("math/bits.deBruijn32tab", laid_math_bits_deBruijn32tab), ("math/bits.deBruijn64tab", laid_math_bits_deBruijn64tab), ("internal/strconv.uint64pow10", laid_internal_strconv_uint64pow10)] }
def FnFracLessSaid : Prop := fnFracLessRow.holds Tryd.pinned (OpenSpec.ofChange fnFracLessSpec)

/-- ITS FALSE NEIGHBOUR: 'it returns false'. Refute it at one input. -/
def fnFracLessWrong : ChangeSpec := { name := "fnFracLess", fn := fun _ => fun
  | [d] => { results := [.lit (.bool false)], args := [d] }
  | _ => none }
def FnFracLessWrongFalsely : Prop := fnFracLessRow.holds Tryd.pinned (OpenSpec.ofChange fnFracLessWrong)

/-- 'laws.FnMineValid': WHATEVER THE INPUT: true; the input reads as it did. -/
def fnMineValidSpec : ChangeSpec := { name := "fnMineValid", fn := fun _ => fun
  | [d] => { results := [.lit (.bool true)], args := [d] }
  | _ => none }
def fnMineValidRow : OpenClaim := { program := "ytpfijnklnljccaadoor", sum := "5e7dd15170b5bcdf49c6579bd7e93e70fe23d0c9ee9ab2d0499eff155a1d6324", func := "loop.example/cavesurvey/laws.FnMineValid", spec := "fnMineValid", named := ["internal/strconv.uint64pow10", "math/bits.deBruijn32tab", "math/bits.deBruijn64tab"], apart := false, laid := [("math/bits.deBruijn32tab", laid_math_bits_deBruijn32tab), ("math/bits.deBruijn64tab", laid_math_bits_deBruijn64tab), ("internal/strconv.uint64pow10", laid_internal_strconv_uint64pow10)] }
def FnMineValidSaid : Prop := fnMineValidRow.holds Tryd.pinned (OpenSpec.ofChange fnMineValidSpec)

/-- ITS FALSE NEIGHBOUR: 'it returns false'. Refute it at one input. -/
def fnMineValidWrong : ChangeSpec := { name := "fnMineValid", fn := fun _ => fun
  | [d] => { results := [.lit (.bool false)], args := [d] }
  | _ => none }
def FnMineValidWrongFalsely : Prop := fnMineValidRow.holds Tryd.pinned (OpenSpec.ofChange fnMineValidWrong)

/-- 'laws.FnWiden': WHATEVER THE INPUT: true; the input reads as it did. -/
def fnWidenSpec : ChangeSpec := { name := "fnWiden", fn := fun _ => fun
  | [d] => { results := [.lit (.bool true)], args := [d] }
  | _ => none }
def fnWidenRow : OpenClaim := { program := "ytpfijnklnljccaadoor", sum := "5e7dd15170b5bcdf49c6579bd7e93e70fe23d0c9ee9ab2d0499eff155a1d6324", func := "loop.example/cavesurvey/laws.FnWiden", spec := "fnWiden", named := ["internal/strconv.uint64pow10", "math/bits.deBruijn32tab", "math/bits.deBruijn64tab"], apart := false, laid := [("math/bits.deBruijn32tab", laid_math_bits_deBruijn32tab), ("math/bits.deBruijn64tab", laid_math_bits_deBruijn64tab), ("internal/strconv.uint64pow10", laid_internal_strconv_uint64pow10)] }
def FnWidenSaid : Prop := fnWidenRow.holds Tryd.pinned (OpenSpec.ofChange fnWidenSpec)

/-- ITS FALSE NEIGHBOUR: 'it returns false'. Refute it at one input. -/
def fnWidenWrong : ChangeSpec := { name := "fnWiden", fn := fun _ => fun
  | [d] => { results := [.lit (.bool false)], args := [d] }
  | _ => none }
def FnWidenWrongFalsely : Prop := fnWidenRow.holds Tryd.pinned (OpenSpec.ofChange fnWidenWrong)

/-- 'laws.FnAirMatrix': WHATEVER THE INPUT: true; the input reads as it did. -/
def fnAirMatrixSpec : ChangeSpec := { name := "fnAirMatrix", fn := fun _ => fun
  | [d] => { results := [.lit (.bool true)], args := [d] }
  | _ => none }
def fnAirMatrixRow : OpenClaim := { program := "ytpfijnklnljccaadoor", sum := "5e7dd15170b5bcdf49c6579bd7e93e70fe23d0c9ee9ab2d0499eff155a1d6324", func := "loop.example/cavesurvey/laws.FnAirMatrix", spec := "fnAirMatrix", named := ["internal/strconv.uint64pow10", "math/bits.deBruijn32tab", "math/bits.deBruijn64tab"], apart := false, laid := [("math/bits.deBruijn32tab", laid_math_bits_deBruijn32tab), ("math/bits.deBruijn64tab", laid_math_bits_deBruijn64tab), ("internal/strconv.uint64pow10", laid_internal_strconv_uint64pow10)] }
def FnAirMatrixSaid : Prop := fnAirMatrixRow.holds Tryd.pinned (OpenSpec.ofChange fnAirMatrixSpec)

/-- ITS FALSE NEIGHBOUR: 'it returns false'. Refute it at one input. -/
def fnAirMatrixWrong : ChangeSpec := { name := "fnAirMatrix", fn := fun _ => fun
  | [d] => { results := [.lit (.bool false)], args := [d] }
  | _ => none }
def FnAirMatrixWrongFalsely : Prop := fnAirMatrixRow.holds Tryd.pinned (OpenSpec.ofChange fnAirMatrixWrong)

/-- 'laws.FnFlowLoss': WHATEVER THE INPUT: true; the input reads as it did. -/
def fnFlowLossSpec : ChangeSpec := { name := "fnFlowLoss", fn := fun _ => fun
  | [d] => { results := [.lit (.bool true)], args := [d] }
  | _ => none }
def fnFlowLossRow : OpenClaim := { program := "ytpfijnklnljccaadoor", sum := "5e7dd15170b5bcdf49c6579bd7e93e70fe23d0c9ee9ab2d0499eff155a1d6324", func := "loop.example/cavesurvey/laws.FnFlowLoss", spec := "fnFlowLoss", recurses := true, named := ["internal/strconv.uint64pow10", "math/bits.deBruijn32tab", "math/bits.deBruijn64tab"], apart := false, laid := [("math/bits.deBruijn32tab", laid_math_bits_deBruijn32tab), ("math/bits.deBruijn64tab", laid_math_bits_deBruijn64tab), ("internal/strconv.uint64pow10", laid_internal_strconv_uint64pow10)] }
def FnFlowLossSaid : Prop := fnFlowLossRow.holds Tryd.pinned (OpenSpec.ofChange fnFlowLossSpec)

/-- ITS FALSE NEIGHBOUR: 'it returns false'. Refute it at one input. -/
def fnFlowLossWrong : ChangeSpec := { name := "fnFlowLoss", fn := fun _ => fun
  | [d] => { results := [.lit (.bool false)], args := [d] }
  | _ => none }
def FnFlowLossWrongFalsely : Prop := fnFlowLossRow.holds Tryd.pinned (OpenSpec.ofChange fnFlowLossWrong)

/-- 'laws.FnAirLinked': WHATEVER THE INPUT: true; the input reads as it did. -/
def fnAirLinkedSpec : ChangeSpec := { name := "fnAirLinked", fn := fun _ => fun
  | [d] => { results := [.lit (.bool true)], args := [d] }
  | _ => none }
def fnAirLinkedRow : OpenClaim := { program := "ytpfijnklnljccaadoor", sum := "5e7dd15170b5bcdf49c6579bd7e93e70fe23d0c9ee9ab2d0499eff155a1d6324", func := "loop.example/cavesurvey/laws.FnAirLinked", spec := "fnAirLinked", recurses := true, named := ["internal/strconv.uint64pow10", "math/bits.deBruijn32tab", "math/bits.deBruijn64tab"], apart := false, laid := [("math/bits.deBruijn32tab", laid_math_bits_deBruijn32tab), ("math/bits.deBruijn64tab", laid_math_bits_deBruijn64tab), ("internal/strconv.uint64pow10", laid_internal_strconv_uint64pow10)] }
def FnAirLinkedSaid : Prop := fnAirLinkedRow.holds Tryd.pinned (OpenSpec.ofChange fnAirLinkedSpec)

/-- ITS FALSE NEIGHBOUR: 'it returns false'. Refute it at one input. -/
def fnAirLinkedWrong : ChangeSpec := { name := "fnAirLinked", fn := fun _ => fun
  | [d] => { results := [.lit (.bool false)], args := [d] }
  | _ => none }
def FnAirLinkedWrongFalsely : Prop := fnAirLinkedRow.holds Tryd.pinned (OpenSpec.ofChange fnAirLinkedWrong)

/-- 'laws.FnAirTrees': WHATEVER THE INPUT: true; the input reads as it did. -/
def fnAirTreesSpec : ChangeSpec := { name := "fnAirTrees", fn := fun _ => fun
  | [d] => { results := [.lit (.bool true)], args := [d] }
  | _ => none }
def fnAirTreesRow : OpenClaim := { program := "ytpfijnklnljccaadoor", sum := "5e7dd15170b5bcdf49c6579bd7e93e70fe23d0c9ee9ab2d0499eff155a1d6324", func := "loop.example/cavesurvey/laws.FnAirTrees", spec := "fnAirTrees", recurses := true, named := ["internal/strconv.uint64pow10", "math/bits.deBruijn32tab", "math/bits.deBruijn64tab"], apart := false, laid := [("math/bits.deBruijn32tab", laid_math_bits_deBruijn32tab), ("math/bits.deBruijn64tab", laid_math_bits_deBruijn64tab), ("internal/strconv.uint64pow10", laid_internal_strconv_uint64pow10)] }
def FnAirTreesSaid : Prop := fnAirTreesRow.holds Tryd.pinned (OpenSpec.ofChange fnAirTreesSpec)

/-- ITS FALSE NEIGHBOUR: 'it returns false'. Refute it at one input. -/
def fnAirTreesWrong : ChangeSpec := { name := "fnAirTrees", fn := fun _ => fun
  | [d] => { results := [.lit (.bool false)], args := [d] }
  | _ => none }
def FnAirTreesWrongFalsely : Prop := fnAirTreesRow.holds Tryd.pinned (OpenSpec.ofChange fnAirTreesWrong)

/-- 'laws.FnAirTreesWith': WHATEVER THE INPUT: true; the input reads as it did. -/
def fnAirTreesWithSpec : ChangeSpec := { name := "fnAirTreesWith", fn := fun _ => fun
  | [d] => { results := [.lit (.bool true)], args := [d] }
  | _ => none }
def fnAirTreesWithRow : OpenClaim := { program := "ytpfijnklnljccaadoor", sum := "5e7dd15170b5bcdf49c6579bd7e93e70fe23d0c9ee9ab2d0499eff155a1d6324", func := "loop.example/cavesurvey/laws.FnAirTreesWith", spec := "fnAirTreesWith", recurses := true, named := ["internal/strconv.uint64pow10", "math/bits.deBruijn32tab", "math/bits.deBruijn64tab"], apart := false, laid := [("math/bits.deBruijn32tab", laid_math_bits_deBruijn32tab), ("math/bits.deBruijn64tab", laid_math_bits_deBruijn64tab), ("internal/strconv.uint64pow10", laid_internal_strconv_uint64pow10)] }
def FnAirTreesWithSaid : Prop := fnAirTreesWithRow.holds Tryd.pinned (OpenSpec.ofChange fnAirTreesWithSpec)

/-- ITS FALSE NEIGHBOUR: 'it returns false'. Refute it at one input. -/
def fnAirTreesWithWrong : ChangeSpec := { name := "fnAirTreesWith", fn := fun _ => fun
  | [d] => { results := [.lit (.bool false)], args := [d] }
  | _ => none }
def FnAirTreesWithWrongFalsely : Prop := fnAirTreesWithRow.holds Tryd.pinned (OpenSpec.ofChange fnAirTreesWithWrong)

/-- 'laws.FnPressures': WHATEVER THE INPUT: true; the input reads as it did. -/
def fnPressuresSpec : ChangeSpec := { name := "fnPressures", fn := fun _ => fun
  | [d] => { results := [.lit (.bool true)], args := [d] }
  | _ => none }
def fnPressuresRow : OpenClaim := { program := "ytpfijnklnljccaadoor", sum := "5e7dd15170b5bcdf49c6579bd7e93e70fe23d0c9ee9ab2d0499eff155a1d6324", func := "loop.example/cavesurvey/laws.FnPressures", spec := "fnPressures", recurses := true, named := ["internal/strconv.uint64pow10", "math/bits.deBruijn32tab", "math/bits.deBruijn64tab"], apart := false, laid := [("math/bits.deBruijn32tab", laid_math_bits_deBruijn32tab), ("math/bits.deBruijn64tab", laid_math_bits_deBruijn64tab), ("internal/strconv.uint64pow10", laid_internal_strconv_uint64pow10)] }
def FnPressuresSaid : Prop := fnPressuresRow.holds Tryd.pinned (OpenSpec.ofChange fnPressuresSpec)

/-- ITS FALSE NEIGHBOUR: 'it returns false'. Refute it at one input. -/
def fnPressuresWrong : ChangeSpec := { name := "fnPressures", fn := fun _ => fun
  | [d] => { results := [.lit (.bool false)], args := [d] }
  | _ => none }
def FnPressuresWrongFalsely : Prop := fnPressuresRow.holds Tryd.pinned (OpenSpec.ofChange fnPressuresWrong)

/-- 'laws.FnFlowOk': WHATEVER THE INPUT: true; the input reads as it did. -/
def fnFlowOkSpec : ChangeSpec := { name := "fnFlowOk", fn := fun _ => fun
  | [d] => { results := [.lit (.bool true)], args := [d] }
  | _ => none }
def fnFlowOkRow : OpenClaim := { program := "ytpfijnklnljccaadoor", sum := "5e7dd15170b5bcdf49c6579bd7e93e70fe23d0c9ee9ab2d0499eff155a1d6324", func := "loop.example/cavesurvey/laws.FnFlowOk", spec := "fnFlowOk", recurses := true, named := ["internal/strconv.uint64pow10", "math/bits.deBruijn32tab", "math/bits.deBruijn64tab"], apart := false, laid := [("math/bits.deBruijn32tab", laid_math_bits_deBruijn32tab), ("math/bits.deBruijn64tab", laid_math_bits_deBruijn64tab), ("internal/strconv.uint64pow10", laid_internal_strconv_uint64pow10)] }
def FnFlowOkSaid : Prop := fnFlowOkRow.holds Tryd.pinned (OpenSpec.ofChange fnFlowOkSpec)

/-- ITS FALSE NEIGHBOUR: 'it returns false'. Refute it at one input. -/
def fnFlowOkWrong : ChangeSpec := { name := "fnFlowOk", fn := fun _ => fun
  | [d] => { results := [.lit (.bool false)], args := [d] }
  | _ => none }
def FnFlowOkWrongFalsely : Prop := fnFlowOkRow.holds Tryd.pinned (OpenSpec.ofChange fnFlowOkWrong)

/-- 'laws.FnAirResist': WHATEVER THE INPUT: true; the input reads as it did. -/
def fnAirResistSpec : ChangeSpec := { name := "fnAirResist", fn := fun _ => fun
  | [d] => { results := [.lit (.bool true)], args := [d] }
  | _ => none }
def fnAirResistRow : OpenClaim := { program := "ytpfijnklnljccaadoor", sum := "5e7dd15170b5bcdf49c6579bd7e93e70fe23d0c9ee9ab2d0499eff155a1d6324", func := "loop.example/cavesurvey/laws.FnAirResist", spec := "fnAirResist", recurses := true, named := ["internal/strconv.uint64pow10", "math/bits.deBruijn32tab", "math/bits.deBruijn64tab"], apart := false, laid := [("math/bits.deBruijn32tab", laid_math_bits_deBruijn32tab), ("math/bits.deBruijn64tab", laid_math_bits_deBruijn64tab), ("internal/strconv.uint64pow10", laid_internal_strconv_uint64pow10)] }
def FnAirResistSaid : Prop := fnAirResistRow.holds Tryd.pinned (OpenSpec.ofChange fnAirResistSpec)

/-- ITS FALSE NEIGHBOUR: 'it returns false'. Refute it at one input. -/
def fnAirResistWrong : ChangeSpec := { name := "fnAirResist", fn := fun _ => fun
  | [d] => { results := [.lit (.bool false)], args := [d] }
  | _ => none }
def FnAirResistWrongFalsely : Prop := fnAirResistRow.holds Tryd.pinned (OpenSpec.ofChange fnAirResistWrong)

/-- 'laws.FnAirFlow': WHATEVER THE INPUT: true; the input reads as it did. -/
def fnAirFlowSpec : ChangeSpec := { name := "fnAirFlow", fn := fun _ => fun
  | [d] => { results := [.lit (.bool true)], args := [d] }
  | _ => none }
def fnAirFlowRow : OpenClaim := { program := "ytpfijnklnljccaadoor", sum := "5e7dd15170b5bcdf49c6579bd7e93e70fe23d0c9ee9ab2d0499eff155a1d6324", func := "loop.example/cavesurvey/laws.FnAirFlow", spec := "fnAirFlow", recurses := true, named := ["internal/strconv.uint64pow10", "math/bits.deBruijn32tab", "math/bits.deBruijn64tab"], apart := false, laid := [("math/bits.deBruijn32tab", laid_math_bits_deBruijn32tab), ("math/bits.deBruijn64tab", laid_math_bits_deBruijn64tab), ("internal/strconv.uint64pow10", laid_internal_strconv_uint64pow10)] }
def FnAirFlowSaid : Prop := fnAirFlowRow.holds Tryd.pinned (OpenSpec.ofChange fnAirFlowSpec)

/-- ITS FALSE NEIGHBOUR: 'it returns false'. Refute it at one input. -/
def fnAirFlowWrong : ChangeSpec := { name := "fnAirFlow", fn := fun _ => fun
  | [d] => { results := [.lit (.bool false)], args := [d] }
  | _ => none }
def FnAirFlowWrongFalsely : Prop := fnAirFlowRow.holds Tryd.pinned (OpenSpec.ofChange fnAirFlowWrong)

/- THE SECOND FORM. 'bulk': how many values and letters a reading holds, each counted each time it is reached (what is shared counts as often as it is met; a slice's spare places count too). A statement '..UptoSaid' is the law's where the arguments, and the package variables that the reading takes, are together of bulk at most 1048576: NARROWER than '..Said'. Prove '..Said' where nothing that the law and all that it calls make is longer than what came in: it says more and counts as full. Else prove '..UptoSaid'. A law counts once. -/
mutual
def uptoBulk {H : Type} : DataW H → Nat
  | .lit (.string bytes) => bytes.length + 1
  | .lit _ => 1
  | .nil => 1
  | .ptr d => uptoBulk d + 1
  | .slice elems spare => uptoBulkAll elems + uptoBulkAll spare + 1
  | .agg parts => uptoBulkAll parts + 1
  | .iface _ d => uptoBulk d + 1
  | .map entries => uptoBulkEntries entries + 1
  | .held _ => 1
def uptoBulkAll {H : Type} : List (DataW H) → Nat
  | [] => 0
  | d :: r => uptoBulk d + uptoBulkAll r
def uptoBulkEntries {H : Type} : List (Lit × DataW H) → Nat
  | [] => 0
  | x :: r => uptoBulkEntry x + uptoBulkEntries r
def uptoBulkEntry {H : Type} : Lit × DataW H → Nat
  | (.string bytes, d) => bytes.length + uptoBulk d + 1
  | (_, d) => uptoBulk d + 1
 end
def uptoSmall : (H : Type) → List (DataW H) → Bool := fun _ ds => decide (uptoBulkAll ds ≤ 1048576)
def OpenSpec.upto (s : _root_.Go.ChangeSpec) : _root_.Go.OpenSpec := { _root_.Go.OpenSpec.ofChange s with cond := some uptoSmall }

/-- 'laws.FnFracLess', WHERE WHAT IT READS IS OF BULK AT MOST 1048576: true; the input reads as it did. -/
def fnFracLessUptoRow : OpenClaim := { program := "ytpfijnklnljccaadoor", sum := "5e7dd15170b5bcdf49c6579bd7e93e70fe23d0c9ee9ab2d0499eff155a1d6324", func := "loop.example/cavesurvey/laws.FnFracLess", spec := "fnFracLess", named := ["internal/strconv.uint64pow10", "math/bits.deBruijn32tab", "math/bits.deBruijn64tab"], apart := false, laid := [("math/bits.deBruijn32tab", laid_math_bits_deBruijn32tab), ("math/bits.deBruijn64tab", laid_math_bits_deBruijn64tab), ("internal/strconv.uint64pow10", laid_internal_strconv_uint64pow10)], narrowed := true }
def FnFracLessUptoSaid : Prop := fnFracLessUptoRow.holds Tryd.pinned (OpenSpec.upto fnFracLessSpec)

/-- 'laws.FnMineValid', WHERE WHAT IT READS IS OF BULK AT MOST 1048576: true; the input reads as it did. -/
def fnMineValidUptoRow : OpenClaim := { program := "ytpfijnklnljccaadoor", sum := "5e7dd15170b5bcdf49c6579bd7e93e70fe23d0c9ee9ab2d0499eff155a1d6324", func := "loop.example/cavesurvey/laws.FnMineValid", spec := "fnMineValid", named := ["internal/strconv.uint64pow10", "math/bits.deBruijn32tab", "math/bits.deBruijn64tab"], apart := false, laid := [("math/bits.deBruijn32tab", laid_math_bits_deBruijn32tab), ("math/bits.deBruijn64tab", laid_math_bits_deBruijn64tab), ("internal/strconv.uint64pow10", laid_internal_strconv_uint64pow10)], narrowed := true }
def FnMineValidUptoSaid : Prop := fnMineValidUptoRow.holds Tryd.pinned (OpenSpec.upto fnMineValidSpec)

/-- 'laws.FnWiden', WHERE WHAT IT READS IS OF BULK AT MOST 1048576: true; the input reads as it did. -/
def fnWidenUptoRow : OpenClaim := { program := "ytpfijnklnljccaadoor", sum := "5e7dd15170b5bcdf49c6579bd7e93e70fe23d0c9ee9ab2d0499eff155a1d6324", func := "loop.example/cavesurvey/laws.FnWiden", spec := "fnWiden", named := ["internal/strconv.uint64pow10", "math/bits.deBruijn32tab", "math/bits.deBruijn64tab"], apart := false, laid := [("math/bits.deBruijn32tab", laid_math_bits_deBruijn32tab), ("math/bits.deBruijn64tab", laid_math_bits_deBruijn64tab), ("internal/strconv.uint64pow10", laid_internal_strconv_uint64pow10)], narrowed := true }
def FnWidenUptoSaid : Prop := fnWidenUptoRow.holds Tryd.pinned (OpenSpec.upto fnWidenSpec)

/-- 'laws.FnAirMatrix', WHERE WHAT IT READS IS OF BULK AT MOST 1048576: true; the input reads as it did. -/
def fnAirMatrixUptoRow : OpenClaim := { program := "ytpfijnklnljccaadoor", sum := "5e7dd15170b5bcdf49c6579bd7e93e70fe23d0c9ee9ab2d0499eff155a1d6324", func := "loop.example/cavesurvey/laws.FnAirMatrix", spec := "fnAirMatrix", named := ["internal/strconv.uint64pow10", "math/bits.deBruijn32tab", "math/bits.deBruijn64tab"], apart := false, laid := [("math/bits.deBruijn32tab", laid_math_bits_deBruijn32tab), ("math/bits.deBruijn64tab", laid_math_bits_deBruijn64tab), ("internal/strconv.uint64pow10", laid_internal_strconv_uint64pow10)], narrowed := true }
def FnAirMatrixUptoSaid : Prop := fnAirMatrixUptoRow.holds Tryd.pinned (OpenSpec.upto fnAirMatrixSpec)

/-- 'laws.FnFlowLoss', WHERE WHAT IT READS IS OF BULK AT MOST 1048576: true; the input reads as it did. -/
def fnFlowLossUptoRow : OpenClaim := { program := "ytpfijnklnljccaadoor", sum := "5e7dd15170b5bcdf49c6579bd7e93e70fe23d0c9ee9ab2d0499eff155a1d6324", func := "loop.example/cavesurvey/laws.FnFlowLoss", spec := "fnFlowLoss", recurses := true, named := ["internal/strconv.uint64pow10", "math/bits.deBruijn32tab", "math/bits.deBruijn64tab"], apart := false, laid := [("math/bits.deBruijn32tab", laid_math_bits_deBruijn32tab), ("math/bits.deBruijn64tab", laid_math_bits_deBruijn64tab), ("internal/strconv.uint64pow10", laid_internal_strconv_uint64pow10)], narrowed := true }
def FnFlowLossUptoSaid : Prop := fnFlowLossUptoRow.holds Tryd.pinned (OpenSpec.upto fnFlowLossSpec)

/-- 'laws.FnAirLinked', WHERE WHAT IT READS IS OF BULK AT MOST 1048576: true; the input reads as it did. -/
def fnAirLinkedUptoRow : OpenClaim := { program := "ytpfijnklnljccaadoor", sum := "5e7dd15170b5bcdf49c6579bd7e93e70fe23d0c9ee9ab2d0499eff155a1d6324", func := "loop.example/cavesurvey/laws.FnAirLinked", spec := "fnAirLinked", recurses := true, named := ["internal/strconv.uint64pow10", "math/bits.deBruijn32tab", "math/bits.deBruijn64tab"], apart := false, laid := [("math/bits.deBruijn32tab", laid_math_bits_deBruijn32tab), ("math/bits.deBruijn64tab", laid_math_bits_deBruijn64tab), ("internal/strconv.uint64pow10", laid_internal_strconv_uint64pow10)], narrowed := true }
def FnAirLinkedUptoSaid : Prop := fnAirLinkedUptoRow.holds Tryd.pinned (OpenSpec.upto fnAirLinkedSpec)

/-- 'laws.FnAirTrees', WHERE WHAT IT READS IS OF BULK AT MOST 1048576: true; the input reads as it did. -/
def fnAirTreesUptoRow : OpenClaim := { program := "ytpfijnklnljccaadoor", sum := "5e7dd15170b5bcdf49c6579bd7e93e70fe23d0c9ee9ab2d0499eff155a1d6324", func := "loop.example/cavesurvey/laws.FnAirTrees", spec := "fnAirTrees", recurses := true, named := ["internal/strconv.uint64pow10", "math/bits.deBruijn32tab", "math/bits.deBruijn64tab"], apart := false, laid := [("math/bits.deBruijn32tab", laid_math_bits_deBruijn32tab), ("math/bits.deBruijn64tab", laid_math_bits_deBruijn64tab), ("internal/strconv.uint64pow10", laid_internal_strconv_uint64pow10)], narrowed := true }
def FnAirTreesUptoSaid : Prop := fnAirTreesUptoRow.holds Tryd.pinned (OpenSpec.upto fnAirTreesSpec)

/-- 'laws.FnAirTreesWith', WHERE WHAT IT READS IS OF BULK AT MOST 1048576: true; the input reads as it did. -/
def fnAirTreesWithUptoRow : OpenClaim := { program := "ytpfijnklnljccaadoor", sum := "5e7dd15170b5bcdf49c6579bd7e93e70fe23d0c9ee9ab2d0499eff155a1d6324", func := "loop.example/cavesurvey/laws.FnAirTreesWith", spec := "fnAirTreesWith", recurses := true, named := ["internal/strconv.uint64pow10", "math/bits.deBruijn32tab", "math/bits.deBruijn64tab"], apart := false, laid := [("math/bits.deBruijn32tab", laid_math_bits_deBruijn32tab), ("math/bits.deBruijn64tab", laid_math_bits_deBruijn64tab), ("internal/strconv.uint64pow10", laid_internal_strconv_uint64pow10)], narrowed := true }
def FnAirTreesWithUptoSaid : Prop := fnAirTreesWithUptoRow.holds Tryd.pinned (OpenSpec.upto fnAirTreesWithSpec)

/-- 'laws.FnPressures', WHERE WHAT IT READS IS OF BULK AT MOST 1048576: true; the input reads as it did. -/
def fnPressuresUptoRow : OpenClaim := { program := "ytpfijnklnljccaadoor", sum := "5e7dd15170b5bcdf49c6579bd7e93e70fe23d0c9ee9ab2d0499eff155a1d6324", func := "loop.example/cavesurvey/laws.FnPressures", spec := "fnPressures", recurses := true, named := ["internal/strconv.uint64pow10", "math/bits.deBruijn32tab", "math/bits.deBruijn64tab"], apart := false, laid := [("math/bits.deBruijn32tab", laid_math_bits_deBruijn32tab), ("math/bits.deBruijn64tab", laid_math_bits_deBruijn64tab), ("internal/strconv.uint64pow10", laid_internal_strconv_uint64pow10)], narrowed := true }
def FnPressuresUptoSaid : Prop := fnPressuresUptoRow.holds Tryd.pinned (OpenSpec.upto fnPressuresSpec)

/-- 'laws.FnFlowOk', WHERE WHAT IT READS IS OF BULK AT MOST 1048576: true; the input reads as it did. -/
def fnFlowOkUptoRow : OpenClaim := { program := "ytpfijnklnljccaadoor", sum := "5e7dd15170b5bcdf49c6579bd7e93e70fe23d0c9ee9ab2d0499eff155a1d6324", func := "loop.example/cavesurvey/laws.FnFlowOk", spec := "fnFlowOk", recurses := true, named := ["internal/strconv.uint64pow10", "math/bits.deBruijn32tab", "math/bits.deBruijn64tab"], apart := false, laid := [("math/bits.deBruijn32tab", laid_math_bits_deBruijn32tab), ("math/bits.deBruijn64tab", laid_math_bits_deBruijn64tab), ("internal/strconv.uint64pow10", laid_internal_strconv_uint64pow10)], narrowed := true }
def FnFlowOkUptoSaid : Prop := fnFlowOkUptoRow.holds Tryd.pinned (OpenSpec.upto fnFlowOkSpec)

/-- 'laws.FnAirResist', WHERE WHAT IT READS IS OF BULK AT MOST 1048576: true; the input reads as it did. -/
def fnAirResistUptoRow : OpenClaim := { program := "ytpfijnklnljccaadoor", sum := "5e7dd15170b5bcdf49c6579bd7e93e70fe23d0c9ee9ab2d0499eff155a1d6324", func := "loop.example/cavesurvey/laws.FnAirResist", spec := "fnAirResist", recurses := true, named := ["internal/strconv.uint64pow10", "math/bits.deBruijn32tab", "math/bits.deBruijn64tab"], apart := false, laid := [("math/bits.deBruijn32tab", laid_math_bits_deBruijn32tab), ("math/bits.deBruijn64tab", laid_math_bits_deBruijn64tab), ("internal/strconv.uint64pow10", laid_internal_strconv_uint64pow10)], narrowed := true }
def FnAirResistUptoSaid : Prop := fnAirResistUptoRow.holds Tryd.pinned (OpenSpec.upto fnAirResistSpec)

/-- 'laws.FnAirFlow', WHERE WHAT IT READS IS OF BULK AT MOST 1048576: true; the input reads as it did. -/
def fnAirFlowUptoRow : OpenClaim := { program := "ytpfijnklnljccaadoor", sum := "5e7dd15170b5bcdf49c6579bd7e93e70fe23d0c9ee9ab2d0499eff155a1d6324", func := "loop.example/cavesurvey/laws.FnAirFlow", spec := "fnAirFlow", recurses := true, named := ["internal/strconv.uint64pow10", "math/bits.deBruijn32tab", "math/bits.deBruijn64tab"], apart := false, laid := [("math/bits.deBruijn32tab", laid_math_bits_deBruijn32tab), ("math/bits.deBruijn64tab", laid_math_bits_deBruijn64tab), ("internal/strconv.uint64pow10", laid_internal_strconv_uint64pow10)], narrowed := true }
def FnAirFlowUptoSaid : Prop := fnAirFlowUptoRow.holds Tryd.pinned (OpenSpec.upto fnAirFlowSpec)

end Rows
end Go.Proofs.YtpfijnklnljccaaDoor
