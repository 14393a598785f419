/-
  NARROWER THAN 'FOR EVERY INPUT', by the rows' own cells (each row's printed sentence says how): FnTreeFix: laid · FnTreesFix: laid · FnAdjust: laid · FnLinks: laid · FnTreesWith: laid · FnFixValid: laid · FnTreesAll: laid · FnTreesMany: laid · FnFixMiss: laid · FnFixSum: laid · FnSolve: laid · FnDet: laid.
  DERIVED. THE GIVEN ROWS OF THIS SEAT. 12 by the template 'for every input the law returns true; each argument reads behind the call as it read before'; 0 by the template 'total and deterministic' (their statements: YtnibfmofkamjoaaDoorTotals.lean).
  GIVEN WITH THE SEED: the statements are not yours to turn. If you find one false, say at which input.
  Laid BY PROGRAM, IN A SANDBOX (cutbox-rows.mjs): the forced cells as the released guide's own fill.sh prints them over the translation 3a77da0a262397f9… (all of the seat's roots in one cut). By AI agents, Wed Nov 11 2026. No macro, syntax, notation, axiom, sorry.
-/
import Derived.Test.YtnibfmofkamjoaaDoorChecked
import GoSem.Claim
import GoSem.ClaimJoined
import GoSem.ClaimMapViews
import Derived.JoinedTies
import Derived.KernelRfl
namespace Go.Proofs.YtnibfmofkamjoaaDoor
/- THE CELL 'sum', in the pinned program and in every row, IS THE sha256 OF THE DUMP (.gsa) THAT YtnibfmofkamjoaaDoorProg.lean LOADS. Nothing in Lean hashes anything: it is a label: what it is worth is what the hold of that sum in a sandbox is worth. -/
noncomputable def Tryd.pinned : Pinned := { name := "ytnibfmofkamjoaadoor", sum := "3a77da0a262397f905a42039a717a4a2100658a43e77d7dc64eef3961cd77a59", checked := Tryd.checked }
namespace Rows
def none {H : Type} : Left H := { results := [], args := [] }

/- WHAT THE LISTED PACKAGE-LEVEL VARIABLES READ AS WHEN THE CALL BEGINS. Each datum BY PROGRAM (the guide's laid-datum.mjs) off the statement by which the dump's own 'gosem.cut.vars' lays the variable. In a bare row this is a premise. The card (YtnibfmofkamjoaaDoorCards.lean) ties it to the program's text. -/
def laid_math_bits_deBruijn32tab {H : Type} : DataW H := .agg [.lit (.int .u8 0), .lit (.int .u8 1), .lit (.int .u8 28), .lit (.int .u8 2), .lit (.int .u8 29), .lit (.int .u8 14), .lit (.int .u8 24), .lit (.int .u8 3), .lit (.int .u8 30), .lit (.int .u8 22), .lit (.int .u8 20), .lit (.int .u8 15), .lit (.int .u8 25), .lit (.int .u8 17), .lit (.int .u8 4), .lit (.int .u8 8), .lit (.int .u8 31), .lit (.int .u8 27), .lit (.int .u8 13), .lit (.int .u8 23), .lit (.int .u8 21), .lit (.int .u8 19), .lit (.int .u8 16), .lit (.int .u8 7), .lit (.int .u8 26), .lit (.int .u8 12), .lit (.int .u8 18), .lit (.int .u8 6), .lit (.int .u8 11), .lit (.int .u8 5), .lit (.int .u8 10), .lit (.int .u8 9)]
def laid_math_bits_deBruijn64tab {H : Type} : DataW H := .agg [.lit (.int .u8 0), .lit (.int .u8 1), .lit (.int .u8 56), .lit (.int .u8 2), .lit (.int .u8 57), .lit (.int .u8 49), .lit (.int .u8 28), .lit (.int .u8 3), .lit (.int .u8 61), .lit (.int .u8 58), .lit (.int .u8 42), .lit (.int .u8 50), .lit (.int .u8 38), .lit (.int .u8 29), .lit (.int .u8 17), .lit (.int .u8 4), .lit (.int .u8 62), .lit (.int .u8 47), .lit (.int .u8 59), .lit (.int .u8 36), .lit (.int .u8 45), .lit (.int .u8 43), .lit (.int .u8 51), .lit (.int .u8 22), .lit (.int .u8 53), .lit (.int .u8 39), .lit (.int .u8 33), .lit (.int .u8 30), .lit (.int .u8 24), .lit (.int .u8 18), .lit (.int .u8 12), .lit (.int .u8 5), .lit (.int .u8 63), .lit (.int .u8 55), .lit (.int .u8 48), .lit (.int .u8 27), .lit (.int .u8 60), .lit (.int .u8 41), .lit (.int .u8 37), .lit (.int .u8 16), .lit (.int .u8 46), .lit (.int .u8 35), .lit (.int .u8 44), .lit (.int .u8 21), .lit (.int .u8 52), .lit (.int .u8 32), .lit (.int .u8 23), .lit (.int .u8 11), .lit (.int .u8 54), .lit (.int .u8 26), .lit (.int .u8 40), .lit (.int .u8 15), .lit (.int .u8 34), .lit (.int .u8 20), .lit (.int .u8 31), .lit (.int .u8 10), .lit (.int .u8 25), .lit (.int .u8 14), .lit (.int .u8 19), .lit (.int .u8 9), .lit (.int .u8 13), .lit (.int .u8 8), .lit (.int .u8 7), .lit (.int .u8 6)]
def laid_internal_strconv_uint64pow10 {H : Type} : DataW H := .agg [.lit (.int .u64 1), .lit (.int .u64 10), .lit (.int .u64 100), .lit (.int .u64 1000), .lit (.int .u64 10000), .lit (.int .u64 100000), .lit (.int .u64 1000000), .lit (.int .u64 10000000), .lit (.int .u64 100000000), .lit (.int .u64 1000000000), .lit (.int .u64 10000000000), .lit (.int .u64 100000000000), .lit (.int .u64 1000000000000), .lit (.int .u64 10000000000000), .lit (.int .u64 100000000000000), .lit (.int .u64 1000000000000000), .lit (.int .u64 10000000000000000), .lit (.int .u64 100000000000000000), .lit (.int .u64 1000000000000000000), .lit (.int .u64 10000000000000000000)]

/-- 'laws.FnTreeFix': WHATEVER THE INPUT: true; the input reads as it did. -/
def fnTreeFixSpec : ChangeSpec := { name := "fnTreeFix", fn := fun _ => fun
  | [d] => { results := [.lit (.bool true)], args := [d] }
  | _ => none }
def fnTreeFixRow : OpenClaim := { program := "ytnibfmofkamjoaadoor", sum := "3a77da0a262397f905a42039a717a4a2100658a43e77d7dc64eef3961cd77a59", func := "loop.example/cavesurvey/laws.FnTreeFix", spec := "fnTreeFix", recurses := true, named := ["internal/strconv.uint64pow10", "math/bits.deBruijn32tab", "math/bits.deBruijn64tab"], apart := false, laid := [("math/bits.deBruijn32tab", laid_math_bits_deBruijn32tab), ("math/bits.deBruijn64tab", laid_math_bits_deBruijn64tab), ("internal/strconv.uint64pow10", laid_internal_strconv_uint64pow10)] }
def FnTreeFixSaid : Prop := fnTreeFixRow.holds Tryd.pinned (OpenSpec.ofChange fnTreeFixSpec)

/-- ITS FALSE NEIGHBOUR: 'it returns false'. Refute it at one input. -/
def fnTreeFixWrong : ChangeSpec := { name := "fnTreeFix", fn := fun _ => fun
  | [d] => { results := [.lit (.bool false)], args := [d] }
  | _ => none }
def FnTreeFixWrongFalsely : Prop := fnTreeFixRow.holds Tryd.pinned (OpenSpec.ofChange fnTreeFixWrong)

/-- 'laws.FnTreesFix': WHATEVER THE INPUT: true; the input reads as it did. -/
def fnTreesFixSpec : ChangeSpec := { name := "fnTreesFix", fn := fun _ => fun
  | [d] => { results := [.lit (.bool true)], args := [d] }
  | _ => none }
def fnTreesFixRow : OpenClaim := { program := "ytnibfmofkamjoaadoor", sum := "3a77da0a262397f905a42039a717a4a2100658a43e77d7dc64eef3961cd77a59", func := "loop.example/cavesurvey/laws.FnTreesFix", spec := "fnTreesFix", recurses := true, named := ["internal/strconv.uint64pow10", "math/bits.deBruijn32tab", "math/bits.deBruijn64tab"], apart := false, laid := [("math/bits.deBruijn32tab", laid_math_bits_deBruijn32tab), ("math/bits.deBruijn64tab", laid_math_bits_deBruijn64tab), ("internal/strconv.uint64pow10", laid_internal_strconv_uint64pow10)] }
def FnTreesFixSaid : Prop := fnTreesFixRow.holds Tryd.pinned (OpenSpec.ofChange fnTreesFixSpec)

/-- ITS FALSE NEIGHBOUR: 'it returns false'. Refute it at one input. -/
def fnTreesFixWrong : ChangeSpec := { name := "fnTreesFix", fn := fun _ => fun
  | [d] => { results := [.lit (.bool false)], args := [d] }
  | _ => none }
def FnTreesFixWrongFalsely : Prop := fnTreesFixRow.holds Tryd.pinned (OpenSpec.ofChange fnTreesFixWrong)

/-- 'laws.FnAdjust': WHATEVER THE INPUT: true; the input reads as it did. -/
def fnAdjustSpec : ChangeSpec := { name := "fnAdjust", fn := fun _ => fun
  | [d] => { results := [.lit (.bool true)], args := [d] }
  | _ => none }
def fnAdjustRow : OpenClaim := { program := "ytnibfmofkamjoaadoor", sum := "3a77da0a262397f905a42039a717a4a2100658a43e77d7dc64eef3961cd77a59", func := "loop.example/cavesurvey/laws.FnAdjust", spec := "fnAdjust", recurses := true, named := ["internal/strconv.uint64pow10", "math/bits.deBruijn32tab", "math/bits.deBruijn64tab"], apart := false, laid := [("math/bits.deBruijn32tab", laid_math_bits_deBruijn32tab), ("math/bits.deBruijn64tab", laid_math_bits_deBruijn64tab), ("internal/strconv.uint64pow10", laid_internal_strconv_uint64pow10)] }
def FnAdjustSaid : Prop := fnAdjustRow.holds Tryd.pinned (OpenSpec.ofChange fnAdjustSpec)

/-- ITS FALSE NEIGHBOUR: 'it returns false'. Refute it at one input. -/
def fnAdjustWrong : ChangeSpec := { name := "fnAdjust", fn := fun _ => fun
  | [d] => { results := [.lit (.bool false)], args := [d] }
  | _ => none }
def FnAdjustWrongFalsely : Prop := fnAdjustRow.holds Tryd.pinned (OpenSpec.ofChange fnAdjustWrong)

/-- 'laws.FnLinks': WHATEVER THE INPUT: true; the input reads as it did. -/
def fnLinksSpec : ChangeSpec := { name := "fnLinks", fn := fun _ => fun
  | [d] => { results := [.lit (.bool true)], args := [d] }
  | _ => none }
def fnLinksRow : OpenClaim := { program := "ytnibfmofkamjoaadoor", sum := "3a77da0a262397f905a42039a717a4a2100658a43e77d7dc64eef3961cd77a59", func := "loop.example/cavesurvey/laws.FnLinks", spec := "fnLinks", recurses := true, named := ["internal/strconv.uint64pow10", "math/bits.deBruijn32tab", "math/bits.deBruijn64tab"], apart := false, laid := [("math/bits.deBruijn32tab", laid_math_bits_deBruijn32tab), ("math/bits.deBruijn64tab", laid_math_bits_deBruijn64tab), ("internal/strconv.uint64pow10", laid_internal_strconv_uint64pow10)] }
def FnLinksSaid : Prop := fnLinksRow.holds Tryd.pinned (OpenSpec.ofChange fnLinksSpec)

/-- ITS FALSE NEIGHBOUR: 'it returns false'. Refute it at one input. -/
def fnLinksWrong : ChangeSpec := { name := "fnLinks", fn := fun _ => fun
  | [d] => { results := [.lit (.bool false)], args := [d] }
  | _ => none }
def FnLinksWrongFalsely : Prop := fnLinksRow.holds Tryd.pinned (OpenSpec.ofChange fnLinksWrong)

/-- 'laws.FnTreesWith': WHATEVER THE INPUT: true; the input reads as it did. -/
def fnTreesWithSpec : ChangeSpec := { name := "fnTreesWith", fn := fun _ => fun
  | [d] => { results := [.lit (.bool true)], args := [d] }
  | _ => none }
def fnTreesWithRow : OpenClaim := { program := "ytnibfmofkamjoaadoor", sum := "3a77da0a262397f905a42039a717a4a2100658a43e77d7dc64eef3961cd77a59", func := "loop.example/cavesurvey/laws.FnTreesWith", spec := "fnTreesWith", recurses := true, named := ["internal/strconv.uint64pow10", "math/bits.deBruijn32tab", "math/bits.deBruijn64tab"], apart := false, laid := [("math/bits.deBruijn32tab", laid_math_bits_deBruijn32tab), ("math/bits.deBruijn64tab", laid_math_bits_deBruijn64tab), ("internal/strconv.uint64pow10", laid_internal_strconv_uint64pow10)] }
def FnTreesWithSaid : Prop := fnTreesWithRow.holds Tryd.pinned (OpenSpec.ofChange fnTreesWithSpec)

/-- ITS FALSE NEIGHBOUR: 'it returns false'. Refute it at one input. -/
def fnTreesWithWrong : ChangeSpec := { name := "fnTreesWith", fn := fun _ => fun
  | [d] => { results := [.lit (.bool false)], args := [d] }
  | _ => none }
def FnTreesWithWrongFalsely : Prop := fnTreesWithRow.holds Tryd.pinned (OpenSpec.ofChange fnTreesWithWrong)

/-- 'laws.FnFixValid': WHATEVER THE INPUT: true; the input reads as it did. -/
def fnFixValidSpec : ChangeSpec := { name := "fnFixValid", fn := fun _ => fun
  | [d] => { results := [.lit (.bool true)], args := [d] }
  | _ => none }
def fnFixValidRow : OpenClaim := { program := "ytnibfmofkamjoaadoor", sum := "3a77da0a262397f905a42039a717a4a2100658a43e77d7dc64eef3961cd77a59", func := "loop.example/cavesurvey/laws.FnFixValid", spec := "fnFixValid", recurses := true, named := ["internal/strconv.uint64pow10", "math/bits.deBruijn32tab", "math/bits.deBruijn64tab"], apart := false, laid := [("math/bits.deBruijn32tab", laid_math_bits_deBruijn32tab), ("math/bits.deBruijn64tab", laid_math_bits_deBruijn64tab), ("internal/strconv.uint64pow10", laid_internal_strconv_uint64pow10)] }
def FnFixValidSaid : Prop := fnFixValidRow.holds Tryd.pinned (OpenSpec.ofChange fnFixValidSpec)

/-- ITS FALSE NEIGHBOUR: 'it returns false'. Refute it at one input. -/
def fnFixValidWrong : ChangeSpec := { name := "fnFixValid", fn := fun _ => fun
  | [d] => { results := [.lit (.bool false)], args := [d] }
  | _ => none }
def FnFixValidWrongFalsely : Prop := fnFixValidRow.holds Tryd.pinned (OpenSpec.ofChange fnFixValidWrong)

/-- 'laws.FnTreesAll': WHATEVER THE INPUT: true; the input reads as it did. -/
def fnTreesAllSpec : ChangeSpec := { name := "fnTreesAll", fn := fun _ => fun
  | [d] => { results := [.lit (.bool true)], args := [d] }
  | _ => none }
def fnTreesAllRow : OpenClaim := { program := "ytnibfmofkamjoaadoor", sum := "3a77da0a262397f905a42039a717a4a2100658a43e77d7dc64eef3961cd77a59", func := "loop.example/cavesurvey/laws.FnTreesAll", spec := "fnTreesAll", recurses := true, named := ["internal/strconv.uint64pow10", "math/bits.deBruijn32tab", "math/bits.deBruijn64tab"], apart := false, laid := [("math/bits.deBruijn32tab", laid_math_bits_deBruijn32tab), ("math/bits.deBruijn64tab", laid_math_bits_deBruijn64tab), ("internal/strconv.uint64pow10", laid_internal_strconv_uint64pow10)] }
def FnTreesAllSaid : Prop := fnTreesAllRow.holds Tryd.pinned (OpenSpec.ofChange fnTreesAllSpec)

/-- ITS FALSE NEIGHBOUR: 'it returns false'. Refute it at one input. -/
def fnTreesAllWrong : ChangeSpec := { name := "fnTreesAll", fn := fun _ => fun
  | [d] => { results := [.lit (.bool false)], args := [d] }
  | _ => none }
def FnTreesAllWrongFalsely : Prop := fnTreesAllRow.holds Tryd.pinned (OpenSpec.ofChange fnTreesAllWrong)

/-- 'laws.FnTreesMany': WHATEVER THE INPUT: true; the input reads as it did. -/
def fnTreesManySpec : ChangeSpec := { name := "fnTreesMany", fn := fun _ => fun
  | [d] => { results := [.lit (.bool true)], args := [d] }
  | _ => none }
def fnTreesManyRow : OpenClaim := { program := "ytnibfmofkamjoaadoor", sum := "3a77da0a262397f905a42039a717a4a2100658a43e77d7dc64eef3961cd77a59", func := "loop.example/cavesurvey/laws.FnTreesMany", spec := "fnTreesMany", recurses := true, named := ["internal/strconv.uint64pow10", "math/bits.deBruijn32tab", "math/bits.deBruijn64tab"], apart := false, laid := [("math/bits.deBruijn32tab", laid_math_bits_deBruijn32tab), ("math/bits.deBruijn64tab", laid_math_bits_deBruijn64tab), ("internal/strconv.uint64pow10", laid_internal_strconv_uint64pow10)] }
def FnTreesManySaid : Prop := fnTreesManyRow.holds Tryd.pinned (OpenSpec.ofChange fnTreesManySpec)

/-- ITS FALSE NEIGHBOUR: 'it returns false'. Refute it at one input. -/
def fnTreesManyWrong : ChangeSpec := { name := "fnTreesMany", fn := fun _ => fun
  | [d] => { results := [.lit (.bool false)], args := [d] }
  | _ => none }
def FnTreesManyWrongFalsely : Prop := fnTreesManyRow.holds Tryd.pinned (OpenSpec.ofChange fnTreesManyWrong)

/-- 'laws.FnFixMiss': WHATEVER THE INPUT: true; the input reads as it did. -/
def fnFixMissSpec : ChangeSpec := { name := "fnFixMiss", fn := fun _ => fun
  | [d] => { results := [.lit (.bool true)], args := [d] }
  | _ => none }
def fnFixMissRow : OpenClaim := { program := "ytnibfmofkamjoaadoor", sum := "3a77da0a262397f905a42039a717a4a2100658a43e77d7dc64eef3961cd77a59", func := "loop.example/cavesurvey/laws.FnFixMiss", spec := "fnFixMiss", recurses := true, named := ["internal/strconv.uint64pow10", "math/bits.deBruijn32tab", "math/bits.deBruijn64tab"], apart := false, laid := [("math/bits.deBruijn32tab", laid_math_bits_deBruijn32tab), ("math/bits.deBruijn64tab", laid_math_bits_deBruijn64tab), ("internal/strconv.uint64pow10", laid_internal_strconv_uint64pow10)] }
def FnFixMissSaid : Prop := fnFixMissRow.holds Tryd.pinned (OpenSpec.ofChange fnFixMissSpec)

/-- ITS FALSE NEIGHBOUR: 'it returns false'. Refute it at one input. -/
def fnFixMissWrong : ChangeSpec := { name := "fnFixMiss", fn := fun _ => fun
  | [d] => { results := [.lit (.bool false)], args := [d] }
  | _ => none }
def FnFixMissWrongFalsely : Prop := fnFixMissRow.holds Tryd.pinned (OpenSpec.ofChange fnFixMissWrong)

/-- 'laws.FnFixSum': WHATEVER THE INPUT: true; the input reads as it did. -/
def fnFixSumSpec : ChangeSpec := { name := "fnFixSum", fn := fun _ => fun
  | [d] => { results := [.lit (.bool true)], args := [d] }
  | _ => none }
def fnFixSumRow : OpenClaim := { program := "ytnibfmofkamjoaadoor", sum := "3a77da0a262397f905a42039a717a4a2100658a43e77d7dc64eef3961cd77a59", func := "loop.example/cavesurvey/laws.FnFixSum", spec := "fnFixSum", recurses := true, named := ["internal/strconv.uint64pow10", "math/bits.deBruijn32tab", "math/bits.deBruijn64tab"], apart := false, laid := [("math/bits.deBruijn32tab", laid_math_bits_deBruijn32tab), ("math/bits.deBruijn64tab", laid_math_bits_deBruijn64tab), ("internal/strconv.uint64pow10", laid_internal_strconv_uint64pow10)] }
def FnFixSumSaid : Prop := fnFixSumRow.holds Tryd.pinned (OpenSpec.ofChange fnFixSumSpec)

/-- ITS FALSE NEIGHBOUR: 'it returns false'. Refute it at one input. -/
def fnFixSumWrong : ChangeSpec := { name := "fnFixSum", fn := fun _ => fun
  | [d] => { results := [.lit (.bool false)], args := [d] }
  | _ => none }
def FnFixSumWrongFalsely : Prop := fnFixSumRow.holds Tryd.pinned (OpenSpec.ofChange fnFixSumWrong)

/-- 'laws.FnSolve': WHATEVER THE INPUT: true; the input reads as it did. -/
def fnSolveSpec : ChangeSpec := { name := "fnSolve", fn := fun _ => fun
  | [d] => { results := [.lit (.bool true)], args := [d] }
  | _ => none }
def fnSolveRow : OpenClaim := { program := "ytnibfmofkamjoaadoor", sum := "3a77da0a262397f905a42039a717a4a2100658a43e77d7dc64eef3961cd77a59", func := "loop.example/cavesurvey/laws.FnSolve", spec := "fnSolve", recurses := true, named := ["internal/strconv.uint64pow10", "math/bits.deBruijn32tab", "math/bits.deBruijn64tab"], apart := false, laid := [("math/bits.deBruijn32tab", laid_math_bits_deBruijn32tab), ("math/bits.deBruijn64tab", laid_math_bits_deBruijn64tab), ("internal/strconv.uint64pow10", laid_internal_strconv_uint64pow10)] }
def FnSolveSaid : Prop := fnSolveRow.holds Tryd.pinned (OpenSpec.ofChange fnSolveSpec)

/-- ITS FALSE NEIGHBOUR: 'it returns false'. Refute it at one input. -/
def fnSolveWrong : ChangeSpec := { name := "fnSolve", fn := fun _ => fun
  | [d] => { results := [.lit (.bool false)], args := [d] }
  | _ => none }
def FnSolveWrongFalsely : Prop := fnSolveRow.holds Tryd.pinned (OpenSpec.ofChange fnSolveWrong)

/-- 'laws.FnDet': WHATEVER THE INPUT: true; the input reads as it did. -/
def fnDetSpec : ChangeSpec := { name := "fnDet", fn := fun _ => fun
  | [d] => { results := [.lit (.bool true)], args := [d] }
  | _ => none }
def fnDetRow : OpenClaim := { program := "ytnibfmofkamjoaadoor", sum := "3a77da0a262397f905a42039a717a4a2100658a43e77d7dc64eef3961cd77a59", func := "loop.example/cavesurvey/laws.FnDet", spec := "fnDet", recurses := true, named := ["internal/strconv.uint64pow10", "math/bits.deBruijn32tab", "math/bits.deBruijn64tab"], apart := false, laid := [("math/bits.deBruijn32tab", laid_math_bits_deBruijn32tab), ("math/bits.deBruijn64tab", laid_math_bits_deBruijn64tab), ("internal/strconv.uint64pow10", laid_internal_strconv_uint64pow10)] }
def FnDetSaid : Prop := fnDetRow.holds Tryd.pinned (OpenSpec.ofChange fnDetSpec)

/-- ITS FALSE NEIGHBOUR: 'it returns false'. Refute it at one input. -/
def fnDetWrong : ChangeSpec := { name := "fnDet", fn := fun _ => fun
  | [d] => { results := [.lit (.bool false)], args := [d] }
  | _ => none }
def FnDetWrongFalsely : Prop := fnDetRow.holds Tryd.pinned (OpenSpec.ofChange fnDetWrong)

/- THE SECOND FORM. 'bulk': how many values and letters a reading holds, each counted each time it is reached (what is shared counts as often as it is met; a slice's spare places count too). A statement '..UptoSaid' is the law's where the arguments, and the package variables that the reading takes, are together of bulk at most 1048576: NARROWER than '..Said'. Prove '..Said' where nothing that the law and all that it calls make is longer than what came in: it says more and counts as full. Else prove '..UptoSaid'. A law counts once. -/
mutual
def uptoBulk {H : Type} : DataW H → Nat
  | .lit (.string bytes) => bytes.length + 1
  | .lit _ => 1
  | .nil => 1
  | .ptr d => uptoBulk d + 1
  | .slice elems spare => uptoBulkAll elems + uptoBulkAll spare + 1
  | .agg parts => uptoBulkAll parts + 1
  | .iface _ d => uptoBulk d + 1
  | .map entries => uptoBulkEntries entries + 1
  | .held _ => 1
def uptoBulkAll {H : Type} : List (DataW H) → Nat
  | [] => 0
  | d :: r => uptoBulk d + uptoBulkAll r
def uptoBulkEntries {H : Type} : List (Lit × DataW H) → Nat
  | [] => 0
  | x :: r => uptoBulkEntry x + uptoBulkEntries r
def uptoBulkEntry {H : Type} : Lit × DataW H → Nat
  | (.string bytes, d) => bytes.length + uptoBulk d + 1
  | (_, d) => uptoBulk d + 1
 end
def uptoSmall : (H : Type) → List (DataW H) → Bool := fun _ ds => decide (uptoBulkAll ds ≤ 1048576)
def OpenSpec.upto (s : _root_.Go.ChangeSpec) : _root_.Go.OpenSpec := { _root_.Go.OpenSpec.ofChange s with cond := some uptoSmall }

/-- 'laws.FnTreeFix', WHERE WHAT IT READS IS OF BULK AT MOST 1048576: true; the input reads as it did. -/
def fnTreeFixUptoRow : OpenClaim := { program := "ytnibfmofkamjoaadoor", sum := "3a77da0a262397f905a42039a717a4a2100658a43e77d7dc64eef3961cd77a59", func := "loop.example/cavesurvey/laws.FnTreeFix", spec := "fnTreeFix", recurses := true, named := ["internal/strconv.uint64pow10", "math/bits.deBruijn32tab", "math/bits.deBruijn64tab"], apart := false, laid := [("math/bits.deBruijn32tab", laid_math_bits_deBruijn32tab), ("math/bits.deBruijn64tab", laid_math_bits_deBruijn64tab), ("internal/strconv.uint64pow10", laid_internal_strconv_uint64pow10)], narrowed := true }
def FnTreeFixUptoSaid : Prop := fnTreeFixUptoRow.holds Tryd.pinned (OpenSpec.upto fnTreeFixSpec)

/-- 'laws.FnTreesFix', WHERE WHAT IT READS IS OF BULK AT MOST 1048576: true; the input reads as it did. -/
def fnTreesFixUptoRow : OpenClaim := { program := "ytnibfmofkamjoaadoor", sum := "3a77da0a262397f905a42039a717a4a2100658a43e77d7dc64eef3961cd77a59", func := "loop.example/cavesurvey/laws.FnTreesFix", spec := "fnTreesFix", recurses := true, named := ["internal/strconv.uint64pow10", "math/bits.deBruijn32tab", "math/bits.deBruijn64tab"], apart := false, laid := [("math/bits.deBruijn32tab", laid_math_bits_deBruijn32tab), ("math/bits.deBruijn64tab", laid_math_bits_deBruijn64tab), ("internal/strconv.uint64pow10", laid_internal_strconv_uint64pow10)], narrowed := true }
def FnTreesFixUptoSaid : Prop := fnTreesFixUptoRow.holds Tryd.pinned (OpenSpec.upto fnTreesFixSpec)

/-- 'laws.FnAdjust', WHERE WHAT IT READS IS OF BULK AT MOST 1048576: true; the input reads as it did. -/
def fnAdjustUptoRow : OpenClaim := { program := "ytnibfmofkamjoaadoor", sum := "3a77da0a262397f905a42039a717a4a2100658a43e77d7dc64eef3961cd77a59", func := "loop.example/cavesurvey/laws.FnAdjust", spec := "fnAdjust", recurses := true, named := ["internal/strconv.uint64pow10", "math/bits.deBruijn32tab", "math/bits.deBruijn64tab"], apart := false, laid := [("math/bits.deBruijn32tab", laid_math_bits_deBruijn32tab), ("math/bits.deBruijn64tab", laid_math_bits_deBruijn64tab), ("internal/strconv.uint64pow10", laid_internal_strconv_uint64pow10)], narrowed := true }
def FnAdjustUptoSaid : Prop := fnAdjustUptoRow.holds Tryd.pinned (OpenSpec.upto fnAdjustSpec)

/-- 'laws.FnLinks', WHERE WHAT IT READS IS OF BULK AT MOST 1048576: true; the input reads as it did. -/
def fnLinksUptoRow : OpenClaim := { program := "ytnibfmofkamjoaadoor", sum := "3a77da0a262397f905a42039a717a4a2100658a43e77d7dc64eef3961cd77a59", func := "loop.example/cavesurvey/laws.FnLinks", spec := "fnLinks", recurses := true, named := ["internal/strconv.uint64pow10", "math/bits.deBruijn32tab", "math/bits.deBruijn64tab"], apart := false, laid := [("math/bits.deBruijn32tab", laid_math_bits_deBruijn32tab), ("math/bits.deBruijn64tab", laid_math_bits_deBruijn64tab), ("internal/strconv.uint64pow10", laid_internal_strconv_uint64pow10)], narrowed := true }
def FnLinksUptoSaid : Prop := fnLinksUptoRow.holds Tryd.pinned (OpenSpec.upto fnLinksSpec)

/-- 'laws.FnTreesWith', WHERE WHAT IT READS IS OF BULK AT MOST 1048576: true; the input reads as it did. -/
def fnTreesWithUptoRow : OpenClaim := { program := "ytnibfmofkamjoaadoor", sum := "3a77da0a262397f905a42039a717a4a2100658a43e77d7dc64eef3961cd77a59", func := "loop.example/cavesurvey/laws.FnTreesWith", spec := "fnTreesWith", recurses := true, named := ["internal/strconv.uint64pow10", "math/bits.deBruijn32tab", "math/bits.deBruijn64tab"], apart := false, laid := [("math/bits.deBruijn32tab", laid_math_bits_deBruijn32tab), ("math/bits.deBruijn64tab", laid_math_bits_deBruijn64tab), ("internal/strconv.uint64pow10", laid_internal_strconv_uint64pow10)], narrowed := true }
def FnTreesWithUptoSaid : Prop := fnTreesWithUptoRow.holds Tryd.pinned (OpenSpec.upto fnTreesWithSpec)

/-- 'laws.FnFixValid', WHERE WHAT IT READS IS OF BULK AT MOST 1048576: true; the input reads as it did. -/
def fnFixValidUptoRow : OpenClaim := { program := "ytnibfmofkamjoaadoor", sum := "3a77da0a262397f905a42039a717a4a2100658a43e77d7dc64eef3961cd77a59", func := "loop.example/cavesurvey/laws.FnFixValid", spec := "fnFixValid", recurses := true, named := ["internal/strconv.uint64pow10", "math/bits.deBruijn32tab", "math/bits.deBruijn64tab"], apart := false, laid := [("math/bits.deBruijn32tab", laid_math_bits_deBruijn32tab), ("math/bits.deBruijn64tab", laid_math_bits_deBruijn64tab), ("internal/strconv.uint64pow10", laid_internal_strconv_uint64pow10)], narrowed := true }
def FnFixValidUptoSaid : Prop := fnFixValidUptoRow.holds Tryd.pinned (OpenSpec.upto fnFixValidSpec)

/-- 'laws.FnTreesAll', WHERE WHAT IT READS IS OF BULK AT MOST 1048576: true; the input reads as it did. -/
def fnTreesAllUptoRow : OpenClaim := { program := "ytnibfmofkamjoaadoor", sum := "3a77da0a262397f905a42039a717a4a2100658a43e77d7dc64eef3961cd77a59", func := "loop.example/cavesurvey/laws.FnTreesAll", spec := "fnTreesAll", recurses := true, named := ["internal/strconv.uint64pow10", "math/bits.deBruijn32tab", "math/bits.deBruijn64tab"], apart := false, laid := [("math/bits.deBruijn32tab", laid_math_bits_deBruijn32tab), ("math/bits.deBruijn64tab", laid_math_bits_deBruijn64tab), ("internal/strconv.uint64pow10", laid_internal_strconv_uint64pow10)], narrowed := true }
def FnTreesAllUptoSaid : Prop := fnTreesAllUptoRow.holds Tryd.pinned (OpenSpec.upto fnTreesAllSpec)

/-- 'laws.FnTreesMany', WHERE WHAT IT READS IS OF BULK AT MOST 1048576: true; the input reads as it did. -/
def fnTreesManyUptoRow : OpenClaim := { program := "ytnibfmofkamjoaadoor", sum := "3a77da0a262397f905a42039a717a4a2100658a43e77d7dc64eef3961cd77a59", func := "loop.example/cavesurvey/laws.FnTreesMany", spec := "fnTreesMany", recurses := true, named := ["internal/strconv.uint64pow10", "math/bits.deBruijn32tab", "math/bits.deBruijn64tab"], apart := false, laid := [("math/bits.deBruijn32tab", laid_math_bits_deBruijn32tab), ("math/bits.deBruijn64tab", laid_math_bits_deBruijn64tab), ("internal/strconv.uint64pow10", laid_internal_strconv_uint64pow10)], narrowed := true }
def FnTreesManyUptoSaid : Prop := fnTreesManyUptoRow.holds Tryd.pinned (OpenSpec.upto fnTreesManySpec)

/-- 'laws.FnFixMiss', WHERE WHAT IT READS IS OF BULK AT MOST 1048576: true; the input reads as it did. -/
def fnFixMissUptoRow : OpenClaim := { program := "ytnibfmofkamjoaadoor", sum := "3a77da0a262397f905a42039a717a4a2100658a43e77d7dc64eef3961cd77a59", func := "loop.example/cavesurvey/laws.FnFixMiss", spec := "fnFixMiss", recurses := true, named := ["internal/strconv.uint64pow10", "math/bits.deBruijn32tab", "math/bits.deBruijn64tab"], apart := false, laid := [("math/bits.deBruijn32tab", laid_math_bits_deBruijn32tab), ("math/bits.deBruijn64tab", laid_math_bits_deBruijn64tab), ("internal/strconv.uint64pow10", laid_internal_strconv_uint64pow10)], narrowed := true }
def FnFixMissUptoSaid : Prop := fnFixMissUptoRow.holds Tryd.pinned (OpenSpec.upto fnFixMissSpec)

/-- 'laws.FnFixSum', WHERE WHAT IT READS IS OF BULK AT MOST 1048576: true; the input reads as it did. -/
def fnFixSumUptoRow : OpenClaim := { program := "ytnibfmofkamjoaadoor", sum := "3a77da0a262397f905a42039a717a4a2100658a43e77d7dc64eef3961cd77a59", func := "loop.example/cavesurvey/laws.FnFixSum", spec := "fnFixSum", recurses := true, named := ["internal/strconv.uint64pow10", "math/bits.deBruijn32tab", "math/bits.deBruijn64tab"], apart := false, laid := [("math/bits.deBruijn32tab", laid_math_bits_deBruijn32tab), ("math/bits.deBruijn64tab", laid_math_bits_deBruijn64tab), ("internal/strconv.uint64pow10", laid_internal_strconv_uint64pow10)], narrowed := true }
def FnFixSumUptoSaid : Prop := fnFixSumUptoRow.holds Tryd.pinned (OpenSpec.upto fnFixSumSpec)

/-- 'laws.FnSolve', WHERE WHAT IT READS IS OF BULK AT MOST 1048576: true; the input reads as it did. -/
def fnSolveUptoRow : OpenClaim := { program := "ytnibfmofkamjoaadoor", sum := "3a77da0a262397f905a42039a717a4a2100658a43e77d7dc64eef3961cd77a59", func := "loop.example/cavesurvey/laws.FnSolve", spec := "fnSolve", recurses := true, named := ["internal/strconv.uint64pow10", "math/bits.deBruijn32tab", "math/bits.deBruijn64tab"], apart := false, laid := [("math/bits.deBruijn32tab", laid_math_bits_deBruijn32tab), ("math/bits.deBruijn64tab", laid_math_bits_deBruijn64tab), ("internal/strconv.uint64pow10", laid_internal_strconv_uint64pow10)], narrowed := true }
def FnSolveUptoSaid : Prop := fnSolveUptoRow.holds Tryd.pinned (OpenSpec.upto fnSolveSpec)

/-- 'laws.FnDet', WHERE WHAT IT READS IS OF BULK AT MOST 1048576: true; the input reads as it did. -/
def fnDetUptoRow : OpenClaim := { program := "ytnibfmofkamjoaadoor", sum := "3a77da0a262397f905a42039a717a4a2100658a43e77d7dc64eef3961cd77a59", func := "loop.example/cavesurvey/laws.FnDet", spec := "fnDet", recurses := true, named := ["internal/strconv.uint64pow10", "math/bits.deBruijn32tab", "math/bits.deBruijn64tab"], apart := false, laid := [("math/bits.deBruijn32tab", laid_math_bits_deBruijn32tab), ("math/bits.deBruijn64tab", laid_math_bits_deBruijn64tab), ("internal/strconv.uint64pow10", laid_internal_strconv_uint64pow10)], narrowed := true }
def FnDetUptoSaid : Prop := fnDetUptoRow.holds Tryd.pinned (OpenSpec.upto fnDetSpec)

end Rows
end Go.Proofs.YtnibfmofkamjoaaDoor
