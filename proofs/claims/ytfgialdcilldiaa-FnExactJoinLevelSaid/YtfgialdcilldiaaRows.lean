/-
  No cell of these rows narrows 'for every input' (looked for: loops, veiled, ifaces, maps, wideKeys, modest, calm, conditions, laid).
  DERIVED. THE GIVEN ROWS OF THIS SEAT. 12 by the template 'for every input the law returns true; each argument reads behind the call as it read before'; 0 by the template 'total and deterministic' (their statements: YtfgialdcilldiaaTotals.lean).
  GIVEN WITH THE SEED: the statements are not yours to turn. If you find one false, say at which input.
  Laid BY PROGRAM, IN A SANDBOX (cutbox-rows.mjs): the forced cells as the released guide's own fill.sh prints them over the translation 211648f31aa71b48… (all of the seat's roots in one cut). By AI agents, Wed Nov 11 2026. No macro, syntax, notation, axiom, sorry.
-/
import Derived.Test.YtfgialdcilldiaaChecked
import GoSem.Claim
import GoSem.ClaimJoined
import GoSem.ClaimMapViews
import Derived.JoinedTies
import Derived.KernelRfl
namespace Go.Proofs.Ytfgialdcilldiaa
/- THE CELL 'sum', in the pinned program and in every row, IS THE sha256 OF THE DUMP (.gsa) THAT YtfgialdcilldiaaProg.lean LOADS. Nothing in Lean hashes anything: it is a label: what it is worth is what the hold of that sum in a sandbox is worth. -/
noncomputable def Try.pinned : Pinned := { name := "ytfgialdcilldiaa", sum := "211648f31aa71b489d88f361c6b06dea1e240a5e4062306c5869482f73ee2c65", checked := Try.checked }
namespace Rows
def none {H : Type} : Left H := { results := [], args := [] }

/-- 'laws.FnExactFracLess': WHATEVER THE INPUT: true; the input reads as it did. -/
def fnExactFracLessSpec : ChangeSpec := { name := "fnExactFracLess", fn := fun _ => fun
  | [d1, d2] => { results := [.lit (.bool true)], args := [d1, d2] }
  | _ => none }
def fnExactFracLessRow : OpenClaim := { program := "ytfgialdcilldiaa", sum := "211648f31aa71b489d88f361c6b06dea1e240a5e4062306c5869482f73ee2c65", func := "loop.example/cavesurvey/laws.FnExactFracLess", spec := "fnExactFracLess", apart := false }
def FnExactFracLessSaid : Prop := fnExactFracLessRow.holds Try.pinned (OpenSpec.ofChange fnExactFracLessSpec)

/-- ITS FALSE NEIGHBOUR: 'it returns false'. Refute it at one input. -/
def fnExactFracLessWrong : ChangeSpec := { name := "fnExactFracLess", fn := fun _ => fun
  | [d1, d2] => { results := [.lit (.bool false)], args := [d1, d2] }
  | _ => none }
def FnExactFracLessWrongFalsely : Prop := fnExactFracLessRow.holds Try.pinned (OpenSpec.ofChange fnExactFracLessWrong)

/-- 'laws.FnExactMineValid': WHATEVER THE INPUT: true; the input reads as it did. -/
def fnExactMineValidSpec : ChangeSpec := { name := "fnExactMineValid", fn := fun _ => fun
  | [d] => { results := [.lit (.bool true)], args := [d] }
  | _ => none }
def fnExactMineValidRow : OpenClaim := { program := "ytfgialdcilldiaa", sum := "211648f31aa71b489d88f361c6b06dea1e240a5e4062306c5869482f73ee2c65", func := "loop.example/cavesurvey/laws.FnExactMineValid", spec := "fnExactMineValid", apart := false }
def FnExactMineValidSaid : Prop := fnExactMineValidRow.holds Try.pinned (OpenSpec.ofChange fnExactMineValidSpec)

/-- ITS FALSE NEIGHBOUR: 'it returns false'. Refute it at one input. -/
def fnExactMineValidWrong : ChangeSpec := { name := "fnExactMineValid", fn := fun _ => fun
  | [d] => { results := [.lit (.bool false)], args := [d] }
  | _ => none }
def FnExactMineValidWrongFalsely : Prop := fnExactMineValidRow.holds Try.pinned (OpenSpec.ofChange fnExactMineValidWrong)

/-- 'laws.FnExactCaveValid': WHATEVER THE INPUT: true; the input reads as it did. -/
def fnExactCaveValidSpec : ChangeSpec := { name := "fnExactCaveValid", fn := fun _ => fun
  | [d] => { results := [.lit (.bool true)], args := [d] }
  | _ => none }
def fnExactCaveValidRow : OpenClaim := { program := "ytfgialdcilldiaa", sum := "211648f31aa71b489d88f361c6b06dea1e240a5e4062306c5869482f73ee2c65", func := "loop.example/cavesurvey/laws.FnExactCaveValid", spec := "fnExactCaveValid", apart := false }
def FnExactCaveValidSaid : Prop := fnExactCaveValidRow.holds Try.pinned (OpenSpec.ofChange fnExactCaveValidSpec)

/-- ITS FALSE NEIGHBOUR: 'it returns false'. Refute it at one input. -/
def fnExactCaveValidWrong : ChangeSpec := { name := "fnExactCaveValid", fn := fun _ => fun
  | [d] => { results := [.lit (.bool false)], args := [d] }
  | _ => none }
def FnExactCaveValidWrongFalsely : Prop := fnExactCaveValidRow.holds Try.pinned (OpenSpec.ofChange fnExactCaveValidWrong)

/-- 'laws.FnExactFlowLoss': WHATEVER THE INPUT: true; the input reads as it did. -/
def fnExactFlowLossSpec : ChangeSpec := { name := "fnExactFlowLoss", fn := fun _ => fun
  | [d1, d2] => { results := [.lit (.bool true)], args := [d1, d2] }
  | _ => none }
def fnExactFlowLossRow : OpenClaim := { program := "ytfgialdcilldiaa", sum := "211648f31aa71b489d88f361c6b06dea1e240a5e4062306c5869482f73ee2c65", func := "loop.example/cavesurvey/laws.FnExactFlowLoss", spec := "fnExactFlowLoss", apart := false }
def FnExactFlowLossSaid : Prop := fnExactFlowLossRow.holds Try.pinned (OpenSpec.ofChange fnExactFlowLossSpec)

/-- ITS FALSE NEIGHBOUR: 'it returns false'. Refute it at one input. -/
def fnExactFlowLossWrong : ChangeSpec := { name := "fnExactFlowLoss", fn := fun _ => fun
  | [d1, d2] => { results := [.lit (.bool false)], args := [d1, d2] }
  | _ => none }
def FnExactFlowLossWrongFalsely : Prop := fnExactFlowLossRow.holds Try.pinned (OpenSpec.ofChange fnExactFlowLossWrong)

/-- 'laws.FnExactWiden': WHATEVER THE INPUT: true; the input reads as it did. -/
def fnExactWidenSpec : ChangeSpec := { name := "fnExactWiden", fn := fun _ => fun
  | [d1, d2] => { results := [.lit (.bool true)], args := [d1, d2] }
  | _ => none }
def fnExactWidenRow : OpenClaim := { program := "ytfgialdcilldiaa", sum := "211648f31aa71b489d88f361c6b06dea1e240a5e4062306c5869482f73ee2c65", func := "loop.example/cavesurvey/laws.FnExactWiden", spec := "fnExactWiden", apart := false }
def FnExactWidenSaid : Prop := fnExactWidenRow.holds Try.pinned (OpenSpec.ofChange fnExactWidenSpec)

/-- ITS FALSE NEIGHBOUR: 'it returns false'. Refute it at one input. -/
def fnExactWidenWrong : ChangeSpec := { name := "fnExactWiden", fn := fun _ => fun
  | [d1, d2] => { results := [.lit (.bool false)], args := [d1, d2] }
  | _ => none }
def FnExactWidenWrongFalsely : Prop := fnExactWidenRow.holds Try.pinned (OpenSpec.ofChange fnExactWidenWrong)

/-- 'laws.FnExactWaterAt': WHATEVER THE INPUT: true; the input reads as it did. -/
def fnExactWaterAtSpec : ChangeSpec := { name := "fnExactWaterAt", fn := fun _ => fun
  | [d1, d2] => { results := [.lit (.bool true)], args := [d1, d2] }
  | _ => none }
def fnExactWaterAtRow : OpenClaim := { program := "ytfgialdcilldiaa", sum := "211648f31aa71b489d88f361c6b06dea1e240a5e4062306c5869482f73ee2c65", func := "loop.example/cavesurvey/laws.FnExactWaterAt", spec := "fnExactWaterAt", apart := false }
def FnExactWaterAtSaid : Prop := fnExactWaterAtRow.holds Try.pinned (OpenSpec.ofChange fnExactWaterAtSpec)

/-- ITS FALSE NEIGHBOUR: 'it returns false'. Refute it at one input. -/
def fnExactWaterAtWrong : ChangeSpec := { name := "fnExactWaterAt", fn := fun _ => fun
  | [d1, d2] => { results := [.lit (.bool false)], args := [d1, d2] }
  | _ => none }
def FnExactWaterAtWrongFalsely : Prop := fnExactWaterAtRow.holds Try.pinned (OpenSpec.ofChange fnExactWaterAtWrong)

/-- 'laws.FnExactFlowOk': WHATEVER THE INPUT: true; the input reads as it did. -/
def fnExactFlowOkSpec : ChangeSpec := { name := "fnExactFlowOk", fn := fun _ => fun
  | [d1, d2, d3, d4, d5] => { results := [.lit (.bool true)], args := [d1, d2, d3, d4, d5] }
  | _ => none }
def fnExactFlowOkRow : OpenClaim := { program := "ytfgialdcilldiaa", sum := "211648f31aa71b489d88f361c6b06dea1e240a5e4062306c5869482f73ee2c65", func := "loop.example/cavesurvey/laws.FnExactFlowOk", spec := "fnExactFlowOk", apart := false }
def FnExactFlowOkSaid : Prop := fnExactFlowOkRow.holds Try.pinned (OpenSpec.ofChange fnExactFlowOkSpec)

/-- ITS FALSE NEIGHBOUR: 'it returns false'. Refute it at one input. -/
def fnExactFlowOkWrong : ChangeSpec := { name := "fnExactFlowOk", fn := fun _ => fun
  | [d1, d2, d3, d4, d5] => { results := [.lit (.bool false)], args := [d1, d2, d3, d4, d5] }
  | _ => none }
def FnExactFlowOkWrongFalsely : Prop := fnExactFlowOkRow.holds Try.pinned (OpenSpec.ofChange fnExactFlowOkWrong)

/-- 'laws.FnExactSillsHigh': WHATEVER THE INPUT: true; the input reads as it did. -/
def fnExactSillsHighSpec : ChangeSpec := { name := "fnExactSillsHigh", fn := fun _ => fun
  | [d1, d2] => { results := [.lit (.bool true)], args := [d1, d2] }
  | _ => none }
def fnExactSillsHighRow : OpenClaim := { program := "ytfgialdcilldiaa", sum := "211648f31aa71b489d88f361c6b06dea1e240a5e4062306c5869482f73ee2c65", func := "loop.example/cavesurvey/laws.FnExactSillsHigh", spec := "fnExactSillsHigh", apart := false }
def FnExactSillsHighSaid : Prop := fnExactSillsHighRow.holds Try.pinned (OpenSpec.ofChange fnExactSillsHighSpec)

/-- ITS FALSE NEIGHBOUR: 'it returns false'. Refute it at one input. -/
def fnExactSillsHighWrong : ChangeSpec := { name := "fnExactSillsHigh", fn := fun _ => fun
  | [d1, d2] => { results := [.lit (.bool false)], args := [d1, d2] }
  | _ => none }
def FnExactSillsHighWrongFalsely : Prop := fnExactSillsHighRow.holds Try.pinned (OpenSpec.ofChange fnExactSillsHighWrong)

/-- 'laws.FnExactAirLinked': WHATEVER THE INPUT: true; the input reads as it did. -/
def fnExactAirLinkedSpec : ChangeSpec := { name := "fnExactAirLinked", fn := fun _ => fun
  | [d] => { results := [.lit (.bool true)], args := [d] }
  | _ => none }
def fnExactAirLinkedRow : OpenClaim := { program := "ytfgialdcilldiaa", sum := "211648f31aa71b489d88f361c6b06dea1e240a5e4062306c5869482f73ee2c65", func := "loop.example/cavesurvey/laws.FnExactAirLinked", spec := "fnExactAirLinked", apart := false }
def FnExactAirLinkedSaid : Prop := fnExactAirLinkedRow.holds Try.pinned (OpenSpec.ofChange fnExactAirLinkedSpec)

/-- ITS FALSE NEIGHBOUR: 'it returns false'. Refute it at one input. -/
def fnExactAirLinkedWrong : ChangeSpec := { name := "fnExactAirLinked", fn := fun _ => fun
  | [d] => { results := [.lit (.bool false)], args := [d] }
  | _ => none }
def FnExactAirLinkedWrongFalsely : Prop := fnExactAirLinkedRow.holds Try.pinned (OpenSpec.ofChange fnExactAirLinkedWrong)

/-- 'laws.FnExactAirMatrix': WHATEVER THE INPUT: true; the input reads as it did. -/
def fnExactAirMatrixSpec : ChangeSpec := { name := "fnExactAirMatrix", fn := fun _ => fun
  | [d] => { results := [.lit (.bool true)], args := [d] }
  | _ => none }
def fnExactAirMatrixRow : OpenClaim := { program := "ytfgialdcilldiaa", sum := "211648f31aa71b489d88f361c6b06dea1e240a5e4062306c5869482f73ee2c65", func := "loop.example/cavesurvey/laws.FnExactAirMatrix", spec := "fnExactAirMatrix", apart := false }
def FnExactAirMatrixSaid : Prop := fnExactAirMatrixRow.holds Try.pinned (OpenSpec.ofChange fnExactAirMatrixSpec)

/-- ITS FALSE NEIGHBOUR: 'it returns false'. Refute it at one input. -/
def fnExactAirMatrixWrong : ChangeSpec := { name := "fnExactAirMatrix", fn := fun _ => fun
  | [d] => { results := [.lit (.bool false)], args := [d] }
  | _ => none }
def FnExactAirMatrixWrongFalsely : Prop := fnExactAirMatrixRow.holds Try.pinned (OpenSpec.ofChange fnExactAirMatrixWrong)

/-- 'laws.FnExactJoinLevel': WHATEVER THE INPUT: true; the input reads as it did. -/
def fnExactJoinLevelSpec : ChangeSpec := { name := "fnExactJoinLevel", fn := fun _ => fun
  | [d1, d2, d3] => { results := [.lit (.bool true)], args := [d1, d2, d3] }
  | _ => none }
def fnExactJoinLevelRow : OpenClaim := { program := "ytfgialdcilldiaa", sum := "211648f31aa71b489d88f361c6b06dea1e240a5e4062306c5869482f73ee2c65", func := "loop.example/cavesurvey/laws.FnExactJoinLevel", spec := "fnExactJoinLevel", apart := false }
def FnExactJoinLevelSaid : Prop := fnExactJoinLevelRow.holds Try.pinned (OpenSpec.ofChange fnExactJoinLevelSpec)

/-- ITS FALSE NEIGHBOUR: 'it returns false'. Refute it at one input. -/
def fnExactJoinLevelWrong : ChangeSpec := { name := "fnExactJoinLevel", fn := fun _ => fun
  | [d1, d2, d3] => { results := [.lit (.bool false)], args := [d1, d2, d3] }
  | _ => none }
def FnExactJoinLevelWrongFalsely : Prop := fnExactJoinLevelRow.holds Try.pinned (OpenSpec.ofChange fnExactJoinLevelWrong)

/-- 'laws.FnExactPoolsAt': WHATEVER THE INPUT: true; the input reads as it did. -/
def fnExactPoolsAtSpec : ChangeSpec := { name := "fnExactPoolsAt", fn := fun _ => fun
  | [d1, d2] => { results := [.lit (.bool true)], args := [d1, d2] }
  | _ => none }
def fnExactPoolsAtRow : OpenClaim := { program := "ytfgialdcilldiaa", sum := "211648f31aa71b489d88f361c6b06dea1e240a5e4062306c5869482f73ee2c65", func := "loop.example/cavesurvey/laws.FnExactPoolsAt", spec := "fnExactPoolsAt", apart := false }
def FnExactPoolsAtSaid : Prop := fnExactPoolsAtRow.holds Try.pinned (OpenSpec.ofChange fnExactPoolsAtSpec)

/-- ITS FALSE NEIGHBOUR: 'it returns false'. Refute it at one input. -/
def fnExactPoolsAtWrong : ChangeSpec := { name := "fnExactPoolsAt", fn := fun _ => fun
  | [d1, d2] => { results := [.lit (.bool false)], args := [d1, d2] }
  | _ => none }
def FnExactPoolsAtWrongFalsely : Prop := fnExactPoolsAtRow.holds Try.pinned (OpenSpec.ofChange fnExactPoolsAtWrong)

/- THE SECOND FORM. 'bulk': how many values and letters a reading holds, each counted each time it is reached (what is shared counts as often as it is met; a slice's spare places count too). A statement '..UptoSaid' is the law's where the arguments, and the package variables that the reading takes, are together of bulk at most 1048576: NARROWER than '..Said'. Prove '..Said' where nothing that the law and all that it calls make is longer than what came in: it says more and counts as full. Else prove '..UptoSaid'. A law counts once. -/
mutual
def uptoBulk {H : Type} : DataW H → Nat
  | .lit (.string bytes) => bytes.length + 1
  | .lit _ => 1
  | .nil => 1
  | .ptr d => uptoBulk d + 1
  | .slice elems spare => uptoBulkAll elems + uptoBulkAll spare + 1
  | .agg parts => uptoBulkAll parts + 1
  | .iface _ d => uptoBulk d + 1
  | .map entries => uptoBulkEntries entries + 1
  | .held _ => 1
def uptoBulkAll {H : Type} : List (DataW H) → Nat
  | [] => 0
  | d :: r => uptoBulk d + uptoBulkAll r
def uptoBulkEntries {H : Type} : List (Lit × DataW H) → Nat
  | [] => 0
  | x :: r => uptoBulkEntry x + uptoBulkEntries r
def uptoBulkEntry {H : Type} : Lit × DataW H → Nat
  | (.string bytes, d) => bytes.length + uptoBulk d + 1
  | (_, d) => uptoBulk d + 1
 end
def uptoSmall : (H : Type) → List (DataW H) → Bool := fun _ ds => decide (uptoBulkAll ds ≤ 1048576)
def OpenSpec.upto (s : _root_.Go.ChangeSpec) : _root_.Go.OpenSpec := { _root_.Go.OpenSpec.ofChange s with cond := some uptoSmall }

/-- 'laws.FnExactFracLess', WHERE WHAT IT READS IS OF BULK AT MOST 1048576: true; the input reads as it did. -/
def fnExactFracLessUptoRow : OpenClaim := { program := "ytfgialdcilldiaa", sum := "211648f31aa71b489d88f361c6b06dea1e240a5e4062306c5869482f73ee2c65", func := "loop.example/cavesurvey/laws.FnExactFracLess", spec := "fnExactFracLess", apart := false, narrowed := true }
def FnExactFracLessUptoSaid : Prop := fnExactFracLessUptoRow.holds Try.pinned (OpenSpec.upto fnExactFracLessSpec)

/-- 'laws.FnExactMineValid', WHERE WHAT IT READS IS OF BULK AT MOST 1048576: true; the input reads as it did. -/
def fnExactMineValidUptoRow : OpenClaim := { program := "ytfgialdcilldiaa", sum := "211648f31aa71b489d88f361c6b06dea1e240a5e4062306c5869482f73ee2c65", func := "loop.example/cavesurvey/laws.FnExactMineValid", spec := "fnExactMineValid", apart := false, narrowed := true }
def FnExactMineValidUptoSaid : Prop := fnExactMineValidUptoRow.holds Try.pinned (OpenSpec.upto fnExactMineValidSpec)

/-- 'laws.FnExactCaveValid', WHERE WHAT IT READS IS OF BULK AT MOST 1048576: true; the input reads as it did. -/
def fnExactCaveValidUptoRow : OpenClaim := { program := "ytfgialdcilldiaa", sum := "211648f31aa71b489d88f361c6b06dea1e240a5e4062306c5869482f73ee2c65", func := "loop.example/cavesurvey/laws.FnExactCaveValid", spec := "fnExactCaveValid", apart := false, narrowed := true }
def FnExactCaveValidUptoSaid : Prop := fnExactCaveValidUptoRow.holds Try.pinned (OpenSpec.upto fnExactCaveValidSpec)

/-- 'laws.FnExactFlowLoss', WHERE WHAT IT READS IS OF BULK AT MOST 1048576: true; the input reads as it did. -/
def fnExactFlowLossUptoRow : OpenClaim := { program := "ytfgialdcilldiaa", sum := "211648f31aa71b489d88f361c6b06dea1e240a5e4062306c5869482f73ee2c65", func := "loop.example/cavesurvey/laws.FnExactFlowLoss", spec := "fnExactFlowLoss", apart := false, narrowed := true }
def FnExactFlowLossUptoSaid : Prop := fnExactFlowLossUptoRow.holds Try.pinned (OpenSpec.upto fnExactFlowLossSpec)

/-- 'laws.FnExactWiden', WHERE WHAT IT READS IS OF BULK AT MOST 1048576: true; the input reads as it did. -/
def fnExactWidenUptoRow : OpenClaim := { program := "ytfgialdcilldiaa", sum := "211648f31aa71b489d88f361c6b06dea1e240a5e4062306c5869482f73ee2c65", func := "loop.example/cavesurvey/laws.FnExactWiden", spec := "fnExactWiden", apart := false, narrowed := true }
def FnExactWidenUptoSaid : Prop := fnExactWidenUptoRow.holds Try.pinned (OpenSpec.upto fnExactWidenSpec)

/-- 'laws.FnExactWaterAt', WHERE WHAT IT READS IS OF BULK AT MOST 1048576: true; the input reads as it did. -/
def fnExactWaterAtUptoRow : OpenClaim := { program := "ytfgialdcilldiaa", sum := "211648f31aa71b489d88f361c6b06dea1e240a5e4062306c5869482f73ee2c65", func := "loop.example/cavesurvey/laws.FnExactWaterAt", spec := "fnExactWaterAt", apart := false, narrowed := true }
def FnExactWaterAtUptoSaid : Prop := fnExactWaterAtUptoRow.holds Try.pinned (OpenSpec.upto fnExactWaterAtSpec)

/-- 'laws.FnExactFlowOk', WHERE WHAT IT READS IS OF BULK AT MOST 1048576: true; the input reads as it did. -/
def fnExactFlowOkUptoRow : OpenClaim := { program := "ytfgialdcilldiaa", sum := "211648f31aa71b489d88f361c6b06dea1e240a5e4062306c5869482f73ee2c65", func := "loop.example/cavesurvey/laws.FnExactFlowOk", spec := "fnExactFlowOk", apart := false, narrowed := true }
def FnExactFlowOkUptoSaid : Prop := fnExactFlowOkUptoRow.holds Try.pinned (OpenSpec.upto fnExactFlowOkSpec)

/-- 'laws.FnExactSillsHigh', WHERE WHAT IT READS IS OF BULK AT MOST 1048576: true; the input reads as it did. -/
def fnExactSillsHighUptoRow : OpenClaim := { program := "ytfgialdcilldiaa", sum := "211648f31aa71b489d88f361c6b06dea1e240a5e4062306c5869482f73ee2c65", func := "loop.example/cavesurvey/laws.FnExactSillsHigh", spec := "fnExactSillsHigh", apart := false, narrowed := true }
def FnExactSillsHighUptoSaid : Prop := fnExactSillsHighUptoRow.holds Try.pinned (OpenSpec.upto fnExactSillsHighSpec)

/-- 'laws.FnExactAirLinked', WHERE WHAT IT READS IS OF BULK AT MOST 1048576: true; the input reads as it did. -/
def fnExactAirLinkedUptoRow : OpenClaim := { program := "ytfgialdcilldiaa", sum := "211648f31aa71b489d88f361c6b06dea1e240a5e4062306c5869482f73ee2c65", func := "loop.example/cavesurvey/laws.FnExactAirLinked", spec := "fnExactAirLinked", apart := false, narrowed := true }
def FnExactAirLinkedUptoSaid : Prop := fnExactAirLinkedUptoRow.holds Try.pinned (OpenSpec.upto fnExactAirLinkedSpec)

/-- 'laws.FnExactAirMatrix', WHERE WHAT IT READS IS OF BULK AT MOST 1048576: true; the input reads as it did. -/
def fnExactAirMatrixUptoRow : OpenClaim := { program := "ytfgialdcilldiaa", sum := "211648f31aa71b489d88f361c6b06dea1e240a5e4062306c5869482f73ee2c65", func := "loop.example/cavesurvey/laws.FnExactAirMatrix", spec := "fnExactAirMatrix", apart := false, narrowed := true }
def FnExactAirMatrixUptoSaid : Prop := fnExactAirMatrixUptoRow.holds Try.pinned (OpenSpec.upto fnExactAirMatrixSpec)

/-- 'laws.FnExactJoinLevel', WHERE WHAT IT READS IS OF BULK AT MOST 1048576: true; the input reads as it did. -/
def fnExactJoinLevelUptoRow : OpenClaim := { program := "ytfgialdcilldiaa", sum := "211648f31aa71b489d88f361c6b06dea1e240a5e4062306c5869482f73ee2c65", func := "loop.example/cavesurvey/laws.FnExactJoinLevel", spec := "fnExactJoinLevel", apart := false, narrowed := true }
def FnExactJoinLevelUptoSaid : Prop := fnExactJoinLevelUptoRow.holds Try.pinned (OpenSpec.upto fnExactJoinLevelSpec)

/-- 'laws.FnExactPoolsAt', WHERE WHAT IT READS IS OF BULK AT MOST 1048576: true; the input reads as it did. -/
def fnExactPoolsAtUptoRow : OpenClaim := { program := "ytfgialdcilldiaa", sum := "211648f31aa71b489d88f361c6b06dea1e240a5e4062306c5869482f73ee2c65", func := "loop.example/cavesurvey/laws.FnExactPoolsAt", spec := "fnExactPoolsAt", apart := false, narrowed := true }
def FnExactPoolsAtUptoSaid : Prop := fnExactPoolsAtUptoRow.holds Try.pinned (OpenSpec.upto fnExactPoolsAtSpec)

end Rows
end Go.Proofs.Ytfgialdcilldiaa
