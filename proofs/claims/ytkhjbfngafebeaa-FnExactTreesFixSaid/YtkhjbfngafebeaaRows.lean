/-
  No cell of these rows narrows 'for every input' (looked for: loops, veiled, ifaces, maps, wideKeys, modest, calm, conditions, laid).
  DERIVED. THE GIVEN ROWS OF THIS SEAT. 3 by the template 'for every input the law returns true; each argument reads behind the call as it read before'; 0 by the template 'total and deterministic' (their statements: YtkhjbfngafebeaaTotals.lean).
  GIVEN WITH THE SEED: the statements are not yours to turn. If you find one false, say at which input.
  Laid BY PROGRAM, IN A SANDBOX (cutbox-rows.mjs): the forced cells as the released guide's own fill.sh prints them over the translation a128dc604d180fd2… (all of the seat's roots in one cut). By AI agents, Wed Nov 11 2026. No macro, syntax, notation, axiom, sorry.
-/
import Derived.Test.YtkhjbfngafebeaaChecked
import GoSem.Claim
import GoSem.ClaimJoined
import GoSem.ClaimMapViews
import Derived.JoinedTies
import Derived.KernelRfl
namespace Go.Proofs.Ytkhjbfngafebeaa
/- THE CELL 'sum', in the pinned program and in every row, IS THE sha256 OF THE DUMP (.gsa) THAT YtkhjbfngafebeaaProg.lean LOADS. Nothing in Lean hashes anything: it is a label: what it is worth is what the hold of that sum in a sandbox is worth. -/
noncomputable def Try.pinned : Pinned := { name := "ytkhjbfngafebeaa", sum := "a128dc604d180fd29f1ca82cd17ef1ba3b5aed8fe0086db724815df95e7b5dca", checked := Try.checked }
namespace Rows
def none {H : Type} : Left H := { results := [], args := [] }

/-- 'laws.FnExactAdjust': WHATEVER THE INPUT: true; the input reads as it did. -/
def fnExactAdjustSpec : ChangeSpec := { name := "fnExactAdjust", fn := fun _ => fun
  | [d] => { results := [.lit (.bool true)], args := [d] }
  | _ => none }
def fnExactAdjustRow : OpenClaim := { program := "ytkhjbfngafebeaa", sum := "a128dc604d180fd29f1ca82cd17ef1ba3b5aed8fe0086db724815df95e7b5dca", func := "loop.example/cavesurvey/laws.FnExactAdjust", spec := "fnExactAdjust", recurses := true, apart := false }
def FnExactAdjustSaid : Prop := fnExactAdjustRow.holds Try.pinned (OpenSpec.ofChange fnExactAdjustSpec)

/-- ITS FALSE NEIGHBOUR: 'it returns false'. Refute it at one input. -/
def fnExactAdjustWrong : ChangeSpec := { name := "fnExactAdjust", fn := fun _ => fun
  | [d] => { results := [.lit (.bool false)], args := [d] }
  | _ => none }
def FnExactAdjustWrongFalsely : Prop := fnExactAdjustRow.holds Try.pinned (OpenSpec.ofChange fnExactAdjustWrong)

/-- 'laws.FnExactTreeFix': WHATEVER THE INPUT: true; the input reads as it did. -/
def fnExactTreeFixSpec : ChangeSpec := { name := "fnExactTreeFix", fn := fun _ => fun
  | [d1, d2] => { results := [.lit (.bool true)], args := [d1, d2] }
  | _ => none }
def fnExactTreeFixRow : OpenClaim := { program := "ytkhjbfngafebeaa", sum := "a128dc604d180fd29f1ca82cd17ef1ba3b5aed8fe0086db724815df95e7b5dca", func := "loop.example/cavesurvey/laws.FnExactTreeFix", spec := "fnExactTreeFix", recurses := true, apart := false }
def FnExactTreeFixSaid : Prop := fnExactTreeFixRow.holds Try.pinned (OpenSpec.ofChange fnExactTreeFixSpec)

/-- ITS FALSE NEIGHBOUR: 'it returns false'. Refute it at one input. -/
def fnExactTreeFixWrong : ChangeSpec := { name := "fnExactTreeFix", fn := fun _ => fun
  | [d1, d2] => { results := [.lit (.bool false)], args := [d1, d2] }
  | _ => none }
def FnExactTreeFixWrongFalsely : Prop := fnExactTreeFixRow.holds Try.pinned (OpenSpec.ofChange fnExactTreeFixWrong)

/-- 'laws.FnExactTreesFix': WHATEVER THE INPUT: true; the input reads as it did. -/
def fnExactTreesFixSpec : ChangeSpec := { name := "fnExactTreesFix", fn := fun _ => fun
  | [d] => { results := [.lit (.bool true)], args := [d] }
  | _ => none }
def fnExactTreesFixRow : OpenClaim := { program := "ytkhjbfngafebeaa", sum := "a128dc604d180fd29f1ca82cd17ef1ba3b5aed8fe0086db724815df95e7b5dca", func := "loop.example/cavesurvey/laws.FnExactTreesFix", spec := "fnExactTreesFix", recurses := true, apart := false }
def FnExactTreesFixSaid : Prop := fnExactTreesFixRow.holds Try.pinned (OpenSpec.ofChange fnExactTreesFixSpec)

/-- ITS FALSE NEIGHBOUR: 'it returns false'. Refute it at one input. -/
def fnExactTreesFixWrong : ChangeSpec := { name := "fnExactTreesFix", fn := fun _ => fun
  | [d] => { results := [.lit (.bool false)], args := [d] }
  | _ => none }
def FnExactTreesFixWrongFalsely : Prop := fnExactTreesFixRow.holds Try.pinned (OpenSpec.ofChange fnExactTreesFixWrong)

/- THE SECOND FORM. 'bulk': how many values and letters a reading holds, each counted each time it is reached (what is shared counts as often as it is met; a slice's spare places count too). A statement '..UptoSaid' is the law's where the arguments, and the package variables that the reading takes, are together of bulk at most 1048576: NARROWER than '..Said'. Prove '..Said' where nothing that the law and all that it calls make is longer than what came in: it says more and counts as full. Else prove '..UptoSaid'. A law counts once. -/
mutual
def uptoBulk {H : Type} : DataW H → Nat
  | .lit (.string bytes) => bytes.length + 1
  | .lit _ => 1
  | .nil => 1
  | .ptr d => uptoBulk d + 1
  | .slice elems spare => uptoBulkAll elems + uptoBulkAll spare + 1
  | .agg parts => uptoBulkAll parts + 1
  | .iface _ d => uptoBulk d + 1
  | .map entries => uptoBulkEntries entries + 1
  | .held _ => 1
def uptoBulkAll {H : Type} : List (DataW H) → Nat
  | [] => 0
  | d :: r => uptoBulk d + uptoBulkAll r
def uptoBulkEntries {H : Type} : List (Lit × DataW H) → Nat
  | [] => 0
  | x :: r => uptoBulkEntry x + uptoBulkEntries r
def uptoBulkEntry {H : Type} : Lit × DataW H → Nat
  | (.string bytes, d) => bytes.length + uptoBulk d + 1
  | (_, d) => uptoBulk d + 1
 end
def uptoSmall : (H : Type) → List (DataW H) → Bool := fun _ ds => decide (uptoBulkAll ds ≤ 1048576)
def OpenSpec.upto (s : _root_.Go.ChangeSpec) : _root_.Go.OpenSpec := { _root_.Go.OpenSpec.ofChange s with cond := some uptoSmall }

/-- 'laws.FnExactAdjust', WHERE WHAT IT READS IS OF BULK AT MOST 1048576: true; the input reads as it did. -/
def fnExactAdjustUptoRow : OpenClaim := { program := "ytkhjbfngafebeaa", sum := "a128dc604d180fd29f1ca82cd17ef1ba3b5aed8fe0086db724815df95e7b5dca", func := "loop.example/cavesurvey/laws.FnExactAdjust", spec := "fnExactAdjust", recurses := true, apart := false, narrowed := true }
def FnExactAdjustUptoSaid : Prop := fnExactAdjustUptoRow.holds Try.pinned (OpenSpec.upto fnExactAdjustSpec)

/-- 'laws.FnExactTreeFix', WHERE WHAT IT READS IS OF BULK AT MOST 1048576: true; the input reads as it did. -/
def fnExactTreeFixUptoRow : OpenClaim := { program := "ytkhjbfngafebeaa", sum := "a128dc604d180fd29f1ca82cd17ef1ba3b5aed8fe0086db724815df95e7b5dca", func := "loop.example/cavesurvey/laws.FnExactTreeFix", spec := "fnExactTreeFix", recurses := true, apart := false, narrowed := true }
def FnExactTreeFixUptoSaid : Prop := fnExactTreeFixUptoRow.holds Try.pinned (OpenSpec.upto fnExactTreeFixSpec)

/-- 'laws.FnExactTreesFix', WHERE WHAT IT READS IS OF BULK AT MOST 1048576: true; the input reads as it did. -/
def fnExactTreesFixUptoRow : OpenClaim := { program := "ytkhjbfngafebeaa", sum := "a128dc604d180fd29f1ca82cd17ef1ba3b5aed8fe0086db724815df95e7b5dca", func := "loop.example/cavesurvey/laws.FnExactTreesFix", spec := "fnExactTreesFix", recurses := true, apart := false, narrowed := true }
def FnExactTreesFixUptoSaid : Prop := fnExactTreesFixUptoRow.holds Try.pinned (OpenSpec.upto fnExactTreesFixSpec)

end Rows
end Go.Proofs.Ytkhjbfngafebeaa
