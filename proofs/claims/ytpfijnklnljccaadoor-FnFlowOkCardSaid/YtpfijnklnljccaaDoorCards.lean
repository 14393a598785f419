/-
  DERIVED. GIVEN WITH THE SEED: THE CARDS: each row of YtpfijnklnljccaaDoorRows.lean that lists a variable, with what it lists TIED to the program's text (the seventh form; the later family's looks); each row that meets fmt, with fmt's text TOLD by the authors' own Lean function (tested against real Go, not proved from fmt's source: count such statements apart). THE CARD IS WHAT COUNTS. Prove the row's statement (the work); the ties are given (YtpfijnklnljccaaDoorTie.lean); close each card by the builder's one call (the guide's Derived/Test/ToyasCard.lean, 'card_holds'). Laid BY PROGRAM, IN A SANDBOX (cutbox-door.mjs). By AI agents, Wed Nov 11 2026. No macro, syntax, notation, axiom, sorry.
-/
import Derived.Test.YtpfijnklnljccaaDoorRows
import GoSem.ClaimSeven
namespace Go.Proofs.YtpfijnklnljccaaDoor
namespace Rows

/-- THE TIED CARD OF 'laws.FnFracLess'. -/
def fnFracLessCard : Claim7 := { stood := { row := fnFracLessRow, standIns := [], harness := (true, "35c86cb90ac7cd25a73ea1dc72b0f20eb4b8faced262b3b66a14ff81d28aea6e"), looks := false }, kinds := [], alts := [], laidByText := true, laidKinds := [.data, .data, .data], laidTests := true, laidLooks := .later }
def FnFracLessCardSaid : Prop := Claim7.holds Tryd.pinned (.plain (OpenSpec.ofChange fnFracLessSpec)) fnFracLessCard

/-- THE TIED CARD OF 'laws.FnMineValid'. -/
def fnMineValidCard : Claim7 := { stood := { row := fnMineValidRow, standIns := [], harness := (true, "35c86cb90ac7cd25a73ea1dc72b0f20eb4b8faced262b3b66a14ff81d28aea6e"), looks := false }, kinds := [], alts := [], laidByText := true, laidKinds := [.data, .data, .data], laidTests := true, laidLooks := .later }
def FnMineValidCardSaid : Prop := Claim7.holds Tryd.pinned (.plain (OpenSpec.ofChange fnMineValidSpec)) fnMineValidCard

/-- THE TIED CARD OF 'laws.FnWiden'. -/
def fnWidenCard : Claim7 := { stood := { row := fnWidenRow, standIns := [], harness := (true, "35c86cb90ac7cd25a73ea1dc72b0f20eb4b8faced262b3b66a14ff81d28aea6e"), looks := false }, kinds := [], alts := [], laidByText := true, laidKinds := [.data, .data, .data], laidTests := true, laidLooks := .later }
def FnWidenCardSaid : Prop := Claim7.holds Tryd.pinned (.plain (OpenSpec.ofChange fnWidenSpec)) fnWidenCard

/-- THE TIED CARD OF 'laws.FnAirMatrix'. -/
def fnAirMatrixCard : Claim7 := { stood := { row := fnAirMatrixRow, standIns := [], harness := (true, "35c86cb90ac7cd25a73ea1dc72b0f20eb4b8faced262b3b66a14ff81d28aea6e"), looks := false }, kinds := [], alts := [], laidByText := true, laidKinds := [.data, .data, .data], laidTests := true, laidLooks := .later }
def FnAirMatrixCardSaid : Prop := Claim7.holds Tryd.pinned (.plain (OpenSpec.ofChange fnAirMatrixSpec)) fnAirMatrixCard

/-- THE TIED CARD OF 'laws.FnFlowLoss'. -/
def fnFlowLossCard : Claim7 := { stood := { row := fnFlowLossRow, standIns := [], harness := (true, "35c86cb90ac7cd25a73ea1dc72b0f20eb4b8faced262b3b66a14ff81d28aea6e"), looks := false }, kinds := [], alts := [], laidByText := true, laidKinds := [.data, .data, .data], laidTests := true, laidLooks := .later }
def FnFlowLossCardSaid : Prop := Claim7.holds Tryd.pinned (.plain (OpenSpec.ofChange fnFlowLossSpec)) fnFlowLossCard

/-- THE TIED CARD OF 'laws.FnAirLinked'. -/
def fnAirLinkedCard : Claim7 := { stood := { row := fnAirLinkedRow, standIns := [], harness := (true, "35c86cb90ac7cd25a73ea1dc72b0f20eb4b8faced262b3b66a14ff81d28aea6e"), looks := false }, kinds := [], alts := [], laidByText := true, laidKinds := [.data, .data, .data], laidTests := true, laidLooks := .later }
def FnAirLinkedCardSaid : Prop := Claim7.holds Tryd.pinned (.plain (OpenSpec.ofChange fnAirLinkedSpec)) fnAirLinkedCard

/-- THE TIED CARD OF 'laws.FnAirTrees'. -/
def fnAirTreesCard : Claim7 := { stood := { row := fnAirTreesRow, standIns := [], harness := (true, "35c86cb90ac7cd25a73ea1dc72b0f20eb4b8faced262b3b66a14ff81d28aea6e"), looks := false }, kinds := [], alts := [], laidByText := true, laidKinds := [.data, .data, .data], laidTests := true, laidLooks := .later }
def FnAirTreesCardSaid : Prop := Claim7.holds Tryd.pinned (.plain (OpenSpec.ofChange fnAirTreesSpec)) fnAirTreesCard

/-- THE TIED CARD OF 'laws.FnAirTreesWith'. -/
def fnAirTreesWithCard : Claim7 := { stood := { row := fnAirTreesWithRow, standIns := [], harness := (true, "35c86cb90ac7cd25a73ea1dc72b0f20eb4b8faced262b3b66a14ff81d28aea6e"), looks := false }, kinds := [], alts := [], laidByText := true, laidKinds := [.data, .data, .data], laidTests := true, laidLooks := .later }
def FnAirTreesWithCardSaid : Prop := Claim7.holds Tryd.pinned (.plain (OpenSpec.ofChange fnAirTreesWithSpec)) fnAirTreesWithCard

/-- THE TIED CARD OF 'laws.FnPressures'. -/
def fnPressuresCard : Claim7 := { stood := { row := fnPressuresRow, standIns := [], harness := (true, "35c86cb90ac7cd25a73ea1dc72b0f20eb4b8faced262b3b66a14ff81d28aea6e"), looks := false }, kinds := [], alts := [], laidByText := true, laidKinds := [.data, .data, .data], laidTests := true, laidLooks := .later }
def FnPressuresCardSaid : Prop := Claim7.holds Tryd.pinned (.plain (OpenSpec.ofChange fnPressuresSpec)) fnPressuresCard

/-- THE TIED CARD OF 'laws.FnFlowOk'. -/
def fnFlowOkCard : Claim7 := { stood := { row := fnFlowOkRow, standIns := [], harness := (true, "35c86cb90ac7cd25a73ea1dc72b0f20eb4b8faced262b3b66a14ff81d28aea6e"), looks := false }, kinds := [], alts := [], laidByText := true, laidKinds := [.data, .data, .data], laidTests := true, laidLooks := .later }
def FnFlowOkCardSaid : Prop := Claim7.holds Tryd.pinned (.plain (OpenSpec.ofChange fnFlowOkSpec)) fnFlowOkCard

/-- THE TIED CARD OF 'laws.FnAirResist'. -/
def fnAirResistCard : Claim7 := { stood := { row := fnAirResistRow, standIns := [], harness := (true, "35c86cb90ac7cd25a73ea1dc72b0f20eb4b8faced262b3b66a14ff81d28aea6e"), looks := false }, kinds := [], alts := [], laidByText := true, laidKinds := [.data, .data, .data], laidTests := true, laidLooks := .later }
def FnAirResistCardSaid : Prop := Claim7.holds Tryd.pinned (.plain (OpenSpec.ofChange fnAirResistSpec)) fnAirResistCard

/-- THE TIED CARD OF 'laws.FnAirFlow'. -/
def fnAirFlowCard : Claim7 := { stood := { row := fnAirFlowRow, standIns := [], harness := (true, "35c86cb90ac7cd25a73ea1dc72b0f20eb4b8faced262b3b66a14ff81d28aea6e"), looks := false }, kinds := [], alts := [], laidByText := true, laidKinds := [.data, .data, .data], laidTests := true, laidLooks := .later }
def FnAirFlowCardSaid : Prop := Claim7.holds Tryd.pinned (.plain (OpenSpec.ofChange fnAirFlowSpec)) fnAirFlowCard

/-- THE SECOND FORM's CARD OF 'laws.FnFracLess'. -/
def fnFracLessUptoCard : Claim7 := { stood := { row := fnFracLessUptoRow, standIns := [], harness := (true, "35c86cb90ac7cd25a73ea1dc72b0f20eb4b8faced262b3b66a14ff81d28aea6e"), looks := false }, kinds := [], alts := [], laidByText := true, laidKinds := [.data, .data, .data], laidTests := true, laidLooks := .later }
def FnFracLessUptoCardSaid : Prop := Claim7.holds Tryd.pinned (.plain (OpenSpec.upto fnFracLessSpec)) fnFracLessUptoCard

/-- THE SECOND FORM's CARD OF 'laws.FnMineValid'. -/
def fnMineValidUptoCard : Claim7 := { stood := { row := fnMineValidUptoRow, standIns := [], harness := (true, "35c86cb90ac7cd25a73ea1dc72b0f20eb4b8faced262b3b66a14ff81d28aea6e"), looks := false }, kinds := [], alts := [], laidByText := true, laidKinds := [.data, .data, .data], laidTests := true, laidLooks := .later }
def FnMineValidUptoCardSaid : Prop := Claim7.holds Tryd.pinned (.plain (OpenSpec.upto fnMineValidSpec)) fnMineValidUptoCard

/-- THE SECOND FORM's CARD OF 'laws.FnWiden'. -/
def fnWidenUptoCard : Claim7 := { stood := { row := fnWidenUptoRow, standIns := [], harness := (true, "35c86cb90ac7cd25a73ea1dc72b0f20eb4b8faced262b3b66a14ff81d28aea6e"), looks := false }, kinds := [], alts := [], laidByText := true, laidKinds := [.data, .data, .data], laidTests := true, laidLooks := .later }
def FnWidenUptoCardSaid : Prop := Claim7.holds Tryd.pinned (.plain (OpenSpec.upto fnWidenSpec)) fnWidenUptoCard

/-- THE SECOND FORM's CARD OF 'laws.FnAirMatrix'. -/
def fnAirMatrixUptoCard : Claim7 := { stood := { row := fnAirMatrixUptoRow, standIns := [], harness := (true, "35c86cb90ac7cd25a73ea1dc72b0f20eb4b8faced262b3b66a14ff81d28aea6e"), looks := false }, kinds := [], alts := [], laidByText := true, laidKinds := [.data, .data, .data], laidTests := true, laidLooks := .later }
def FnAirMatrixUptoCardSaid : Prop := Claim7.holds Tryd.pinned (.plain (OpenSpec.upto fnAirMatrixSpec)) fnAirMatrixUptoCard

/-- THE SECOND FORM's CARD OF 'laws.FnFlowLoss'. -/
def fnFlowLossUptoCard : Claim7 := { stood := { row := fnFlowLossUptoRow, standIns := [], harness := (true, "35c86cb90ac7cd25a73ea1dc72b0f20eb4b8faced262b3b66a14ff81d28aea6e"), looks := false }, kinds := [], alts := [], laidByText := true, laidKinds := [.data, .data, .data], laidTests := true, laidLooks := .later }
def FnFlowLossUptoCardSaid : Prop := Claim7.holds Tryd.pinned (.plain (OpenSpec.upto fnFlowLossSpec)) fnFlowLossUptoCard

/-- THE SECOND FORM's CARD OF 'laws.FnAirLinked'. -/
def fnAirLinkedUptoCard : Claim7 := { stood := { row := fnAirLinkedUptoRow, standIns := [], harness := (true, "35c86cb90ac7cd25a73ea1dc72b0f20eb4b8faced262b3b66a14ff81d28aea6e"), looks := false }, kinds := [], alts := [], laidByText := true, laidKinds := [.data, .data, .data], laidTests := true, laidLooks := .later }
def FnAirLinkedUptoCardSaid : Prop := Claim7.holds Tryd.pinned (.plain (OpenSpec.upto fnAirLinkedSpec)) fnAirLinkedUptoCard

/-- THE SECOND FORM's CARD OF 'laws.FnAirTrees'. -/
def fnAirTreesUptoCard : Claim7 := { stood := { row := fnAirTreesUptoRow, standIns := [], harness := (true, "35c86cb90ac7cd25a73ea1dc72b0f20eb4b8faced262b3b66a14ff81d28aea6e"), looks := false }, kinds := [], alts := [], laidByText := true, laidKinds := [.data, .data, .data], laidTests := true, laidLooks := .later }
def FnAirTreesUptoCardSaid : Prop := Claim7.holds Tryd.pinned (.plain (OpenSpec.upto fnAirTreesSpec)) fnAirTreesUptoCard

/-- THE SECOND FORM's CARD OF 'laws.FnAirTreesWith'. -/
def fnAirTreesWithUptoCard : Claim7 := { stood := { row := fnAirTreesWithUptoRow, standIns := [], harness := (true, "35c86cb90ac7cd25a73ea1dc72b0f20eb4b8faced262b3b66a14ff81d28aea6e"), looks := false }, kinds := [], alts := [], laidByText := true, laidKinds := [.data, .data, .data], laidTests := true, laidLooks := .later }
def FnAirTreesWithUptoCardSaid : Prop := Claim7.holds Tryd.pinned (.plain (OpenSpec.upto fnAirTreesWithSpec)) fnAirTreesWithUptoCard

/-- THE SECOND FORM's CARD OF 'laws.FnPressures'. -/
def fnPressuresUptoCard : Claim7 := { stood := { row := fnPressuresUptoRow, standIns := [], harness := (true, "35c86cb90ac7cd25a73ea1dc72b0f20eb4b8faced262b3b66a14ff81d28aea6e"), looks := false }, kinds := [], alts := [], laidByText := true, laidKinds := [.data, .data, .data], laidTests := true, laidLooks := .later }
def FnPressuresUptoCardSaid : Prop := Claim7.holds Tryd.pinned (.plain (OpenSpec.upto fnPressuresSpec)) fnPressuresUptoCard

/-- THE SECOND FORM's CARD OF 'laws.FnFlowOk'. -/
def fnFlowOkUptoCard : Claim7 := { stood := { row := fnFlowOkUptoRow, standIns := [], harness := (true, "35c86cb90ac7cd25a73ea1dc72b0f20eb4b8faced262b3b66a14ff81d28aea6e"), looks := false }, kinds := [], alts := [], laidByText := true, laidKinds := [.data, .data, .data], laidTests := true, laidLooks := .later }
def FnFlowOkUptoCardSaid : Prop := Claim7.holds Tryd.pinned (.plain (OpenSpec.upto fnFlowOkSpec)) fnFlowOkUptoCard

/-- THE SECOND FORM's CARD OF 'laws.FnAirResist'. -/
def fnAirResistUptoCard : Claim7 := { stood := { row := fnAirResistUptoRow, standIns := [], harness := (true, "35c86cb90ac7cd25a73ea1dc72b0f20eb4b8faced262b3b66a14ff81d28aea6e"), looks := false }, kinds := [], alts := [], laidByText := true, laidKinds := [.data, .data, .data], laidTests := true, laidLooks := .later }
def FnAirResistUptoCardSaid : Prop := Claim7.holds Tryd.pinned (.plain (OpenSpec.upto fnAirResistSpec)) fnAirResistUptoCard

/-- THE SECOND FORM's CARD OF 'laws.FnAirFlow'. -/
def fnAirFlowUptoCard : Claim7 := { stood := { row := fnAirFlowUptoRow, standIns := [], harness := (true, "35c86cb90ac7cd25a73ea1dc72b0f20eb4b8faced262b3b66a14ff81d28aea6e"), looks := false }, kinds := [], alts := [], laidByText := true, laidKinds := [.data, .data, .data], laidTests := true, laidLooks := .later }
def FnAirFlowUptoCardSaid : Prop := Claim7.holds Tryd.pinned (.plain (OpenSpec.upto fnAirFlowSpec)) fnAirFlowUptoCard
end Rows
end Go.Proofs.YtpfijnklnljccaaDoor
