/-
  DERIVED. GIVEN WITH THE SEED: THE CARDS: each row of YtnibfmofkamjoaaDoorRows.lean that lists a variable, with what it lists TIED to the program's text (the seventh form; the later family's looks); each row that meets fmt, with fmt's text TOLD by the authors' own Lean function (tested against real Go, not proved from fmt's source: count such statements apart). THE CARD IS WHAT COUNTS. Prove the row's statement (the work); the ties are given (YtnibfmofkamjoaaDoorTie.lean); close each card by the builder's one call (the guide's Derived/Test/ToyasCard.lean, 'card_holds'). Laid BY PROGRAM, IN A SANDBOX (cutbox-door.mjs). By AI agents, Wed Nov 11 2026. No macro, syntax, notation, axiom, sorry.
-/
import Derived.Test.YtnibfmofkamjoaaDoorRows
import GoSem.ClaimSeven
namespace Go.Proofs.YtnibfmofkamjoaaDoor
namespace Rows

/-- THE TIED CARD OF 'laws.FnTreeFix'. -/
def fnTreeFixCard : Claim7 := { stood := { row := fnTreeFixRow, standIns := [], harness := (true, "3d7b2226c9adfa3eb3aacb4c3736b29733972c63cd3de8aa32eb74efb05ea309"), looks := false }, kinds := [], alts := [], laidByText := true, laidKinds := [.data, .data, .data], laidTests := true, laidLooks := .later }
def FnTreeFixCardSaid : Prop := Claim7.holds Tryd.pinned (.plain (OpenSpec.ofChange fnTreeFixSpec)) fnTreeFixCard

/-- THE TIED CARD OF 'laws.FnTreesFix'. -/
def fnTreesFixCard : Claim7 := { stood := { row := fnTreesFixRow, standIns := [], harness := (true, "3d7b2226c9adfa3eb3aacb4c3736b29733972c63cd3de8aa32eb74efb05ea309"), looks := false }, kinds := [], alts := [], laidByText := true, laidKinds := [.data, .data, .data], laidTests := true, laidLooks := .later }
def FnTreesFixCardSaid : Prop := Claim7.holds Tryd.pinned (.plain (OpenSpec.ofChange fnTreesFixSpec)) fnTreesFixCard

/-- THE TIED CARD OF 'laws.FnAdjust'. -/
def fnAdjustCard : Claim7 := { stood := { row := fnAdjustRow, standIns := [], harness := (true, "3d7b2226c9adfa3eb3aacb4c3736b29733972c63cd3de8aa32eb74efb05ea309"), looks := false }, kinds := [], alts := [], laidByText := true, laidKinds := [.data, .data, .data], laidTests := true, laidLooks := .later }
def FnAdjustCardSaid : Prop := Claim7.holds Tryd.pinned (.plain (OpenSpec.ofChange fnAdjustSpec)) fnAdjustCard

/-- THE TIED CARD OF 'laws.FnLinks'. -/
def fnLinksCard : Claim7 := { stood := { row := fnLinksRow, standIns := [], harness := (true, "3d7b2226c9adfa3eb3aacb4c3736b29733972c63cd3de8aa32eb74efb05ea309"), looks := false }, kinds := [], alts := [], laidByText := true, laidKinds := [.data, .data, .data], laidTests := true, laidLooks := .later }
def FnLinksCardSaid : Prop := Claim7.holds Tryd.pinned (.plain (OpenSpec.ofChange fnLinksSpec)) fnLinksCard

/-- THE TIED CARD OF 'laws.FnTreesWith'. -/
def fnTreesWithCard : Claim7 := { stood := { row := fnTreesWithRow, standIns := [], harness := (true, "3d7b2226c9adfa3eb3aacb4c3736b29733972c63cd3de8aa32eb74efb05ea309"), looks := false }, kinds := [], alts := [], laidByText := true, laidKinds := [.data, .data, .data], laidTests := true, laidLooks := .later }
def FnTreesWithCardSaid : Prop := Claim7.holds Tryd.pinned (.plain (OpenSpec.ofChange fnTreesWithSpec)) fnTreesWithCard

/-- THE TIED CARD OF 'laws.FnFixValid'. -/
def fnFixValidCard : Claim7 := { stood := { row := fnFixValidRow, standIns := [], harness := (true, "3d7b2226c9adfa3eb3aacb4c3736b29733972c63cd3de8aa32eb74efb05ea309"), looks := false }, kinds := [], alts := [], laidByText := true, laidKinds := [.data, .data, .data], laidTests := true, laidLooks := .later }
def FnFixValidCardSaid : Prop := Claim7.holds Tryd.pinned (.plain (OpenSpec.ofChange fnFixValidSpec)) fnFixValidCard

/-- THE TIED CARD OF 'laws.FnTreesAll'. -/
def fnTreesAllCard : Claim7 := { stood := { row := fnTreesAllRow, standIns := [], harness := (true, "3d7b2226c9adfa3eb3aacb4c3736b29733972c63cd3de8aa32eb74efb05ea309"), looks := false }, kinds := [], alts := [], laidByText := true, laidKinds := [.data, .data, .data], laidTests := true, laidLooks := .later }
def FnTreesAllCardSaid : Prop := Claim7.holds Tryd.pinned (.plain (OpenSpec.ofChange fnTreesAllSpec)) fnTreesAllCard

/-- THE TIED CARD OF 'laws.FnTreesMany'. -/
def fnTreesManyCard : Claim7 := { stood := { row := fnTreesManyRow, standIns := [], harness := (true, "3d7b2226c9adfa3eb3aacb4c3736b29733972c63cd3de8aa32eb74efb05ea309"), looks := false }, kinds := [], alts := [], laidByText := true, laidKinds := [.data, .data, .data], laidTests := true, laidLooks := .later }
def FnTreesManyCardSaid : Prop := Claim7.holds Tryd.pinned (.plain (OpenSpec.ofChange fnTreesManySpec)) fnTreesManyCard

/-- THE TIED CARD OF 'laws.FnFixMiss'. -/
def fnFixMissCard : Claim7 := { stood := { row := fnFixMissRow, standIns := [], harness := (true, "3d7b2226c9adfa3eb3aacb4c3736b29733972c63cd3de8aa32eb74efb05ea309"), looks := false }, kinds := [], alts := [], laidByText := true, laidKinds := [.data, .data, .data], laidTests := true, laidLooks := .later }
def FnFixMissCardSaid : Prop := Claim7.holds Tryd.pinned (.plain (OpenSpec.ofChange fnFixMissSpec)) fnFixMissCard

/-- THE TIED CARD OF 'laws.FnFixSum'. -/
def fnFixSumCard : Claim7 := { stood := { row := fnFixSumRow, standIns := [], harness := (true, "3d7b2226c9adfa3eb3aacb4c3736b29733972c63cd3de8aa32eb74efb05ea309"), looks := false }, kinds := [], alts := [], laidByText := true, laidKinds := [.data, .data, .data], laidTests := true, laidLooks := .later }
def FnFixSumCardSaid : Prop := Claim7.holds Tryd.pinned (.plain (OpenSpec.ofChange fnFixSumSpec)) fnFixSumCard

/-- THE TIED CARD OF 'laws.FnSolve'. -/
def fnSolveCard : Claim7 := { stood := { row := fnSolveRow, standIns := [], harness := (true, "3d7b2226c9adfa3eb3aacb4c3736b29733972c63cd3de8aa32eb74efb05ea309"), looks := false }, kinds := [], alts := [], laidByText := true, laidKinds := [.data, .data, .data], laidTests := true, laidLooks := .later }
def FnSolveCardSaid : Prop := Claim7.holds Tryd.pinned (.plain (OpenSpec.ofChange fnSolveSpec)) fnSolveCard

/-- THE TIED CARD OF 'laws.FnDet'. -/
def fnDetCard : Claim7 := { stood := { row := fnDetRow, standIns := [], harness := (true, "3d7b2226c9adfa3eb3aacb4c3736b29733972c63cd3de8aa32eb74efb05ea309"), looks := false }, kinds := [], alts := [], laidByText := true, laidKinds := [.data, .data, .data], laidTests := true, laidLooks := .later }
def FnDetCardSaid : Prop := Claim7.holds Tryd.pinned (.plain (OpenSpec.ofChange fnDetSpec)) fnDetCard

/-- THE SECOND FORM's CARD OF 'laws.FnTreeFix'. -/
def fnTreeFixUptoCard : Claim7 := { stood := { row := fnTreeFixUptoRow, standIns := [], harness := (true, "3d7b2226c9adfa3eb3aacb4c3736b29733972c63cd3de8aa32eb74efb05ea309"), looks := false }, kinds := [], alts := [], laidByText := true, laidKinds := [.data, .data, .data], laidTests := true, laidLooks := .later }
def FnTreeFixUptoCardSaid : Prop := Claim7.holds Tryd.pinned (.plain (OpenSpec.upto fnTreeFixSpec)) fnTreeFixUptoCard

/-- THE SECOND FORM's CARD OF 'laws.FnTreesFix'. -/
def fnTreesFixUptoCard : Claim7 := { stood := { row := fnTreesFixUptoRow, standIns := [], harness := (true, "3d7b2226c9adfa3eb3aacb4c3736b29733972c63cd3de8aa32eb74efb05ea309"), looks := false }, kinds := [], alts := [], laidByText := true, laidKinds := [.data, .data, .data], laidTests := true, laidLooks := .later }
def FnTreesFixUptoCardSaid : Prop := Claim7.holds Tryd.pinned (.plain (OpenSpec.upto fnTreesFixSpec)) fnTreesFixUptoCard

/-- THE SECOND FORM's CARD OF 'laws.FnAdjust'. -/
def fnAdjustUptoCard : Claim7 := { stood := { row := fnAdjustUptoRow, standIns := [], harness := (true, "3d7b2226c9adfa3eb3aacb4c3736b29733972c63cd3de8aa32eb74efb05ea309"), looks := false }, kinds := [], alts := [], laidByText := true, laidKinds := [.data, .data, .data], laidTests := true, laidLooks := .later }
def FnAdjustUptoCardSaid : Prop := Claim7.holds Tryd.pinned (.plain (OpenSpec.upto fnAdjustSpec)) fnAdjustUptoCard

/-- THE SECOND FORM's CARD OF 'laws.FnLinks'. -/
def fnLinksUptoCard : Claim7 := { stood := { row := fnLinksUptoRow, standIns := [], harness := (true, "3d7b2226c9adfa3eb3aacb4c3736b29733972c63cd3de8aa32eb74efb05ea309"), looks := false }, kinds := [], alts := [], laidByText := true, laidKinds := [.data, .data, .data], laidTests := true, laidLooks := .later }
def FnLinksUptoCardSaid : Prop := Claim7.holds Tryd.pinned (.plain (OpenSpec.upto fnLinksSpec)) fnLinksUptoCard

/-- THE SECOND FORM's CARD OF 'laws.FnTreesWith'. -/
def fnTreesWithUptoCard : Claim7 := { stood := { row := fnTreesWithUptoRow, standIns := [], harness := (true, "3d7b2226c9adfa3eb3aacb4c3736b29733972c63cd3de8aa32eb74efb05ea309"), looks := false }, kinds := [], alts := [], laidByText := true, laidKinds := [.data, .data, .data], laidTests := true, laidLooks := .later }
def FnTreesWithUptoCardSaid : Prop := Claim7.holds Tryd.pinned (.plain (OpenSpec.upto fnTreesWithSpec)) fnTreesWithUptoCard

/-- THE SECOND FORM's CARD OF 'laws.FnFixValid'. -/
def fnFixValidUptoCard : Claim7 := { stood := { row := fnFixValidUptoRow, standIns := [], harness := (true, "3d7b2226c9adfa3eb3aacb4c3736b29733972c63cd3de8aa32eb74efb05ea309"), looks := false }, kinds := [], alts := [], laidByText := true, laidKinds := [.data, .data, .data], laidTests := true, laidLooks := .later }
def FnFixValidUptoCardSaid : Prop := Claim7.holds Tryd.pinned (.plain (OpenSpec.upto fnFixValidSpec)) fnFixValidUptoCard

/-- THE SECOND FORM's CARD OF 'laws.FnTreesAll'. -/
def fnTreesAllUptoCard : Claim7 := { stood := { row := fnTreesAllUptoRow, standIns := [], harness := (true, "3d7b2226c9adfa3eb3aacb4c3736b29733972c63cd3de8aa32eb74efb05ea309"), looks := false }, kinds := [], alts := [], laidByText := true, laidKinds := [.data, .data, .data], laidTests := true, laidLooks := .later }
def FnTreesAllUptoCardSaid : Prop := Claim7.holds Tryd.pinned (.plain (OpenSpec.upto fnTreesAllSpec)) fnTreesAllUptoCard

/-- THE SECOND FORM's CARD OF 'laws.FnTreesMany'. -/
def fnTreesManyUptoCard : Claim7 := { stood := { row := fnTreesManyUptoRow, standIns := [], harness := (true, "3d7b2226c9adfa3eb3aacb4c3736b29733972c63cd3de8aa32eb74efb05ea309"), looks := false }, kinds := [], alts := [], laidByText := true, laidKinds := [.data, .data, .data], laidTests := true, laidLooks := .later }
def FnTreesManyUptoCardSaid : Prop := Claim7.holds Tryd.pinned (.plain (OpenSpec.upto fnTreesManySpec)) fnTreesManyUptoCard

/-- THE SECOND FORM's CARD OF 'laws.FnFixMiss'. -/
def fnFixMissUptoCard : Claim7 := { stood := { row := fnFixMissUptoRow, standIns := [], harness := (true, "3d7b2226c9adfa3eb3aacb4c3736b29733972c63cd3de8aa32eb74efb05ea309"), looks := false }, kinds := [], alts := [], laidByText := true, laidKinds := [.data, .data, .data], laidTests := true, laidLooks := .later }
def FnFixMissUptoCardSaid : Prop := Claim7.holds Tryd.pinned (.plain (OpenSpec.upto fnFixMissSpec)) fnFixMissUptoCard

/-- THE SECOND FORM's CARD OF 'laws.FnFixSum'. -/
def fnFixSumUptoCard : Claim7 := { stood := { row := fnFixSumUptoRow, standIns := [], harness := (true, "3d7b2226c9adfa3eb3aacb4c3736b29733972c63cd3de8aa32eb74efb05ea309"), looks := false }, kinds := [], alts := [], laidByText := true, laidKinds := [.data, .data, .data], laidTests := true, laidLooks := .later }
def FnFixSumUptoCardSaid : Prop := Claim7.holds Tryd.pinned (.plain (OpenSpec.upto fnFixSumSpec)) fnFixSumUptoCard

/-- THE SECOND FORM's CARD OF 'laws.FnSolve'. -/
def fnSolveUptoCard : Claim7 := { stood := { row := fnSolveUptoRow, standIns := [], harness := (true, "3d7b2226c9adfa3eb3aacb4c3736b29733972c63cd3de8aa32eb74efb05ea309"), looks := false }, kinds := [], alts := [], laidByText := true, laidKinds := [.data, .data, .data], laidTests := true, laidLooks := .later }
def FnSolveUptoCardSaid : Prop := Claim7.holds Tryd.pinned (.plain (OpenSpec.upto fnSolveSpec)) fnSolveUptoCard

/-- THE SECOND FORM's CARD OF 'laws.FnDet'. -/
def fnDetUptoCard : Claim7 := { stood := { row := fnDetUptoRow, standIns := [], harness := (true, "3d7b2226c9adfa3eb3aacb4c3736b29733972c63cd3de8aa32eb74efb05ea309"), looks := false }, kinds := [], alts := [], laidByText := true, laidKinds := [.data, .data, .data], laidTests := true, laidLooks := .later }
def FnDetUptoCardSaid : Prop := Claim7.holds Tryd.pinned (.plain (OpenSpec.upto fnDetSpec)) fnDetUptoCard
end Rows
end Go.Proofs.YtnibfmofkamjoaaDoor
