/-
  DERIVED. GIVEN WITH THE SEED: THE CARDS: each row of YtkedammjdldloaaDoorRows.lean that lists a variable, with what it lists TIED to the program's text (the seventh form; the later family's looks); each row that meets fmt, with fmt's text TOLD by the authors' own Lean function (tested against real Go, not proved from fmt's source: count such statements apart). THE CARD IS WHAT COUNTS. Prove the row's statement (the work); the ties are given (YtkedammjdldloaaDoorTie.lean); close each card by the builder's one call (the guide's Derived/Test/ToyasCard.lean, 'card_holds'). Laid BY PROGRAM, IN A SANDBOX (cutbox-door.mjs). By AI agents, Wed Nov 11 2026. No macro, syntax, notation, axiom, sorry.
-/
import Derived.Test.YtkedammjdldloaaDoorRows
import GoSem.ClaimSeven
namespace Go.Proofs.YtkedammjdldloaaDoor
namespace Rows

/-- THE TIED CARD OF 'laws.FnMatrixTurn'. -/
def fnMatrixTurnCard : Claim7 := { stood := { row := fnMatrixTurnRow, standIns := [], harness := (true, "10be6ffb60e00e32880d6c049d60f95d5c6aedafb4e705f50516ccea795f26be"), looks := false }, kinds := [], alts := [], laidByText := true, laidKinds := [.data, .data, .data], laidTests := true, laidLooks := .later }
def FnMatrixTurnCardSaid : Prop := Claim7.holds Tryd.pinned (.plain (OpenSpec.ofChange fnMatrixTurnSpec)) fnMatrixTurnCard

/-- THE TIED CARD OF 'laws.FnWidenBest'. -/
def fnWidenBestCard : Claim7 := { stood := { row := fnWidenBestRow, standIns := [], harness := (true, "10be6ffb60e00e32880d6c049d60f95d5c6aedafb4e705f50516ccea795f26be"), looks := false }, kinds := [], alts := [], laidByText := true, laidKinds := [.data, .data, .data], laidTests := true, laidLooks := .later }
def FnWidenBestCardSaid : Prop := Claim7.holds Tryd.pinned (.plain (OpenSpec.ofChange fnWidenBestSpec)) fnWidenBestCard

/-- THE SECOND FORM's CARD OF 'laws.FnMatrixTurn'. -/
def fnMatrixTurnUptoCard : Claim7 := { stood := { row := fnMatrixTurnUptoRow, standIns := [], harness := (true, "10be6ffb60e00e32880d6c049d60f95d5c6aedafb4e705f50516ccea795f26be"), looks := false }, kinds := [], alts := [], laidByText := true, laidKinds := [.data, .data, .data], laidTests := true, laidLooks := .later }
def FnMatrixTurnUptoCardSaid : Prop := Claim7.holds Tryd.pinned (.plain (OpenSpec.upto fnMatrixTurnSpec)) fnMatrixTurnUptoCard

/-- THE SECOND FORM's CARD OF 'laws.FnWidenBest'. -/
def fnWidenBestUptoCard : Claim7 := { stood := { row := fnWidenBestUptoRow, standIns := [], harness := (true, "10be6ffb60e00e32880d6c049d60f95d5c6aedafb4e705f50516ccea795f26be"), looks := false }, kinds := [], alts := [], laidByText := true, laidKinds := [.data, .data, .data], laidTests := true, laidLooks := .later }
def FnWidenBestUptoCardSaid : Prop := Claim7.holds Tryd.pinned (.plain (OpenSpec.upto fnWidenBestSpec)) fnWidenBestUptoCard
end Rows
end Go.Proofs.YtkedammjdldloaaDoor
