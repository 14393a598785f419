/- Append of a part of a slice. -/
import Derived.Test.YtnibfmofkamjoaaDoorZDa
namespace Go.Proofs.YtnibfmofkamjoaaDoor
open Go
set_option linter.unusedVariables false
set_option linter.unusedSimpArgs false
/-- A row alone: the rest of the matrix is forgotten. -/
theorem kwp_rowout {E : Env} {co : Code} {Q : Exit → KPred} {sl : Slots} {ch rest : List Chunk} {R : List Row} {m : List (List Int)} {i : Nat} (hm : nums R = m) (hi : i < m.length)
    (h : KWp E co Q sl (⟨.slice (gx R i).a (gx m i).length (gx R i).c, 1, (gx m i).map encI⟩ :: rest))
    (hp : PickSeg ch (rowsC R) rest := by repeat (first | exact PickSeg.here | exact PickSeg.all | apply PickSeg.there | apply PickSeg.seg)) : KWp E co Q sl ch := by
  intro a w hin
  subst hm
  have hi' : i < R.length := by rwa [nums_len] at hi
  rw [nums_gx hi'] at h
  have S : Sub (rowC (gx R i) :: rest) ch := ⟨rowsC (R.eraseIdx i), hp.perm.trans (((rows_pick hi').append_right rest).trans ((List.perm_append_comm).cons _))⟩
  exact h a w ⟨hin.kn, hin.st.sub S, hin.ext.sub S⟩
end Go.Proofs.YtnibfmofkamjoaaDoor
