/- All trees of a survey: both programs list the same; no condition but the sizes. -/
import Derived.Test.YtnibfmofkamjoaaDoorZLk
import Derived.Test.YtnibfmofkamjoaaDoorZQ
namespace Go.Proofs.YtnibfmofkamjoaaDoor
open Go
set_option linter.unusedVariables false
set_option linter.unusedSimpArgs false

def lE (s : Survey) : List Ed := s.legs.map (eL c0)
theorem lE_len {s : Survey} : (lE s).length = s.legs.length := by simp [lE]
def mS (s : Survey) : Nat := s.st.toNat - 1
theorem sv_in {s : Survey} (ok : SurveyOk s) : Inm (mS s) (lE s) := fun e he => by
  obtain ⟨k, hk, rfl⟩ := mem_gx he
  rw [lE_len] at hk
  have a := ok.lg k hk
  have := a.f0; have := a.f1; have := a.t0; have := a.t1; have := ok.p1
  unfold lE; rw [gx_of_map hk]; unfold eL mS; simp only; omega
end Go.Proofs.YtnibfmofkamjoaaDoor
