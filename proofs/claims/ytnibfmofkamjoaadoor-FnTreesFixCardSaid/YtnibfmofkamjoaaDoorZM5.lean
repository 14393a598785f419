/- The law of the mean of all trees, as a plain program; no condition. -/
import Derived.Test.YtnibfmofkamjoaaDoorZLt
import Derived.Test.YtnibfmofkamjoaaDoorZLs
import Derived.Test.YtnibfmofkamjoaaDoorZQ
namespace Go.Proofs.YtnibfmofkamjoaaDoor
open Go
set_option linter.unusedVariables false
set_option linter.unusedSimpArgs false

theorem t_drawTreesFix {code : List UInt8} : Tot (p_spec_DrawTreesFix code) fun r => r.legs.length ≤ 10 ∧ 0 ≤ r.st ∧ r.st ≤ 7 := by
  unfold p_spec_DrawTreesFix
  obtain ⟨b, hb, hl⟩ := x_bopen (code := code)
  rw [hb]; simp only [Option.bind_some]
  refine Tot.bind (t_linked hl (by omega) (by omega)) fun ⟨s, q⟩ h => Tot.ret ?_
  simp only at h ⊢
  exact h.2.2
theorem l_FnTreesFix {code : List UInt8} : p_laws_FnTreesFix code = some true := by
  refine Tot.get ?_
  unfold p_laws_FnTreesFix
  refine Tot.condd (fun _ => Tot.ret rfl) (fun _ => ?_)
  refine Tot.bind t_drawTreesFix fun s ⟨hm, hp0, hp7⟩ => ?_
  rw [show (⟨s.st, s.legs⟩ : Survey) = s from rfl, l_implTreesFix (by omega), l_specTreesFix (by omega), l_implAdjust (by omega)]
  simp only [Option.bind_some]
  have hsm := adj_small (s := s) hp7
  rw [l_sameFixSelf (by simp only; omega)]
  simp only [Option.bind_some, beq_self_eq_true, Bool.not_true, cond_false, cond_true]
  rw [l_alive]
  exact Tot.ret rfl
end Go.Proofs.YtnibfmofkamjoaaDoor
