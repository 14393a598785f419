/- The law of the number of trees, as a plain program; no condition. -/
import Derived.Test.YtnibfmofkamjoaaDoorL2
import Derived.Test.YtnibfmofkamjoaaDoorL3
import Derived.Test.YtnibfmofkamjoaaDoorQ4TreesMany
namespace Go.Proofs.YtnibfmofkamjoaaDoor
open Go
set_option linter.unusedVariables false
set_option linter.unusedSimpArgs false

theorem t_drawTreesMany {code : List UInt8} : Tot (p_spec_DrawTreesMany code) fun r => r.legs.length ≤ 10 ∧ 0 ≤ r.st ∧ r.st ≤ 7 := by
  unfold p_spec_DrawTreesMany
  obtain ⟨b, hb, hl⟩ := x_bopen (code := code)
  rw [hb]; simp only [Option.bind_some]
  refine Tot.bind (t_linked hl (by omega) (by omega)) fun ⟨m, q⟩ h => Tot.ret ?_
  exact h.2.2
theorem l_FnTreesMany {code : List UInt8} : p_laws_FnTreesMany code = some true := by
  refine Tot.get ?_
  unfold p_laws_FnTreesMany
  refine Tot.condd (fun _ => Tot.ret rfl) (fun _ => ?_)
  refine Tot.bind t_drawTreesMany fun s ⟨hm, hp0, hp6⟩ => ?_
  rw [show (⟨s.st, s.legs⟩ : Survey) = s from rfl, l_implTreesMany (by omega), l_specTreesMany (by omega), l_implTreesAll (by omega), l_implPartsMany (by omega)]
  simp only [Option.bind_some, bne_self_eq_false, cond_false]
  cases hv : surveyOk s with
  | false =>
    have : tm s = -1 := by unfold tm; rw [hv]; rfl
    rw [this, l_alive]; exact Tot.ret rfl
  | true =>
    have ok := surveyOk_iff.1 hv
    have t0 := tm_nonneg ok
    rw [decide_eq_false (by omega)]
    simp only [cond_false]
    rw [tm_len ok]
    simp only [beq_self_eq_true, cond_true]
    refine Tot.ret ?_
    rw [beq_iff_eq, pm_one ok, ← tm_len ok]
    have h : decide (0 < tm s) = one (mS s) (sP s) := by
      rw [Bool.eq_iff_iff, decide_eq_true_eq]
      show 0 < tm s ↔ one (mS s) (fj pid (lE s)) = true
      rw [conn_iff, ← D_pos (sv_in ok) (lE_w)]
      unfold tm; rw [if_pos hv]
    exact h
end Go.Proofs.YtnibfmofkamjoaaDoor
