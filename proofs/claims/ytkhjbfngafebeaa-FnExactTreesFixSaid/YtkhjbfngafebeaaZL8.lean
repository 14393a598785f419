/- What fixes miss, squared and added: the adjusted survey misses least; no condition but the sizes. -/
import Derived.Test.YtkhjbfngafebeaaZL3
import Derived.Test.YtkhjbfngafebeaaZQ
namespace Go.Proofs.Ytkhjbfngafebeaa
open Go
set_option linter.unusedVariables false
set_option linter.unusedSimpArgs false

theorem Ec_w {s : Survey} {c : Leg → Int} : ∀ e ∈ Ec s c, e.w = 1 := fun e he => by
  obtain ⟨g, _, rfl⟩ := List.mem_map.1 he
  rfl
theorem adj_one {s : Survey} (h : adjOk s = true) : SurveyOk s ∧ one (mS s) (sP s) = true := by
  unfold adjOk at h
  rw [Bool.and_eq_true] at h
  have ok := surveyOk_iff.1 h.1
  exact ⟨ok, by rw [← h.2, pm_one ok]; rfl⟩
theorem adj_eq {s : Survey} (h : adjOk s = true) : adj s = (⟨tm s, wsA s⟩, true) := by unfold adj; rw [if_pos h]
theorem pA_qs {s : Survey} {c : Leg → Int} (h : adjOk s = true) : ∀ v, v ≤ mS s → pA s c v = qs (mS s) (Ec s c) v := fun v hv => by
  obtain ⟨ok, h1⟩ := adj_one h
  have := (D_pos (sv_in ok) lE_w).2 (conn_iff.1 h1)
  exact so_qs (Ec_in ok) (by rw [Ec_D]; omega) v hv
end Go.Proofs.Ytkhjbfngafebeaa
