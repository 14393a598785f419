/- The law of linked mines, as a plain program; no condition. -/
import Derived.Test.YtpfijnklnljccaaDoorLm
import Derived.Test.YtpfijnklnljccaaDoorLl
import Derived.Test.YtpfijnklnljccaaDoorQ3AirLinked
namespace Go.Proofs.YtpfijnklnljccaaDoor
open Go
set_option linter.unusedVariables false
set_option linter.unusedSimpArgs false

theorem t_drawAirLinked {code : List UInt8} : Tot (p_spec_DrawAirLinked code) fun m => m.aw.length ≤ 15 ∧ 0 ≤ m.p ∧ m.p ≤ 6 := by
  unfold p_spec_DrawAirLinked
  obtain ⟨b, hb, hl⟩ := l_bopen (code := code)
  rw [hb]; simp only [Option.bind_some]
  refine Tot.bind (t_mine hl (by omega) (by omega)) fun ⟨m, q⟩ h => Tot.ret ?_
  exact h.2.2
theorem l_FnAirLinked {code : List UInt8} : p_laws_FnAirLinked code = some true := by
  refine Tot.get ?_
  unfold p_laws_FnAirLinked
  refine Tot.condd (fun _ => Tot.ret rfl) (fun _ => ?_)
  refine Tot.bind t_drawAirLinked fun m ⟨hm, hp0, hp6⟩ => ?_
  rw [show (⟨m.p, m.aw⟩ : Mine) = m from rfl, l_implAirLinked (by omega), l_specAirLinked (by omega), l_implAirTrees (by omega), l_implAirLinked (by simp)]
  simp only [Option.bind_some, beq_self_eq_true, Bool.not_true, cond_false]
  have e1 : lnk m = decide (0 < tr m) := by
    cases h : lnk m with
    | true => rw [decide_eq_true (tr_pos.2 h)]
    | false => rw [decide_eq_false (fun hh => by rw [tr_pos.1 hh] at h; cases h)]
  have e2 : lnk ⟨m.p, []⟩ = (m.p == 1) := by
    have hfj : fj pid (eM ⟨m.p, []⟩) = pid := rfl
    unfold lnk
    rw [hfj]
    by_cases h : m.p = 1
    · have a : mineOk ⟨m.p, []⟩ = true := by rw [mineOk_iff]; exact ⟨by show 1 ≤ m.p; omega, by show m.p ≤ 5; omega, by simp, fun k hk => by simp at hk⟩
      have b : one (mm ⟨m.p, []⟩) pid = true := by rw [one_iff]; intro v hv; unfold mm at hv; simp only at hv; unfold pid; omega
      rw [a, b, h]; rfl
    · rw [show (m.p == 1) = false by simpa using h]
      cases ha : mineOk ⟨m.p, []⟩ with
      | false => rfl
      | true =>
        have ok := mineOk_iff.1 ha
        have p1 := ok.p1
        simp only at p1
        cases hb : one (mm ⟨m.p, []⟩) pid with
        | false => rfl
        | true =>
          rw [one_iff] at hb
          have := hb 1 (by unfold mm; simp only; omega)
          unfold pid at this; omega
  rw [← e1, e2, l_alive]
  simp only [Option.bind_some, beq_self_eq_true, cond_true]
  exact Tot.ret rfl
end Go.Proofs.YtpfijnklnljccaaDoor
