/- The law of valid fixes, as a plain program; no condition. -/
import Derived.Test.YtnibfmofkamjoaaDoorZL3
import Derived.Test.YtnibfmofkamjoaaDoorZQ
namespace Go.Proofs.YtnibfmofkamjoaaDoor
open Go
set_option linter.unusedVariables false
set_option linter.unusedSimpArgs false

theorem t_drawFixValid {code : List UInt8} : Tot (p_spec_DrawFixValid code) fun r => r.1.legs.length ≤ 10 ∧ 0 ≤ r.1.st ∧ r.1.st ≤ 7 ∧ r.2.nums.length ≤ 10 := by
  unfold p_spec_DrawFixValid
  obtain ⟨b, hb, hl⟩ := x_bopen (code := code)
  rw [hb]; simp only [Option.bind_some]
  refine Tot.bind (t_fix hl (by omega)) fun ⟨s, f, q⟩ h => Tot.ret ?_
  simp only at h ⊢
  exact h.2.2
theorem l_FnFixValid {code : List UInt8} : p_laws_FnFixValid code = some true := by
  refine Tot.get ?_
  unfold p_laws_FnFixValid
  refine Tot.condd (fun _ => Tot.ret rfl) (fun _ => ?_)
  refine Tot.bind t_drawFixValid fun ⟨s, f⟩ ⟨hm, hp0, hp7, hn⟩ => ?_
  simp only at hm hp0 hp7 hn ⊢
  rw [show (⟨s.st, s.legs⟩ : Survey) = s from rfl, show (⟨f.den, f.nums⟩ : Fix) = f from rfl, l_implFixValid (by omega), l_specFixValid (by omega)]
  simp only [Option.bind_some, beq_self_eq_true, Bool.not_true, cond_false]
  cases hv : fixOk s f with
  | false => simp only [Bool.not_false, cond_true]; rw [l_alive]; exact Tot.ret rfl
  | true =>
    have hv2 := hv
    unfold fixOk at hv2
    simp only [Bool.and_eq_true, decide_eq_true_eq] at hv2
    obtain ⟨h1, h2, h3, h4, h5, h6⟩ := hv2
    have ok := surveyOk_iff.1 h1
    have p1 := ok.p1; have p6 := ok.p6
    simp only [Bool.not_true, cond_false]
    refine Tot.need (by simp; omega) ?_
    rw [List.nil_append]
    refine Tot.idx (by omega) fun j ej hj => ?_
    obtain rfl : j = 0 := by omega
    rw [l_implFixValid (by omega)]
    have e : fixOk s ⟨f.den, f.nums.set 0 ⟨0, 0, 1⟩⟩ = false := by
      unfold fixOk
      simp only
      rw [gx_set_self hj]
      have : z1 ⟨0, 0, 1⟩ = false := by decide
      rw [this, Bool.false_and, Bool.and_false, Bool.and_false, Bool.and_false, Bool.and_false]
    rw [e]
    simp only [Option.bind_some, Bool.not_false, cond_true]
    refine Tot.sized (by omega) fun i ei => ?_
    rw [l_implFixValid (by omega)]
    have e2 : fixOk s ⟨f.den, List.replicate i ⟨0, 0, 0⟩⟩ = true := by
      unfold fixOk
      simp only [List.length_replicate]
      have hz : ∀ k, k < i → gx (List.replicate i (⟨0, 0, 0⟩ : Way)) k = ⟨0, 0, 0⟩ := fun k hk => gx_rep hk
      rw [h1, decide_eq_true h2, decide_eq_true h3, decide_eq_true ei.symm, hz 0 (by omega)]
      have : z1 ⟨0, 0, 0⟩ = true := by decide
      rw [this]
      simp only [Bool.true_and, List.all_eq_true, List.mem_range]
      intro k hk
      rw [hz k hk]; decide
    rw [e2]
    exact Tot.ret rfl
end Go.Proofs.YtnibfmofkamjoaaDoor
