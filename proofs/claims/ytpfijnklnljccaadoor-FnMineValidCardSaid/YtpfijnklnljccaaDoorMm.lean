/- The law of valid mines, as a plain program; no condition. -/
import Derived.Test.YtpfijnklnljccaaDoorLm
import Derived.Test.YtpfijnklnljccaaDoorLc
import Derived.Test.YtpfijnklnljccaaDoorQ3MineValid
namespace Go.Proofs.YtpfijnklnljccaaDoor
open Go
set_option linter.unusedVariables false
set_option linter.unusedSimpArgs false

theorem l_FnMineValid {code : List UInt8} : p_laws_FnMineValid code = some true := by
  refine Tot.get ?_
  unfold p_laws_FnMineValid
  refine Tot.condd (fun _ => Tot.ret rfl) (fun _ => ?_)
  refine Tot.bind (R := fun m => m.aw.length ≤ 15) ?_ fun m hm => ?_
  · unfold p_spec_DrawMineValid
    obtain ⟨b, hb, hl⟩ := l_bopen (code := code)
    rw [hb]; simp only [Option.bind_some]
    refine Tot.bind (t_mine hl (by omega) (by omega)) fun ⟨m, q⟩ h => Tot.ret ?_
    exact h.2.2.1
  have em : (⟨m.p, m.aw⟩ : Mine) = m := rfl
  rw [em, l_implMineValid (by omega), l_specMineValid (by omega)]
  simp only [Option.bind_some, beq_self_eq_true, Bool.not_true, cond_false]
  have bad : p_impl_MineValid ⟨m.p, ([] ++ m.aw) ++ [⟨0, 0, 1⟩]⟩ = some false := by
    rw [l_implMineValid (by simp; omega)]
    congr 1
    cases h : mineOk ⟨m.p, ([] ++ m.aw) ++ [⟨0, 0, 1⟩]⟩ with
    | false => rfl
    | true =>
      have h1 := (mineOk_iff.1 h).aw m.aw.length (by simp)
      have h2 := h1.ne
      simp only [List.nil_append, gx_app2] at h2
      exact absurd rfl h2
  have tail : ∀ (Q : Bool → Prop), Q true → Tot (need (([] : List Airway).length + m.aw.length ≤ 1073741824) <| need ((([] : List Airway) ++ m.aw).length + ([(⟨0, 0, 1⟩ : Airway)] : List Airway).length ≤ 1073741824) <| (p_impl_MineValid (⟨m.p, (([] : List Airway) ++ m.aw) ++ ([(⟨0, 0, 1⟩ : Airway)] : List Airway)⟩ : Mine)).bind fun v24 => cond (!v24) ((p_laws_alive).bind fun v28 => some v28) (some false)) Q := by
    intro Q hQ
    refine Tot.need (by simp; omega) (Tot.need (by simp; omega) ?_)
    rw [bad, l_alive]
    exact Tot.ret hQ
  refine Tot.cond (fun _ => tail _ rfl) (fun hv => ?_)
  have ok : MineOk m := mineOk_iff.1 (by simpa using hv)
  have n7 := ok.n7
  refine Tot.cond (fun _ => tail _ rfl) (fun h0 => ?_)
  have h0' : m.aw.length ≠ 0 := by simpa using h0
  refine Tot.cut (by omega) fun a c ha hc _ _ => ?_
  obtain rfl : a = 1 := by omega
  obtain rfl : c = m.aw.length := by omega
  have good : p_impl_MineValid ⟨m.p, (m.aw.drop 1).take (m.aw.length - 1)⟩ = some true := by
    rw [l_implMineValid (by simp; omega)]
    congr 1
    rw [mineOk_iff]
    refine ⟨ok.p1, ok.p5, by simp; omega, fun k hk => ?_⟩
    simp only [List.length_take, List.length_drop] at hk
    simp only
    rw [gx_take (by omega), gx_drop]
    exact ok.aw _ (by omega)
  rw [good]
  exact tail _ rfl
end Go.Proofs.YtpfijnklnljccaaDoor
