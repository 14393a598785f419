/- All trees of a survey: both programs list the same; no condition but the sizes. -/
import Derived.Test.YtpfijnklnljccaaDoorZLk
import Derived.Test.YtpfijnklnljccaaDoorZQ
namespace Go.Proofs.YtpfijnklnljccaaDoor
open Go
set_option linter.unusedVariables false
set_option linter.unusedSimpArgs false

theorem l_l1Has {l : List Int} {x : Int} (h : l.length ≤ 4611686018427387904) : p_spec_l1Has l x = some (decide (x ∈ l)) := by
  unfold p_spec_l1Has
  rw [loop_all (B := p_spec_l1Has_L0 l x) (fun k => !decide (gx l k = x)) l.length true (fun k hk => by
    simp only [p_spec_l1Has_L0]
    rw [decide_eq_true (by omega), idx_at hk, w64_succ (by omega), beq_dec]
    cases decide (gx l k = x) <;> rfl) (by simp only [p_spec_l1Has_L0]; rw [decide_eq_false (by omega)]; rfl)]
  by_cases hx : x ∈ l
  · have : ((List.range l.length).all fun k => !decide (gx l k = x)) = false := by
      rw [List.all_eq_false]
      obtain ⟨k, hk, e⟩ := mem_gx hx
      exact ⟨k, by simpa using hk, by simp [e]⟩
    rw [this, decide_eq_true hx]; rfl
  · have : ((List.range l.length).all fun k => !decide (gx l k = x)) = true := by
      rw [List.all_eq_true]
      intro k hk
      rw [List.mem_range] at hk
      have : gx l k ≠ x := fun e => hx (by rw [← e]; exact gx_mem hk)
      simpa using this
    rw [this, decide_eq_false hx]; rfl
end Go.Proofs.YtpfijnklnljccaaDoor
