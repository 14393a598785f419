/- Lists held against each other, as the laws do; no condition but the sizes. -/
import Derived.Test.YtnibfmofkamjoaaDoorZLa
import Derived.Test.YtnibfmofkamjoaaDoorZQ
namespace Go.Proofs.YtnibfmofkamjoaaDoor
open Go
set_option linter.unusedVariables false
set_option linter.unusedSimpArgs false

theorem l_sameFixSelf {f : Fix} (h : f.nums.length ≤ 4611686018427387904) : p_laws_sameFix f f = some true := by
  unfold p_laws_sameFix
  rw [loop_all (fun _ => true) f.nums.length false (fun k hk => by
    simp only [p_laws_sameFix_L0]
    rw [decide_eq_true (by omega), idx_at hk, idx_at hk, w64_succ (by omega)]
    simp) (by simp only [p_laws_sameFix_L0]; rw [decide_eq_false (by omega)]; rfl)]
  have e : (List.range f.nums.length).all (fun _ => true) = true := by simp
  rw [e]
  simp
end Go.Proofs.YtnibfmofkamjoaaDoor
