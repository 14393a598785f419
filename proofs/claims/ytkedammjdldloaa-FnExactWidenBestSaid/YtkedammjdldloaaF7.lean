/- The exact law FnExactWidenBest, as a plain program; no condition but the sizes. -/
import Derived.Test.YtkedammjdldloaaEa
import Derived.Test.YtkedammjdldloaaLb
import Derived.Test.YtkedammjdldloaaQ2WidenBest
namespace Go.Proofs.Ytkedammjdldloaa
open Go
set_option linter.unusedVariables false
set_option linter.unusedSimpArgs false

theorem l_FnExactWidenBest {a : Mine} {i o : Int} (h : a.aw.length ≤ 9223372036854775807) (hp : a.p ≤ 9223372036854775807) : p_laws_FnExactWidenBest a i o = some true := by
  unfold p_laws_FnExactWidenBest
  have hmm : (⟨a.p, a.aw⟩ : Mine) = a := rfl
  obtain ⟨x, hx, hs⟩ := l_szMine h
  rw [hmm, hx]
  simp only [Option.bind_some]
  rcases hs with hs | hs
  · rw [decide_eq_true hs]; rfl
  by_cases hx0 : x < 0
  · rw [decide_eq_true hx0]; rfl
  rw [decide_eq_false hx0]
  replace h : a.aw.length ≤ 4611686018427387904 := by omega
  simp only [cond_false, l_toMine hs, Option.bind_some, l_specWidenBest h hp, hmm, l_implWidenBest h, l_eqMine h, bne_self_eq_false, beq_self_eq_true, decide_true, Bool.not_true]
end Go.Proofs.Ytkedammjdldloaa
