/- The exact law FnExactTreesFix, as a plain program; no condition but the sizes. -/
import Derived.Test.YtkhjbfngafebeaaZEl
import Derived.Test.YtkhjbfngafebeaaZEw
import Derived.Test.YtkhjbfngafebeaaZLt
import Derived.Test.YtkhjbfngafebeaaZQ
namespace Go.Proofs.Ytkhjbfngafebeaa
open Go
set_option linter.unusedVariables false
set_option linter.unusedSimpArgs false

theorem small_G1 {s : Survey} : (adj s).1.nums.length ≤ 10 := by
  unfold adj
  split
  · rename_i h
    have p6 := (adj_one h).1.p6
    show (wsA s).length ≤ 10
    rw [wsA_len]; unfold mS; omega
  · simp
theorem l_FnExactTreesFix {a : Survey} (h : a.legs.length ≤ 9223372036854775807) : p_laws_FnExactTreesFix a = some true := by
  unfold p_laws_FnExactTreesFix
  have hmm : (⟨a.st, a.legs⟩ : Survey) = a := rfl
  obtain ⟨x, hx, hs⟩ := l_szSurvey h
  rw [hmm, hx]
  simp only [Option.bind_some]
  rcases hs with hs | hs
  · rw [decide_eq_true hs]; rfl
  by_cases hx0 : x < 0
  · rw [decide_eq_true hx0]; rfl
  rw [decide_eq_false hx0]
  replace h : a.legs.length ≤ 4611686018427387904 := by omega
  have hM := small_G1 (s := a)
  simp only [cond_false, l_toSurvey hs, Option.bind_some, l_specTreesFix h, hmm, l_implTreesFix h, l_eqFix (a := (adj a).1) (b := (adj a).1) (by omega), decide_true, Bool.not_true, beq_self_eq_true,
    l_eqSurvey h, l_markSurvey hs (k0 := 1) (by decide) (by decide)]
  rw [decide_eq_false (by omega)]
  simp only [cond_false, Option.bind_some, l_markFix (a := (adj a).1) (k0 := 1) (by omega) (by decide) (by decide), l_heldFix (n := (adj a).1.nums.length) (k0 := 1) (by omega) (by decide) (by decide), bne_self_eq_false]
  rw [decide_eq_false (by omega)]
  rfl
end Go.Proofs.Ytkhjbfngafebeaa
