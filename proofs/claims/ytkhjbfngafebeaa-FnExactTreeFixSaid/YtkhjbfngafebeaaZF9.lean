/- The exact law FnExactTreeFix, as a plain program; no condition but the sizes. -/
import Derived.Test.YtkhjbfngafebeaaZEl
import Derived.Test.YtkhjbfngafebeaaZEi
import Derived.Test.YtkhjbfngafebeaaZEw
import Derived.Test.YtkhjbfngafebeaaZLt
import Derived.Test.YtkhjbfngafebeaaZQ
namespace Go.Proofs.Ytkhjbfngafebeaa
open Go
set_option linter.unusedVariables false
set_option linter.unusedSimpArgs false

theorem small_F9 {s : Survey} {t : List Int} : (tfix s t).1.nums.length ≤ 10 := by
  unfold tfix
  split
  · rename_i h
    rw [Bool.and_eq_true] at h
    have p6 := (surveyOk_iff.1 h.1).p6
    show (tfW s t).length ≤ 10
    rw [tfW_len]; unfold mS; omega
  · simp
theorem l_FnExactTreeFix {a : Survey} {t : List Int} (h : a.legs.length ≤ 9223372036854775807) : p_laws_FnExactTreeFix a t = some true := by
  unfold p_laws_FnExactTreeFix
  by_cases ht : (1048576 : Int) < ((t.length : Nat) : Int)
  · rw [decide_eq_true ht]; rfl
  rw [decide_eq_false ht]
  have hmm : (⟨a.st, a.legs⟩ : Survey) = a := rfl
  obtain ⟨x, hx, hs⟩ := l_szSurvey h
  rw [hmm, hx]
  simp only [Option.bind_some, cond_false]
  rcases hs with hs | hs
  · rw [decide_eq_true hs]; rfl
  by_cases hx0 : x < 0
  · rw [decide_eq_true hx0]; rfl
  rw [decide_eq_false hx0]
  replace h : a.legs.length ≤ 4611686018427387904 := by omega
  have ht2 : t.length ≤ 1048576 := by omega
  have hM := small_F9 (s := a) (t := t)
  simp only [cond_false, l_toSurvey hs, l_toIntS ht2, Option.bind_some, l_specTreeFix (tree := t) h (by omega), hmm, l_implTreeFix (tree := t) h (by omega), l_eqFix (a := (tfix a t).1) (b := (tfix a t).1) (by omega), decide_true, Bool.not_true, beq_self_eq_true,
    l_eqSurvey h, l_eqIntS (a := t) (b := t) (by omega), l_markSurvey hs (k0 := 1) (by decide) (by decide)]
  rw [l_markIntS (a := t) (k0 := 1 + 5 * (a.legs.length : Int)) (by omega) (by omega) (by omega)]
  simp only [Option.bind_some]
  rw [decide_eq_false (by omega)]
  simp only [cond_false, Option.bind_some, l_markFix (a := (tfix a t).1) (k0 := 1) (by omega) (by decide) (by decide), l_heldFix (n := (tfix a t).1.nums.length) (k0 := 1) (by omega) (by decide) (by decide), bne_self_eq_false]
  rw [decide_eq_false (by omega)]
  rfl
end Go.Proofs.Ytkhjbfngafebeaa
