/- The exact law FnExactTreesAll, as a plain program; no condition but the sizes. -/
import Derived.Test.YtkedammjdldloaaEl
import Derived.Test.YtkedammjdldloaaEn
import Derived.Test.YtkedammjdldloaaLq
import Derived.Test.YtkedammjdldloaaQ2TreesAll
namespace Go.Proofs.Ytkedammjdldloaa
open Go
set_option linter.unusedVariables false
set_option linter.unusedSimpArgs false

theorem small_TA {s : Survey} : (TA s).length ≤ 512 ∧ ∀ k, k < (TA s).length → (gx (TA s) k).length ≤ 9 := by
  unfold TA
  split
  · rename_i h
    have ok := surveyOk_iff.1 h
    have n9 := ok.n9
    have h1 := filter_len (p := tset s) (x := 2 ^ s.legs.length)
    have h2 := (two_pow ok.n9).2
    refine ⟨by rw [List.length_map]; unfold tsets; omega, fun k hk => ?_⟩
    rw [List.length_map] at hk
    rw [gx_of_map hk]
    have := ixI_len (n := s.legs.length) (s := gx (tsets s) k)
    omega
  · exact ⟨by simp, fun k hk => by simp at hk⟩
theorem l_FnExactTreesAll {a : Survey} (h : a.legs.length ≤ 9223372036854775807) : p_laws_FnExactTreesAll a = some true := by
  unfold p_laws_FnExactTreesAll
  have hmm : (⟨a.st, a.legs⟩ : Survey) = a := rfl
  obtain ⟨x, hx, hs⟩ := l_szSurvey h
  rw [hmm, hx]
  simp only [Option.bind_some]
  rcases hs with hs | hs
  · rw [decide_eq_true hs]; rfl
  by_cases hx0 : x < 0
  · rw [decide_eq_true hx0]; rfl
  rw [decide_eq_false hx0]
  have hM := small_TA (s := a)
  replace h : a.legs.length ≤ 4611686018427387904 := by omega
  have hc := cnt_bd hM.2 _ (Nat.le_refl _)
  have hcc : cnt (TA a) (TA a).length ≤ 4608 := by omega
  simp only [cond_false, l_toSurvey hs, Option.bind_some, l_specTreesAll h, hmm, l_implTreesAll h, l_eqIntSS (a := TA a) (b := TA a) (by omega) (fun k hk => by have := hM.2 k hk; omega), decide_true, Bool.not_true,
    l_eqSurvey h, l_markSurvey hs (k0 := 1) (by decide) (by decide)]
  rw [decide_eq_false (by omega)]
  simp only [cond_false, Option.bind_some, l_markIntSS (a := TA a) (k0 := 1) (by omega) (fun k hk => by have := hM.2 k hk; omega) (by omega) (by decide) (by decide),
    l_heldIntSS (a := TA a) (k0 := 1) (by omega) (fun k hk => by have := hM.2 k hk; omega) (by omega) (by decide) (by decide), bne_self_eq_false]
  rw [decide_eq_false (by omega)]
  rfl
end Go.Proofs.Ytkedammjdldloaa
