/- The law of the matrix of a mine, as a plain program; no condition but the sizes. -/
import Derived.Test.YtfgialdcilldiaaLd
import Derived.Test.YtfgialdcilldiaaLe
import Derived.Test.YtfgialdcilldiaaQ1AirMatrix
namespace Go.Proofs.Ytfgialdcilldiaa
open Go
set_option linter.unusedVariables false
set_option linter.unusedSimpArgs false

theorem airM_small {m : Mine} : (airM m).length ≤ 4 ∧ ∀ k, k < (airM m).length → (gx (airM m) k).length ≤ 4 := by
  unfold airM
  split
  · rename_i h
    have ok := mineOk_iff.1 h
    have p1 := ok.p1; have p5 := ok.p5
    refine ⟨by rw [tab_len]; omega, fun k hk => ?_⟩
    rw [tab_len] at hk
    rw [tab_gx hk, row1_len]; omega
  · exact ⟨by simp, fun k hk => by simp at hk⟩
theorem l_FnExactAirMatrix {a : Mine} (h : a.aw.length ≤ 9223372036854775807) (hp : a.p ≤ 9223372036854775807) : p_laws_FnExactAirMatrix a = some true := by
  unfold p_laws_FnExactAirMatrix
  have hmm : (⟨a.p, a.aw⟩ : Mine) = a := rfl
  obtain ⟨x, hx, hs⟩ := l_szMine h
  rw [hmm, hx]
  simp only [Option.bind_some]
  rcases hs with hs | hs
  · rw [decide_eq_true hs]; rfl
  by_cases hx0 : x < 0
  · rw [decide_eq_true hx0]; rfl
  rw [decide_eq_false hx0]
  have hM := airM_small (m := a)
  replace h : a.aw.length ≤ 4611686018427387904 := by omega
  have hc := cnt_bd hM.2 _ (Nat.le_refl _)
  have hcc : cnt (airM a) (airM a).length ≤ 16 := by omega
  simp only [cond_false, l_toMine hs, Option.bind_some, l_specAirMatrix h hp, hmm, l_implAirMatrix h, l_eqIntSS (a := airM a) (b := airM a) (by omega) (fun k hk => by have := hM.2 k hk; omega), decide_true, Bool.not_true,
    l_eqMine h, l_markMine hs (k0 := 1) (by decide) (by decide)]
  rw [decide_eq_false (by omega)]
  simp only [cond_false, Option.bind_some, l_markIntSS (a := airM a) (k0 := 1) (by omega) (fun k hk => by have := hM.2 k hk; omega) (by omega) (by decide) (by decide),
    l_heldIntSS (a := airM a) (k0 := 1) (by omega) (fun k hk => by have := hM.2 k hk; omega) (by omega) (by decide) (by decide), bne_self_eq_false]
  rw [decide_eq_false (by omega)]
  rfl
end Go.Proofs.Ytfgialdcilldiaa
