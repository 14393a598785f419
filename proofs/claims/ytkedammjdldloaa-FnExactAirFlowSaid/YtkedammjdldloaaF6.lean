/- The exact law FnExactAirFlow, as a plain program; no condition but the sizes. -/
import Derived.Test.YtkedammjdldloaaEa
import Derived.Test.YtkedammjdldloaaEi
import Derived.Test.YtkedammjdldloaaLo
import Derived.Test.YtkedammjdldloaaQ2AirFlow
namespace Go.Proofs.Ytkedammjdldloaa
open Go
set_option linter.unusedVariables false
set_option linter.unusedSimpArgs false

theorem small_F6 {m : Mine} {i o : Int} : (afs m i o).1.length ≤ 10 := by
  unfold afs
  split
  · rename_i h
    have n7 := (prOk_iff.1 h).ok.n7
    simp only [row1_len]; omega
  · simp
theorem l_FnExactAirFlow {a : Mine} {i o : Int} (h : a.aw.length ≤ 9223372036854775807) (hp : a.p ≤ 9223372036854775807) : p_laws_FnExactAirFlow a i o = some true := by
  unfold p_laws_FnExactAirFlow
  have hmm : (⟨a.p, a.aw⟩ : Mine) = a := rfl
  obtain ⟨x, hx, hs⟩ := l_szMine h
  rw [hmm, hx]
  simp only [Option.bind_some]
  rcases hs with hs | hs
  · rw [decide_eq_true hs]; rfl
  by_cases hx0 : x < 0
  · rw [decide_eq_true hx0]; rfl
  rw [decide_eq_false hx0]
  replace h : a.aw.length ≤ 4611686018427387904 := by omega
  have hv := small_F6 (m := a) (i := i) (o := o)
  simp only [cond_false, l_toMine hs, Option.bind_some, l_specAirFlow h hp, hmm, l_implAirFlow h, l_eqMine h, l_eqIntS (a := (afs a i o).1) (b := (afs a i o).1) (by omega), bne_self_eq_false, beq_self_eq_true, decide_true, Bool.not_true, l_markMine hs (k0 := 1) (by decide) (by decide)]
  rw [decide_eq_false (by omega)]
  simp only [cond_false, Option.bind_some, l_markIntS (a := (afs a i o).1) (k0 := 1) (by omega) (by decide) (by decide), l_heldIntS (n := (afs a i o).1.length) (k0 := 1) (by omega) (by decide) (by decide), bne_self_eq_false]
  rw [decide_eq_false (by omega)]
  rfl
end Go.Proofs.Ytkedammjdldloaa
