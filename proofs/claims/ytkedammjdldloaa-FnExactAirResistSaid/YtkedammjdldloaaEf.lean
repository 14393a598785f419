/- Fractions held against each other, as the laws do; no condition. -/
import Derived.Test.YtkedammjdldloaaLa
import Derived.Test.YtkedammjdldloaaQef
namespace Go.Proofs.Ytkedammjdldloaa
open Go
set_option linter.unusedVariables false
set_option linter.unusedSimpArgs false

theorem l_eqFrac {a b : Frac} : p_laws_eqFrac a b = some (decide (a = b)) := by
  obtain ⟨x0, x1⟩ := a
  obtain ⟨y0, y1⟩ := b
  simp only [p_laws_eqFrac, bne_dec, Frac.mk.injEq]
  by_cases h0 : x0 = y0 <;> by_cases h1 : x1 = y1 <;> simp [h0, h1]
end Go.Proofs.Ytkedammjdldloaa
