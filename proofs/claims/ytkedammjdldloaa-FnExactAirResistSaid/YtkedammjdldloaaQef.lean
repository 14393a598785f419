/- Functions of the program as plain partial programs; no condition. -/
import Derived.Test.YtkedammjdldloaaDa
namespace Go.Proofs.Ytkedammjdldloaa
open Go
set_option linter.unusedVariables false
set_option linter.unusedSimpArgs false

noncomputable def p_laws_eqFrac (a0 : Frac) (b0 : Frac) : O (Bool) := cond (a0.num != b0.num) (some false) (cond (a0.den != b0.den) (some false) (some true))


end Go.Proofs.Ytkedammjdldloaa
