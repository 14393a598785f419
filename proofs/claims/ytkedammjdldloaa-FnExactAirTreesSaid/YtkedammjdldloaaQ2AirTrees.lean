/- Functions of the program as plain partial programs; no condition. -/
import Derived.Test.YtkedammjdldloaaDa
import Derived.Test.YtkedammjdldloaaQea
import Derived.Test.YtkedammjdldloaaQbd
namespace Go.Proofs.Ytkedammjdldloaa
open Go
set_option linter.unusedVariables false
set_option linter.unusedSimpArgs false

noncomputable def p_laws_FnExactAirTrees (aM0 : Mine) : O (Bool) := (p_laws_szMine (⟨aM0.p, aM0.aw⟩ : Mine) 1048576).bind fun v4 => cond (decide (v4 < 0)) (some true) ((p_laws_toMine (⟨aM0.p, aM0.aw⟩ : Mine)).bind fun v8 => (p_spec_AirTrees v8).bind fun v11 => (p_laws_toMine (⟨aM0.p, aM0.aw⟩ : Mine)).bind fun v14 => (p_impl_AirTrees (⟨v14.p, v14.aw⟩ : Mine)).bind fun v18 => cond (v18 != v11) (some false) ((p_laws_toMine (⟨aM0.p, aM0.aw⟩ : Mine)).bind fun v22 => (p_laws_eqMine (⟨v14.p, v14.aw⟩ : Mine) v22).bind fun v25 => cond (!v25) (some false) (some true)))


end Go.Proofs.Ytkedammjdldloaa
