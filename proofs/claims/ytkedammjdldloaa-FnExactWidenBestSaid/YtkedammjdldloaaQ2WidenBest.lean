/- Functions of the program as plain partial programs; no condition. -/
import Derived.Test.YtkedammjdldloaaDa
import Derived.Test.YtkedammjdldloaaQea
import Derived.Test.YtkedammjdldloaaQbb
namespace Go.Proofs.Ytkedammjdldloaa
open Go
set_option linter.unusedVariables false
set_option linter.unusedSimpArgs false

noncomputable def p_laws_FnExactWidenBest (aM0 : Mine) (aA0 : Int) (aB0 : Int) : O (Bool) := (p_laws_szMine (⟨aM0.p, aM0.aw⟩ : Mine) 1048576).bind fun v4 => cond (decide (v4 < 0)) (some true) ((p_laws_toMine (⟨aM0.p, aM0.aw⟩ : Mine)).bind fun v8 => (p_spec_WidenBest v8 aA0 aB0).bind fun v11 => (p_laws_toMine (⟨aM0.p, aM0.aw⟩ : Mine)).bind fun v14 => (p_impl_WidenBest (⟨v14.p, v14.aw⟩ : Mine) aA0 aB0).bind fun v18 => cond (v18 != v11) (some false) ((p_laws_toMine (⟨aM0.p, aM0.aw⟩ : Mine)).bind fun v22 => (p_laws_eqMine (⟨v14.p, v14.aw⟩ : Mine) v22).bind fun v25 => cond (!v25) (some false) (some true)))


end Go.Proofs.Ytkedammjdldloaa
