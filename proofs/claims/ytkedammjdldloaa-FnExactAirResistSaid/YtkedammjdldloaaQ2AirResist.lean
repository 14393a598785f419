/- Functions of the program as plain partial programs; no condition. -/
import Derived.Test.YtkedammjdldloaaDa
import Derived.Test.YtkedammjdldloaaQea
import Derived.Test.YtkedammjdldloaaQef
import Derived.Test.YtkedammjdldloaaQbs
namespace Go.Proofs.Ytkedammjdldloaa
open Go
set_option linter.unusedVariables false
set_option linter.unusedSimpArgs false

noncomputable def p_laws_FnExactAirResist (aM0 : Mine) (aA0 : Int) (aB0 : Int) : O (Bool) := (p_laws_szMine (⟨aM0.p, aM0.aw⟩ : Mine) 1048576).bind fun v4 => cond (decide (v4 < 0)) (some true) ((p_laws_toMine (⟨aM0.p, aM0.aw⟩ : Mine)).bind fun v8 => (p_spec_AirResist v8 aA0 aB0).bind fun (v11, v12) => (p_laws_toMine (⟨aM0.p, aM0.aw⟩ : Mine)).bind fun v17 => (p_impl_AirResist (⟨v17.p, v17.aw⟩ : Mine) aA0 aB0).bind fun (v21, v22) => ((p_laws_eqFrac (⟨v21.num, v21.den⟩ : Frac) (⟨v11.num, v11.den⟩ : Frac)).bind fun v31 => cond (!v31) (some true) (some (!(v22 == v12)))).bind fun x26 => cond x26 (some false) ((p_laws_toMine (⟨aM0.p, aM0.aw⟩ : Mine)).bind fun v39 => (p_laws_eqMine (⟨v17.p, v17.aw⟩ : Mine) v39).bind fun v42 => cond (!v42) (some false) (some true)))


end Go.Proofs.Ytkedammjdldloaa
