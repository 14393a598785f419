/- Functions of the program as plain partial programs; no condition. -/
import Derived.Test.YtkedammjdldloaaDa
import Derived.Test.YtkedammjdldloaaQea
import Derived.Test.YtkedammjdldloaaQei
import Derived.Test.YtkedammjdldloaaQbs
namespace Go.Proofs.Ytkedammjdldloaa
open Go
set_option linter.unusedVariables false
set_option linter.unusedSimpArgs false

noncomputable def p_laws_FnExactAirFlow (aM0 : Mine) (aIn0 : Int) (aOut0 : Int) : O (Bool) := (p_laws_szMine (⟨aM0.p, aM0.aw⟩ : Mine) 1048576).bind fun v4 => cond (decide (v4 < 0)) (some true) ((p_laws_toMine (⟨aM0.p, aM0.aw⟩ : Mine)).bind fun v8 => (p_spec_AirFlow v8 aIn0 aOut0).bind fun (v11, v12) => (p_laws_toMine (⟨aM0.p, aM0.aw⟩ : Mine)).bind fun v16 => (p_impl_AirFlow (⟨v16.p, v16.aw⟩ : Mine) aIn0 aOut0).bind fun (v20, v21) => ((p_laws_eqIntS v20 v11).bind fun v29 => cond (!v29) (some true) (some (!(v21 == v12)))).bind fun x24 => cond x24 (some false) ((p_laws_toMine (⟨aM0.p, aM0.aw⟩ : Mine)).bind fun v37 => (p_laws_eqMine (⟨v16.p, v16.aw⟩ : Mine) v37).bind fun v40 => cond (!v40) (some false) ((p_laws_markMine (⟨v16.p, v16.aw⟩ : Mine) 1).bind fun (v44, v45) => (cond (decide (v44 < 0)) (some true) ((p_laws_eqIntS v20 v11).bind fun v53 => cond (!v53) (some true) (some (!(v21 == v12))))).bind fun x47 => cond x47 (some false) ((p_laws_markIntS v20 1).bind fun (v61, v62) => (p_laws_heldIntS v62 1).bind fun v65 => cond (decide (v65 < 0)) (some false) (cond (v65 != v61) (some false) ((p_laws_toMine (⟨aM0.p, aM0.aw⟩ : Mine)).bind fun v70 => (p_impl_AirFlow v70 aIn0 aOut0).bind fun (v73, v74) => ((p_laws_eqIntS v73 v11).bind fun v82 => cond (!v82) (some true) (some (!(v74 == v12)))).bind fun x77 => cond x77 (some false) ((p_laws_heldIntS v62 1).bind fun v90 => cond (decide (v90 < 0)) (some false) (cond (v90 != v61) (some false) (some true)))))))))


end Go.Proofs.Ytkedammjdldloaa
