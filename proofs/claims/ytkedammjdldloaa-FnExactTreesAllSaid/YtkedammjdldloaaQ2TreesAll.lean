/- Functions of the program as plain partial programs; no condition. -/
import Derived.Test.YtkedammjdldloaaDa
import Derived.Test.YtkedammjdldloaaQel
import Derived.Test.YtkedammjdldloaaQen
import Derived.Test.YtkedammjdldloaaQba
namespace Go.Proofs.Ytkedammjdldloaa
open Go
set_option linter.unusedVariables false
set_option linter.unusedSimpArgs false

noncomputable def p_laws_FnExactTreesAll (aS0 : Survey) : O (Bool) := (p_laws_szSurvey (⟨aS0.st, aS0.legs⟩ : Survey) 1048576).bind fun v4 => cond (decide (v4 < 0)) (some true) ((p_laws_toSurvey (⟨aS0.st, aS0.legs⟩ : Survey)).bind fun v8 => (p_spec_TreesAll v8).bind fun v11 => (p_laws_toSurvey (⟨aS0.st, aS0.legs⟩ : Survey)).bind fun v14 => (p_impl_TreesAll (⟨v14.st, v14.legs⟩ : Survey)).bind fun v18 => (p_laws_eqIntSS v18 v11).bind fun v21 => cond (!v21) (some false) ((p_laws_toSurvey (⟨aS0.st, aS0.legs⟩ : Survey)).bind fun v25 => (p_laws_eqSurvey (⟨v14.st, v14.legs⟩ : Survey) v25).bind fun v28 => cond (!v28) (some false) ((p_laws_markSurvey (⟨v14.st, v14.legs⟩ : Survey) 1).bind fun (v32, v33) => (cond (decide (v32 < 0)) (some true) ((p_laws_eqIntSS v18 v11).bind fun v41 => some (!v41))).bind fun x35 => cond x35 (some false) ((p_laws_markIntSS v18 1).bind fun (v48, v49) => (p_laws_heldIntSS v49 1).bind fun v53 => cond (decide (v53 < 0)) (some false) (cond (v53 != v48) (some false) ((p_laws_toSurvey (⟨aS0.st, aS0.legs⟩ : Survey)).bind fun v58 => (p_impl_TreesAll v58).bind fun v61 => (p_laws_eqIntSS v61 v11).bind fun v64 => cond (!v64) (some false) ((p_laws_heldIntSS v49 1).bind fun v68 => cond (decide (v68 < 0)) (some false) (cond (v68 != v48) (some false) (some true)))))))))


end Go.Proofs.Ytkedammjdldloaa
