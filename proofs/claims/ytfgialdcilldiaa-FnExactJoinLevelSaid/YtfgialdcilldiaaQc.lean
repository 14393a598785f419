/- Functions of the program as plain partial programs; no condition. -/
import Derived.Test.YtfgialdcilldiaaDa
import Derived.Test.YtfgialdcilldiaaQi
import Derived.Test.YtfgialdcilldiaaQs
namespace Go.Proofs.Ytfgialdcilldiaa
open Go
set_option linter.unusedVariables false
set_option linter.unusedSimpArgs false

noncomputable def p_laws_szCave (a0 : Cave) (left0 : Int) : O (Int) := (p_laws_szIntS a0.fl left0).bind fun v6 => cond (decide (v6 < 0)) (some (-1)) ((p_laws_szIntS a0.ar v6).bind fun v10 => cond (decide (v10 < 0)) (some (-1)) ((p_laws_szSillS a0.si v10).bind fun v14 => cond (decide (v14 < 0)) (some (-1)) (some v14)))


noncomputable def p_laws_toCave (a0 : Cave) : O (Cave) := (p_laws_toIntS a0.fl).bind fun v8 => (p_laws_toIntS a0.ar).bind fun v11 => (p_laws_toSillS a0.si).bind fun v14 => some (⟨v8, v11, v14⟩ : Cave)


noncomputable def p_laws_eqCave (a0 : Cave) (b0 : Cave) : O (Bool) := (p_laws_eqIntS a0.fl b0.fl).bind fun v10 => cond (!v10) (some false) ((p_laws_eqIntS a0.ar b0.ar).bind fun v14 => cond (!v14) (some false) ((p_laws_eqSillS a0.si b0.si).bind fun v18 => cond (!v18) (some false) (some true)))


noncomputable def p_laws_markCave (a0 : Cave) (k0 : Int) : O (Int × List Int × List Int × List Sill) := (p_laws_markIntS a0.fl k0).bind fun (v6, v7) => (p_laws_markIntS a0.ar v6).bind fun (v10, v11) => (p_laws_markSillS a0.si v10).bind fun (v14, v15) => some (v14, v7, v11, v15)


end Go.Proofs.Ytfgialdcilldiaa
