/- Functions of the program as plain partial programs; no condition. -/
import Derived.Test.YtnibfmofkamjoaaDoorDa
import Derived.Test.YtnibfmofkamjoaaDoorQbg
import Derived.Test.YtnibfmofkamjoaaDoorQbt
import Derived.Test.YtnibfmofkamjoaaDoorQbn
namespace Go.Proofs.YtnibfmofkamjoaaDoor
open Go
set_option linter.unusedVariables false
set_option linter.unusedSimpArgs false

noncomputable def p_spec_DrawTreesMany (code0 : List UInt8) : O (Survey) := (p_spec_l20Open code0).bind fun v4 => (p_spec_l20Linked (⟨v4.b, v4.p⟩ : Rd) 9).bind fun (v7, v8) => some (⟨v7.st, v7.legs⟩ : Survey)


noncomputable def p_laws_FnTreesMany (code0 : List UInt8) : O (Bool) := cond (decide (1048576 < ((code0.length : Nat) : Int))) (some true) ((p_spec_DrawTreesMany code0).bind fun v4 => (p_impl_TreesMany (⟨v4.st, v4.legs⟩ : Survey)).bind fun v8 => (p_spec_TreesMany (⟨v4.st, v4.legs⟩ : Survey)).bind fun v11 => cond (v8 != v11) (some false) (cond (decide (v8 < 0)) (cond (v8 == (-1)) ((p_laws_alive).bind fun v17 => some v17) (some false)) ((p_impl_TreesAll (⟨v4.st, v4.legs⟩ : Survey)).bind fun v20 => cond (v8 == ((v20.length : Nat) : Int)) ((p_impl_PartsMany (⟨v4.st, v4.legs⟩ : Survey)).bind fun v24 => some ((decide (0 < v8)) == (v24 == 1))) (some false))))


end Go.Proofs.YtnibfmofkamjoaaDoor
