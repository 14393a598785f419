/- Functions of the program as plain partial programs; no condition. -/
import Derived.Test.YtkedammjdldloaaDoorDa
import Derived.Test.YtkedammjdldloaaDoorQbx
import Derived.Test.YtkedammjdldloaaDoorQbt
import Derived.Test.YtkedammjdldloaaDoorQbd
import Derived.Test.YtkedammjdldloaaDoorQbc
namespace Go.Proofs.YtkedammjdldloaaDoor
open Go
set_option linter.unusedVariables false
set_option linter.unusedSimpArgs false

noncomputable def p_spec_DrawMatrixTurn (code0 : List UInt8) : O (List (List Int)) := (p_spec_l20Open code0).bind fun v4 => (p_spec_l20Matrix (⟨v4.b, v4.p⟩ : Rd) 6).bind fun (v7, v8) => some v7


noncomputable def p_laws_FnMatrixTurn (code0 : List UInt8) : O (Bool) := cond (decide (1048576 < ((code0.length : Nat) : Int))) (some true) ((p_spec_DrawMatrixTurn code0).bind fun v4 => (p_impl_MatrixTurn v4).bind fun v7 => (p_spec_MatrixTurn v4).bind fun v10 => (p_laws_sameLists v7 v10).bind fun v13 => cond (!v13) (some false) ((p_spec_MatrixValid v4).bind fun v17 => cond (!v17) (cond (((v7.length : Nat) : Int) == 0) ((p_laws_alive).bind fun v22 => some v22) (some false)) ((p_impl_MatrixTurn v7).bind fun v25 => (p_laws_sameLists v25 v4).bind fun v28 => some v28)))


end Go.Proofs.YtkedammjdldloaaDoor
