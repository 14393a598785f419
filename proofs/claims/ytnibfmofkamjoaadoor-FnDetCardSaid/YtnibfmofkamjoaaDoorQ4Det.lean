/- Functions of the program as plain partial programs; no condition. -/
import Derived.Test.YtnibfmofkamjoaaDoorDa
import Derived.Test.YtnibfmofkamjoaaDoorQbx
import Derived.Test.YtnibfmofkamjoaaDoorQbt
import Derived.Test.YtnibfmofkamjoaaDoorQbd
import Derived.Test.YtnibfmofkamjoaaDoorQbc
namespace Go.Proofs.YtnibfmofkamjoaaDoor
open Go
set_option linter.unusedVariables false
set_option linter.unusedSimpArgs false

noncomputable def p_spec_DrawDet (code0 : List UInt8) : O (List (List Int)) := (p_spec_l20Open code0).bind fun v4 => (p_spec_l20Matrix (⟨v4.b, v4.p⟩ : Rd) 9).bind fun (v7, v8) => some v7


noncomputable def p_laws_FnDet_L1 (v4 : List (List Int)) (k24 : Int) (v61 : List (List Int)) (z : Int × List (List Int)) : O (Lp (Int × List (List Int)) (List (List Int))) := match z with | (j67, m68) => cond (decide (j67 < ((v4.length : Nat) : Int))) (idx v61.length k24 fun j77 => idx ((gx m68 j77).length) j67 fun j78 => idx v4.length (w64 (k24 - 1)) fun j79 => idx ((gx v4 j79).length) j67 fun j80 => some (.next (w64 (j67 + 1), m68.set j77 ((gx m68 j77).set j78 (w64 ((gx (gx m68 j77) j78) + (gx (gx v4 j79) j80))))))) (some (.out m68))
noncomputable def p_laws_FnDet_L0 (v4 : List (List Int)) (v7 : Int) (k24 : Int) : O (Lp Int (Unit ⊕ Bool)) := cond (decide (k24 < ((v4.length : Nat) : Int))) ((p_laws_copyRows v4).bind fun v31 => idx v4.length k24 fun j34 => need (([] : List Int).length + (gx v4 j34).length ≤ 1073741824) <| idx v31.length (w64 (k24 - 1)) fun j38 => idx v4.length (w64 (k24 - 1)) fun j41 => need (([] : List Int).length + (gx v4 j41).length ≤ 1073741824) <| idx v31.length k24 fun j45 => (p_impl_Det ((v31.set j38 (([] : List Int) ++ (gx v4 j34))).set j45 (([] : List Int) ++ (gx v4 j41)))).bind fun v48 => cond (v48 != (w64 (-v7))) (some (.out (.inr false))) ((p_laws_copyRows v4).bind fun v52 => need (([] : List Int).length + (gx v4 j34).length ≤ 1073741824) <| idx v52.length (w64 (k24 - 1)) fun j58 => (p_laws_copyRows v4).bind fun v61 => (loop (p_laws_FnDet_L1 v4 k24 v61) (0, v61)).bind fun m63 => (p_impl_Det (v52.set j58 (([] : List Int) ++ (gx v4 j34)))).bind fun v89 => cond (v89 != 0) (some (.out (.inr false))) ((p_impl_MatrixValid m63).bind fun v93 => cond v93 ((p_impl_Det m63).bind fun v97 => cond (v97 != v7) (some (.out (.inr false))) (some (.next (w64 (k24 + 1))))) (some (.next (w64 (k24 + 1))))))) (some (.out (.inl ())))
noncomputable def p_laws_FnDet (code0 : List UInt8) : O (Bool) := cond (decide (1048576 < ((code0.length : Nat) : Int))) (some true) ((p_spec_DrawDet code0).bind fun v4 => (p_impl_Det v4).bind fun v7 => (p_spec_Det v4).bind fun v10 => cond (v7 != v10) (some false) ((p_spec_MatrixValid v4).bind fun v14 => cond (!v14) (cond (v7 == 0) ((p_laws_alive).bind fun v19 => some v19) (some false)) ((loop (p_laws_FnDet_L0 v4 v7) 1 : O (Unit ⊕ Bool)).bind fun | .inr w => some w | .inl _ => (p_impl_MatrixTurn v4).bind fun v104 => (p_impl_Det v104).bind fun v107 => some (v107 == v7))))


end Go.Proofs.YtnibfmofkamjoaaDoor
