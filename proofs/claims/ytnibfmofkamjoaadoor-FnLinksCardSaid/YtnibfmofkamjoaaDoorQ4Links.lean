/- Functions of the program as plain partial programs; no condition. -/
import Derived.Test.YtnibfmofkamjoaaDoorDa
import Derived.Test.YtnibfmofkamjoaaDoorQbg
import Derived.Test.YtnibfmofkamjoaaDoorQbt
import Derived.Test.YtnibfmofkamjoaaDoorQbl
import Derived.Test.YtnibfmofkamjoaaDoorQbc
namespace Go.Proofs.YtnibfmofkamjoaaDoor
open Go
set_option linter.unusedVariables false
set_option linter.unusedSimpArgs false

noncomputable def p_spec_DrawLinks (code0 : List UInt8) : O (Survey) := (p_spec_l20Open code0).bind fun v4 => (p_spec_l20Linked (⟨v4.b, v4.p⟩ : Rd) 6).bind fun (v7, v8) => some (⟨v7.st, v7.legs⟩ : Survey)


noncomputable def p_laws_FnLinks_L1 (v4 : Survey) (k28 : Int) (z : Int × Int) : O (Lp (Int × Int) Int) := match z with | (n38, j39) => cond (decide (j39 < ((v4.legs.length : Nat) : Int))) (idx v4.legs.length j39 fun j45 => cond (((gx v4.legs j45).f) == 0) (cond (((gx v4.legs j45).t) == (w64 (k28 + 1))) (some (.next (w64 (n38 + 1), w64 (j39 + 1)))) (cond (((gx v4.legs j45).t) == 0) (cond (((gx v4.legs j45).f) == (w64 (k28 + 1))) (some (.next (w64 (n38 + 1), w64 (j39 + 1)))) (some (.next (n38, w64 (j39 + 1))))) (some (.next (n38, w64 (j39 + 1)))))) (cond (((gx v4.legs j45).t) == 0) (cond (((gx v4.legs j45).f) == (w64 (k28 + 1))) (some (.next (w64 (n38 + 1), w64 (j39 + 1)))) (some (.next (n38, w64 (j39 + 1))))) (some (.next (n38, w64 (j39 + 1)))))) (some (.out n38))
noncomputable def p_laws_FnLinks_L2 (v8 : List (List Int)) (k28 : Int) (z : Int × Int) : O (Lp (Int × Int) Int) := match z with | (sum60, j61) => cond (decide (j61 < ((v8.length : Nat) : Int))) (idx v8.length k28 fun j67 => idx ((gx v8 j67).length) j61 fun j68 => some (.next (w64 (sum60 + (gx (gx v8 j67) j68)), w64 (j61 + 1)))) (some (.out sum60))
noncomputable def p_laws_FnLinks_L0 (v4 : Survey) (v8 : List (List Int)) (k28 : Int) : O (Lp Int (Unit ⊕ Bool)) := cond (decide (k28 < ((v8.length : Nat) : Int))) ((loop (p_laws_FnLinks_L1 v4 k28) (0, 0)).bind fun n34 => (loop (p_laws_FnLinks_L2 v8 k28) (0, 0)).bind fun sum56 => cond (sum56 != n34) (some (.out (.inr false))) (some (.next (w64 (k28 + 1))))) (some (.out (.inl ())))
noncomputable def p_laws_FnLinks (code0 : List UInt8) : O (Bool) := cond (decide (1048576 < ((code0.length : Nat) : Int))) (some true) ((p_spec_DrawLinks code0).bind fun v4 => (p_impl_Links (⟨v4.st, v4.legs⟩ : Survey)).bind fun v8 => (p_spec_Links (⟨v4.st, v4.legs⟩ : Survey)).bind fun v11 => (p_laws_sameLists v8 v11).bind fun v14 => cond (!v14) (some false) ((p_spec_SurveyValid (⟨v4.st, v4.legs⟩ : Survey)).bind fun v18 => cond (!v18) (cond (((v8.length : Nat) : Int) == 0) ((p_laws_alive).bind fun v23 => some v23) (some false)) ((loop (p_laws_FnLinks_L0 v4 v8) 0 : O (Unit ⊕ Bool)).bind fun | .inr w => some w | .inl _ => (p_impl_MatrixTurn v8).bind fun v77 => (p_laws_sameLists v77 v8).bind fun v80 => cond v80 (some (((v8.length : Nat) : Int) == (w64 (v4.st - 1)))) (some false))))


end Go.Proofs.YtnibfmofkamjoaaDoor
