/- Functions of the program as plain partial programs; no condition. -/
import Derived.Test.YtnibfmofkamjoaaDoorDa
import Derived.Test.YtnibfmofkamjoaaDoorQbl
import Derived.Test.YtnibfmofkamjoaaDoorQba
import Derived.Test.YtnibfmofkamjoaaDoorQbk
namespace Go.Proofs.YtnibfmofkamjoaaDoor
open Go
set_option linter.unusedVariables false
set_option linter.unusedSimpArgs false

noncomputable def p_impl_TreesWith (s0 : Survey) (index0 : Int) : O (Int) := ((p_impl_SurveyValid (⟨s0.st, s0.legs⟩ : Survey)).bind fun v8 => cond (!v8) (some true) ((p_impl_isIndex index0 ((s0.legs.length : Nat) : Int)).bind fun v12 => some (!v12))).bind fun x3 => cond x3 (some (-1)) ((p_slices_Clone_impl_Leg_impl_Leg s0.legs).bind fun v19 => (p_slices_Delete_impl_Leg_impl_Leg v19 index0 (w64 (index0 + 1))).bind fun v22 => (p_impl_TreesMany (⟨s0.st, s0.legs⟩ : Survey)).bind fun v27 => (p_impl_TreesMany (⟨s0.st, v22⟩ : Survey)).bind fun v30 => some (w64 (v27 - v30)))


noncomputable def p_spec_TreesWith_L0 (index0 : Int) (v19 : List (List Int)) (z : Int × Int) : O (Lp (Int × Int) Int) := match z with | (n25, k26) => cond (decide (k26 < ((v19.length : Nat) : Int))) (idx v19.length k26 fun j32 => (p_spec_l1Has (gx v19 j32) index0).bind fun v34 => cond v34 (some (.next (w64 (n25 + 1), w64 (k26 + 1)))) (some (.next (n25, w64 (k26 + 1))))) (some (.out n25))
noncomputable def p_spec_TreesWith (s0 : Survey) (index0 : Int) : O (Int) := ((p_spec_SurveyValid (⟨s0.st, s0.legs⟩ : Survey)).bind fun v8 => cond (!v8) (some true) ((p_spec_l1In index0 0 (w64 (((s0.legs.length : Nat) : Int) - 1))).bind fun v12 => some (!v12))).bind fun x3 => cond x3 (some (-1)) ((p_spec_TreesAll (⟨s0.st, s0.legs⟩ : Survey)).bind fun v19 => (loop (p_spec_TreesWith_L0 index0 v19) (0, 0)).bind fun n21 => some n21)


end Go.Proofs.YtnibfmofkamjoaaDoor
