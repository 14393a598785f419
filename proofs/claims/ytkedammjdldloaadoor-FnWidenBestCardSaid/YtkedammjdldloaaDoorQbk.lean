/- Functions of the program as plain partial programs; no condition. -/
import Derived.Test.YtkedammjdldloaaDoorDa
namespace Go.Proofs.YtkedammjdldloaaDoor
open Go
set_option linter.unusedVariables false
set_option linter.unusedSimpArgs false

noncomputable def p_slices_Clone_int_int (s0 : List Int) : O (List Int) := need (([] : List Int).length + s0.length ≤ 1073741824) <| some (([] : List Int) ++ s0)


noncomputable def p_slices_Clone_impl_Airway_impl_Airway (s0 : List Airway) : O (List Airway) := need (([] : List Airway).length + s0.length ≤ 1073741824) <| some (([] : List Airway) ++ s0)


end Go.Proofs.YtkedammjdldloaaDoor
