/- Functions of the program as plain partial programs; no condition. -/
import Derived.Test.YtnibfmofkamjoaaDoorDa
namespace Go.Proofs.YtnibfmofkamjoaaDoor
open Go
set_option linter.unusedVariables false
set_option linter.unusedSimpArgs false

noncomputable def p_slices_Clone_int_int (s0 : List Int) : O (List Int) := need (([] : List Int).length + s0.length ≤ 1073741824) <| some (([] : List Int) ++ s0)


noncomputable def p_slices_Clone_impl_Leg_impl_Leg (s0 : List Leg) : O (List Leg) := need (([] : List Leg).length + s0.length ≤ 1073741824) <| some (([] : List Leg) ++ s0)


noncomputable def p_slices_Delete_impl_Leg_impl_Leg (s0 : List Leg) (i0 : Int) (j0 : Int) : O (List Leg) := cut s0.length i0 j0 fun j2 j3 => cond (i0 == j0) (some s0) (cut s0.length 0 i0 fun j5 j6 => cut s0.length j0 ((s0.length : Nat) : Int) fun j7 j8 => some (s0.take j6 ++ s0.drop j7))


end Go.Proofs.YtnibfmofkamjoaaDoor
