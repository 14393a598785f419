/- Functions of the program as plain partial programs; no condition. -/
import Derived.Test.YtnibfmofkamjoaaDoorDa
import Derived.Test.YtnibfmofkamjoaaDoorQbp
import Derived.Test.YtnibfmofkamjoaaDoorQbd
import Derived.Test.YtnibfmofkamjoaaDoorQbk
namespace Go.Proofs.YtnibfmofkamjoaaDoor
open Go
set_option linter.unusedVariables false
set_option linter.unusedSimpArgs false

noncomputable def p_impl_withColumn_L0 (m0 : List (List Int)) (column0 : Int) (numbers0 : List Int) (j4 : Nat) (z : Int × List (List Int)) : O (Lp (Int × List (List Int)) (List (List Int))) := match z with | (x11, m12) => cond (decide (x11 < ((m0.length : Nat) : Int))) (idx m0.length x11 fun j20 => (p_slices_Clone_int_int (gx m0 j20)).bind fun v22 => idx j4 x11 fun j24 => idx numbers0.length x11 fun j26 => idx ((gx (m12.set j24 v22) j24).length) column0 fun j27 => some (.next (w64 (x11 + 1), (m12.set j24 v22).set j24 ((gx (m12.set j24 v22) j24).set j27 (gx numbers0 j26))))) (some (.out m12))
noncomputable def p_impl_withColumn (m0 : List (List Int)) (column0 : Int) (numbers0 : List Int) : O (List (List Int)) := sized ((m0.length : Nat) : Int) fun j4 => (loop (p_impl_withColumn_L0 m0 column0 numbers0 j4) (0, List.replicate j4 ([] : List Int))).bind fun m7 => some m7


noncomputable def p_impl_Solve_L0 (m0 : List (List Int)) (right0 : List Int) (j23 : Nat) (z : Int × List Int) : O (Lp (Int × List Int) (List Int)) := match z with | (x29, l30) => cond (decide (x29 < ((j23 : Nat) : Int))) ((p_impl_withColumn m0 x29 right0).bind fun v37 => (p_impl_Det v37).bind fun v40 => idx j23 x29 fun j42 => some (.next (w64 (x29 + 1), l30.set j42 v40))) (some (.out l30))
noncomputable def p_impl_Solve (m0 : List (List Int)) (right0 : List Int) : O (List Int × Int) := ((p_impl_MatrixValid m0).bind fun v8 => cond (!v8) (some true) (cond (((right0.length : Nat) : Int) != ((m0.length : Nat) : Int)) (some true) ((p_impl_entriesFit right0).bind fun v13 => some (!v13)))).bind fun x3 => cond x3 (some (([] : List Int), 0)) ((p_impl_Det m0).bind fun v20 => cond (v20 == 0) (some (([] : List Int), 0)) (sized ((m0.length : Nat) : Int) fun j23 => (loop (p_impl_Solve_L0 m0 right0 j23) (0, List.replicate j23 0)).bind fun l25 => some (l25, v20)))


noncomputable def p_spec_l2Column_L0 (m0 : List (List Int)) (column0 : Int) (list0 : List Int) (z : List (List Int) × Int) : O (Lp (List (List Int) × Int) (List (List Int))) := match z with | (out10, k11) => cond (decide (k11 < ((m0.length : Nat) : Int))) (idx m0.length k11 fun j20 => need (([] : List Int).length + (gx m0 j20).length ≤ 1073741824) <| idx list0.length k11 fun j24 => idx ((([] : List Int) ++ (gx m0 j20)).length) column0 fun j25 => need (out10.length + 1 ≤ 1073741824) <| some (.next (out10 ++ [(([] : List Int) ++ (gx m0 j20)).set j25 (gx list0 j24)], w64 (k11 + 1)))) (some (.out out10))
noncomputable def p_spec_l2Column (m0 : List (List Int)) (column0 : Int) (list0 : List Int) : O (List (List Int)) := (loop (p_spec_l2Column_L0 m0 column0 list0) (([] : List (List Int)), 0)).bind fun out6 => some out6


noncomputable def p_spec_Solve_L0 (right0 : List Int) (k19 : Int) : O (Lp Int (Unit ⊕ (List Int × Int))) := cond (decide (k19 < ((right0.length : Nat) : Int))) (idx right0.length k19 fun j25 => (p_spec_l1In (gx right0 j25) (-999) 999).bind fun v27 => cond (!v27) (some (.out (.inr (([] : List Int), 0)))) (some (.next (w64 (k19 + 1))))) (some (.out (.inl ())))
noncomputable def p_spec_Solve_L1 (m0 : List (List Int)) (right0 : List Int) (z : List Int × Int) : O (Lp (List Int × Int) (List Int)) := match z with | (out37, k38) => cond (decide (k38 < ((m0.length : Nat) : Int))) ((p_spec_l2Column m0 k38 right0).bind fun v46 => (p_spec_Det v46).bind fun v49 => need (out37.length + ([v49] : List Int).length ≤ 1073741824) <| some (.next (out37 ++ ([v49] : List Int), w64 (k38 + 1)))) (some (.out out37))
noncomputable def p_spec_Solve (m0 : List (List Int)) (right0 : List Int) : O (List Int × Int) := (p_spec_Det m0).bind fun v5 => (cond (v5 == 0) (some true) (some (((right0.length : Nat) : Int) != ((m0.length : Nat) : Int)))).bind fun x7 => cond x7 (some (([] : List Int), 0)) ((loop (p_spec_Solve_L0 right0) 0 : O (Unit ⊕ (List Int × Int))).bind fun | .inr w => some w | .inl _ => (loop (p_spec_Solve_L1 m0 right0) (([] : List Int), 0)).bind fun out33 => some (out33, v5))


end Go.Proofs.YtnibfmofkamjoaaDoor
