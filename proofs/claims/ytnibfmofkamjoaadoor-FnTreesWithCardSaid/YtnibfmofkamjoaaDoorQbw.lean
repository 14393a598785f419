/- Functions of the program as plain partial programs; no condition. -/
import Derived.Test.YtnibfmofkamjoaaDoorDa
import Derived.Test.YtnibfmofkamjoaaDoorQbv
namespace Go.Proofs.YtnibfmofkamjoaaDoor
open Go
set_option linter.unusedVariables false
set_option linter.unusedSimpArgs false

noncomputable def p_impl_squareOf_L0 (many0 : Int) (j2 : Nat) (z : Int × List (List Int)) : O (Lp (Int × List (List Int)) (List (List Int))) := match z with | (x9, m10) => cond (decide (x9 < ((j2 : Nat) : Int))) (sized many0 fun j18 => idx j2 x9 fun j20 => some (.next (w64 (x9 + 1), m10.set j20 (List.replicate j18 0)))) (some (.out m10))
noncomputable def p_impl_squareOf (many0 : Int) : O (List (List Int)) := sized many0 fun j2 => (loop (p_impl_squareOf_L0 many0 j2) (0, List.replicate j2 ([] : List Int))).bind fun m5 => some m5


noncomputable def p_impl_addLink (m0 : List (List Int)) (a0 : Int) (b0 : Int) (weight0 : Int) : O (List (List Int)) := (cond (decide (0 < a0)) (idx m0.length (w64 (a0 - 1)) fun j7 => idx ((gx m0 j7).length) (w64 (a0 - 1)) fun j8 => some (m0.set j7 ((gx m0 j7).set j8 (w64 ((gx (gx m0 j7) j8) + weight0))))) (some m0)).bind fun m2 => (cond (decide (0 < b0)) (idx m0.length (w64 (b0 - 1)) fun j20 => idx ((gx m2 j20).length) (w64 (b0 - 1)) fun j21 => some (m2.set j20 ((gx m2 j20).set j21 (w64 ((gx (gx m2 j20) j21) + weight0))))) (some m2)).bind fun m15 => (cond (decide (0 < a0)) (some (decide (0 < b0))) (some false)).bind fun x28 => cond x28 (idx m0.length (w64 (a0 - 1)) fun j38 => idx ((gx m15 j38).length) (w64 (b0 - 1)) fun j39 => idx m0.length (w64 (b0 - 1)) fun j41 => idx ((gx (m15.set j38 ((gx m15 j38).set j39 (w64 ((gx (gx m15 j38) j39) - weight0)))) j41).length) (w64 (a0 - 1)) fun j42 => some ((m15.set j38 ((gx m15 j38).set j39 (w64 ((gx (gx m15 j38) j39) - weight0)))).set j41 ((gx (m15.set j38 ((gx m15 j38).set j39 (w64 ((gx (gx m15 j38) j39) - weight0)))) j41).set j42 (w64 ((gx (gx (m15.set j38 ((gx m15 j38).set j39 (w64 ((gx (gx m15 j38) j39) - weight0)))) j41) j42) - weight0))))) (some m15)


end Go.Proofs.YtnibfmofkamjoaaDoor
