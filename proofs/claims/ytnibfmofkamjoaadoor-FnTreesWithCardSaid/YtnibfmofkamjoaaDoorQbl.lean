/- Functions of the program as plain partial programs; no condition. -/
import Derived.Test.YtnibfmofkamjoaaDoorDa
import Derived.Test.YtnibfmofkamjoaaDoorQbp
import Derived.Test.YtnibfmofkamjoaaDoorQbd
namespace Go.Proofs.YtnibfmofkamjoaaDoor
open Go
set_option linter.unusedVariables false
set_option linter.unusedSimpArgs false

noncomputable def p_impl_Links_L0 (s0 : Survey) (z : Int × List (List Int)) : O (Lp (Int × List (List Int)) (List (List Int))) := match z with | (x16, m17) => cond (decide (x16 < ((s0.legs.length : Nat) : Int))) (idx s0.legs.length x16 fun j25 => (p_impl_addLink m17 ((gx s0.legs j25).f) ((gx s0.legs j25).t) 1).bind fun v28 => some (.next (w64 (x16 + 1), v28))) (some (.out m17))
noncomputable def p_impl_Links (s0 : Survey) : O (List (List Int)) := (p_impl_SurveyValid (⟨s0.st, s0.legs⟩ : Survey)).bind fun v5 => cond (!v5) (some ([] : List (List Int))) ((p_impl_squareOf (w64 (s0.st - 1))).bind fun v10 => (loop (p_impl_Links_L0 s0) (0, v10)).bind fun m12 => some m12)


noncomputable def p_spec_Links_L1 (s0 : Survey) (a11 : Int) (j30 : Nat) (z : Int × List Int) : O (Lp (Int × List Int) (List Int)) := match z with | (k36, l37) => cond (decide (k36 < ((s0.legs.length : Nat) : Int))) (idx s0.legs.length k36 fun j43 => (cond (((gx s0.legs j43).t) == a11) ((p_spec_LegBack (⟨(gx s0.legs j43).f, (gx s0.legs j43).t, (gx s0.legs j43).e, (gx s0.legs j43).n, (gx s0.legs j43).u⟩ : Leg)).bind fun v55 => some (v55.f, v55.t, v55.e, v55.n, v55.u)) (some ((gx s0.legs j43).f, (gx s0.legs j43).t, (gx s0.legs j43).e, (gx s0.legs j43).n, (gx s0.legs j43).u))).bind fun (f45, t46, e47, n48, u49) => cond (f45 == a11) (idx j30 (w64 (a11 - 1)) fun j61 => cond (decide (0 < t46)) (idx j30 (w64 (t46 - 1)) fun j63 => some (.next (w64 (k36 + 1), (l37.set j61 (w64 ((gx l37 j61) + 1))).set j63 (w64 ((gx (l37.set j61 (w64 ((gx l37 j61) + 1))) j63) - 1))))) (some (.next (w64 (k36 + 1), l37.set j61 (w64 ((gx l37 j61) + 1)))))) (some (.next (w64 (k36 + 1), l37)))) (some (.out l37))
noncomputable def p_spec_Links_L0 (s0 : Survey) (z : List (List Int) × Int) : O (Lp (List (List Int) × Int) (List (List Int))) := match z with | (out10, a11) => (cond (decide (a11 < s0.st)) ((p_spec_SurveyValid (⟨s0.st, s0.legs⟩ : Survey)).bind fun v24 => some v24) (some false)).bind fun x18 => cond x18 (sized (w64 (s0.st - 1)) fun j30 => (loop (p_spec_Links_L1 s0 a11 j30) (0, List.replicate j30 0)).bind fun l32 => need (out10.length + 1 ≤ 1073741824) <| some (.next (out10 ++ [l32], w64 (a11 + 1)))) (some (.out out10))
noncomputable def p_spec_Links (s0 : Survey) : O (List (List Int)) := (loop (p_spec_Links_L0 s0) (([] : List (List Int)), 1)).bind fun out6 => some out6


noncomputable def p_impl_TreesMany (s0 : Survey) : O (Int) := (p_impl_SurveyValid (⟨s0.st, s0.legs⟩ : Survey)).bind fun v4 => cond (!v4) (some (-1)) ((p_impl_Links (⟨s0.st, s0.legs⟩ : Survey)).bind fun v8 => (p_impl_Det v8).bind fun v11 => some v11)


noncomputable def p_spec_TreesMany (s0 : Survey) : O (Int) := (p_spec_SurveyValid (⟨s0.st, s0.legs⟩ : Survey)).bind fun v4 => cond (!v4) (some (-1)) ((p_spec_Links (⟨s0.st, s0.legs⟩ : Survey)).bind fun v8 => (p_spec_Det v8).bind fun v11 => some v11)


end Go.Proofs.YtnibfmofkamjoaaDoor
