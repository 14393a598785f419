/- Functions of the program as plain partial programs; no condition. -/
import Derived.Test.YtnibfmofkamjoaaDoorDa
import Derived.Test.YtnibfmofkamjoaaDoorQbr
namespace Go.Proofs.YtnibfmofkamjoaaDoor
open Go
set_option linter.unusedVariables false
set_option linter.unusedSimpArgs false

noncomputable def p_spec_l20Matrix_L1 (r0 : Rd) (v4 : Int) (v8 : Int) (z : List Int × Int × Int) : O (Lp (List Int × Int × Int) (List Int × Int)) := match z with | (row34, j35, p36) => cond (decide (j35 < v4)) ((p_spec_l20Rd_pick (⟨r0.b, p36⟩ : Rd) (w64 ((w64 (2 * (w64 (2 + v8)))) + 1))).bind fun (v44, v45) => need (row34.length + ([w64 (v44 - (w64 (2 + v8)))] : List Int).length ≤ 1073741824) <| some (.next (row34 ++ ([w64 (v44 - (w64 (2 + v8)))] : List Int), w64 (j35 + 1), v45))) (some (.out (row34, p36)))
noncomputable def p_spec_l20Matrix_L0 (r0 : Rd) (v4 : Int) (v8 : Int) (z : List (List Int) × Int × Int) : O (Lp (List (List Int) × Int × Int) (List (List Int) × Int)) := match z with | (out18, k19, p20) => cond (decide (k19 < v4)) ((loop (p_spec_l20Matrix_L1 r0 v4 v8) (([] : List Int), 0, p20)).bind fun (row29, p30) => need (out18.length + 1 ≤ 1073741824) <| some (.next (out18 ++ [row29], w64 (k19 + 1), p30))) (some (.out (out18, p20)))
noncomputable def p_spec_l20Matrix (r0 : Rd) (n0 : Int) : O (List (List Int) × Int) := (p_spec_l20Rd_pick (⟨r0.b, r0.p⟩ : Rd) 6).bind fun (v4, v5) => (p_spec_l20Rd_pick (⟨r0.b, v5⟩ : Rd) 12).bind fun (v8, v9) => (loop (p_spec_l20Matrix_L0 r0 v4 v8) (([] : List (List Int)), 0, v9)).bind fun (out13, p14) => (cond (decide (1 < v4)) ((p_spec_l20Rd_pick (⟨r0.b, p14⟩ : Rd) 5).bind fun (v72, v73) => some (v72 == 0, v73)) (some (false, p14))).bind fun (x65, p66) => (cond x65 (idx out13.length 0 fun j84 => need (([] : List Int).length + (gx out13 j84).length ≤ 1073741824) <| idx out13.length 1 fun j88 => some (out13.set j88 (([] : List Int) ++ (gx out13 j84)))) (some out13)).bind fun m78 => (p_spec_l20Rd_odd (⟨r0.b, p66⟩ : Rd) n0).bind fun (v96, v97) => cond v96 ((cond (decide (0 < v4)) ((p_spec_l20Rd_pick (⟨r0.b, v97⟩ : Rd) 2).bind fun (v107, v108) => some (v107 == 0, v108)) (some (false, v97))).bind fun (x100, p101) => cond x100 (idx out13.length 0 fun j115 => (p_spec_l20Rd_pick (⟨r0.b, p101⟩ : Rd) 2).bind fun (v118, v119) => idx 2 v118 fun j121 => idx ((gx m78 j115).length) 0 fun j122 => some (m78.set j115 ((gx m78 j115).set j122 (gx ([(-1000), 1000] : List Int) j121)), v119)) (need (m78.length + 1 ≤ 1073741824) <| some (m78 ++ [([1] : List Int)], p101))) (some (m78, v97))


end Go.Proofs.YtnibfmofkamjoaaDoor
