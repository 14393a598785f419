/- Functions of the program as plain partial programs; no condition. -/
import Derived.Test.YtnibfmofkamjoaaDoorDa
import Derived.Test.YtnibfmofkamjoaaDoorQbx
import Derived.Test.YtnibfmofkamjoaaDoorQbt
import Derived.Test.YtnibfmofkamjoaaDoorQbs
import Derived.Test.YtnibfmofkamjoaaDoorQbc
namespace Go.Proofs.YtnibfmofkamjoaaDoor
open Go
set_option linter.unusedVariables false
set_option linter.unusedSimpArgs false

noncomputable def p_spec_DrawSolve_L0 (v4 : Rd) (v7 : List (List Int)) (z : List Int × Int × Int) : O (Lp (List Int × Int × Int) (List Int × Int)) := match z with | (right16, k17, p18) => cond (decide (k17 < ((v7.length : Nat) : Int))) ((p_spec_l20Rd_pick (⟨v4.b, p18⟩ : Rd) 60).bind fun (v26, v27) => (p_spec_l20Rd_pick (⟨v4.b, v27⟩ : Rd) 40).bind fun (v30, v31) => need (right16.length + ([w64 ((w64 (v26 - 30)) + (w64 ((w64 (Int.tdiv v30 39)) * 999)))] : List Int).length ≤ 1073741824) <| some (.next (right16 ++ ([w64 ((w64 (v26 - 30)) + (w64 ((w64 (Int.tdiv v30 39)) * 999)))] : List Int), w64 (k17 + 1), v31))) (some (.out (right16, p18)))
noncomputable def p_spec_DrawSolve (code0 : List UInt8) : O (List (List Int) × List Int) := (p_spec_l20Open code0).bind fun v4 => (p_spec_l20Matrix (⟨v4.b, v4.p⟩ : Rd) 9).bind fun (v7, v8) => (loop (p_spec_DrawSolve_L0 v4 v7) (([] : List Int), 0, v8)).bind fun (right11, p12) => (p_spec_l20Rd_odd (⟨v4.b, p12⟩ : Rd) 14).bind fun (v42, v43) => cond v42 (need (right11.length + ([1] : List Int).length ≤ 1073741824) <| some (v7, right11 ++ ([1] : List Int))) (some (v7, right11))


noncomputable def p_laws_FnSolve_L1 (v4 : List (List Int)) (v9 : List Int) (k38 : Int) (z : Int × Int) : O (Lp (Int × Int) Int) := match z with | (sum48, j49) => cond (decide (j49 < ((v4.length : Nat) : Int))) (idx v4.length k38 fun j55 => idx ((gx v4 j55).length) j49 fun j56 => idx v9.length j49 fun j57 => some (.next (w64 (sum48 + (w64 ((gx (gx v4 j55) j56) * (gx v9 j57)))), w64 (j49 + 1)))) (some (.out sum48))
noncomputable def p_laws_FnSolve_L0 (v4 : List (List Int)) (v5 : List Int) (v9 : List Int) (v10 : Int) (k38 : Int) : O (Lp Int (Unit ⊕ Bool)) := cond (decide (k38 < ((v4.length : Nat) : Int))) ((loop (p_laws_FnSolve_L1 v4 v9 k38) (0, 0)).bind fun sum44 => idx v5.length k38 fun j61 => cond (sum44 != (w64 (v10 * (gx v5 j61)))) (some (.out (.inr false))) (some (.next (w64 (k38 + 1))))) (some (.out (.inl ())))
noncomputable def p_laws_FnSolve (code0 : List UInt8) : O (Bool) := cond (decide (1048576 < ((code0.length : Nat) : Int))) (some true) ((p_spec_DrawSolve code0).bind fun (v4, v5) => (p_impl_Solve v4 v5).bind fun (v9, v10) => (p_spec_Solve v4 v5).bind fun (v14, v15) => ((p_laws_sameInts v9 v14).bind fun v23 => cond (!v23) (some true) (some (v10 != v15))).bind fun x18 => cond x18 (some false) (cond (v10 == 0) (cond (((v9.length : Nat) : Int) == 0) ((p_laws_alive).bind fun v33 => some v33) (some false)) ((loop (p_laws_FnSolve_L0 v4 v5 v9 v10) 0 : O (Unit ⊕ Bool)).bind fun | .inr w => some w | .inl _ => (p_impl_Det v4).bind fun v67 => some (v10 == v67))))


end Go.Proofs.YtnibfmofkamjoaaDoor
