/- Functions of the program as plain partial programs; no condition. -/
import Derived.Test.YtpfijnklnljccaaDoorDa
import Derived.Test.YtpfijnklnljccaaDoorQbm
import Derived.Test.YtpfijnklnljccaaDoorQbt
import Derived.Test.YtpfijnklnljccaaDoorQbs
import Derived.Test.YtpfijnklnljccaaDoorQbc
namespace Go.Proofs.YtpfijnklnljccaaDoor
open Go
set_option linter.unusedVariables false
set_option linter.unusedSimpArgs false

noncomputable def p_spec_DrawPressures (code0 : List UInt8) : O (Mine × Int × Int) := (p_spec_l20Open code0).bind fun v4 => (p_spec_l20Blown (⟨v4.b, v4.p⟩ : Rd)).bind fun (v7, v8, v9, v10) => some ((⟨v7.p, v7.aw⟩ : Mine), v8, v9)


noncomputable def p_laws_FnPressures_L0 (v5 : Int) (v6 : Int) (v12 : List Int) (v39 : List Int) (k55 : Int) : O (Lp Int (Unit ⊕ Bool)) := cond (decide (k55 < ((v12.length : Nat) : Int))) (idx v39.length k55 fun j61 => idx v12.length k55 fun j62 => cond ((gx v39 j61) != (w64 (-(gx v12 j62)))) (some (.out (.inr false))) (idx v12.length v5 fun j64 => cond (decide ((gx v12 j64) < (gx v12 j62))) (some (.out (.inr false))) (idx v12.length v6 fun j66 => cond (decide ((gx v12 j62) < (gx v12 j66))) (some (.out (.inr false))) (some (.next (w64 (k55 + 1))))))) (some (.out (.inl ())))
noncomputable def p_laws_FnPressures (code0 : List UInt8) : O (Bool) := cond (decide (1048576 < ((code0.length : Nat) : Int))) (some true) ((p_spec_DrawPressures code0).bind fun (v4, v5, v6) => (p_impl_Pressures (⟨v4.p, v4.aw⟩ : Mine) v5 v6).bind fun (v12, v13) => (p_spec_Pressures (⟨v4.p, v4.aw⟩ : Mine) v5 v6).bind fun (v17, v18) => ((p_laws_sameInts v12 v17).bind fun v26 => cond (!v26) (some true) (some (!(v13 == v18)))).bind fun x21 => cond x21 (some false) (cond (!v13) (cond (((v12.length : Nat) : Int) == 0) ((p_laws_alive).bind fun v36 => some v36) (some false)) ((p_impl_Pressures (⟨v4.p, v4.aw⟩ : Mine) v6 v5).bind fun (v39, v40) => (cond (!v40) (some true) (some (((v39.length : Nat) : Int) != ((v12.length : Nat) : Int)))).bind fun x43 => cond x43 (some false) ((loop (p_laws_FnPressures_L0 v5 v6 v12 v39) 0 : O (Unit ⊕ Bool)).bind fun | .inr w => some w | .inl _ => idx v12.length 0 fun j71 => some ((gx v12 j71) == 0)))))


end Go.Proofs.YtpfijnklnljccaaDoor
