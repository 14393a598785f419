/- Functions of the program as plain partial programs; no condition. -/
import Derived.Test.YtpfijnklnljccaaDoorDa
import Derived.Test.YtpfijnklnljccaaDoorQbm
import Derived.Test.YtpfijnklnljccaaDoorQbt
import Derived.Test.YtpfijnklnljccaaDoorQbs
import Derived.Test.YtpfijnklnljccaaDoorQbc
import Derived.Test.YtpfijnklnljccaaDoorQbf
namespace Go.Proofs.YtpfijnklnljccaaDoor
open Go
set_option linter.unusedVariables false
set_option linter.unusedSimpArgs false

noncomputable def p_spec_DrawAirFlow (code0 : List UInt8) : O (Mine × Int × Int) := (p_spec_l20Open code0).bind fun v4 => (p_spec_l20Blown (⟨v4.b, v4.p⟩ : Rd)).bind fun (v7, v8, v9, v10) => some ((⟨v7.p, v7.aw⟩ : Mine), v8, v9)


noncomputable def p_laws_FnAirFlow_L0 (v4 : Mine) (v12 : List Int) (v39 : List Int) (k47 : Int) : O (Lp Int (Unit ⊕ Bool)) := cond (decide (k47 < ((v12.length : Nat) : Int))) (idx v4.aw.length k47 fun j53 => idx v12.length k47 fun j55 => idx v39.length ((gx v4.aw j53).f) fun j56 => idx v39.length ((gx v4.aw j53).t) fun j57 => cond ((gx v12 j55) != (w64 (((gx v4.aw j53).w) * (w64 ((gx v39 j56) - (gx v39 j57)))))) (some (.out (.inr false))) (some (.next (w64 (k47 + 1))))) (some (.out (.inl ())))
noncomputable def p_laws_FnAirFlow (code0 : List UInt8) : O (Bool) := cond (decide (1048576 < ((code0.length : Nat) : Int))) (some true) ((p_spec_DrawAirFlow code0).bind fun (v4, v5, v6) => (p_impl_AirFlow (⟨v4.p, v4.aw⟩ : Mine) v5 v6).bind fun (v12, v13) => (p_spec_AirFlow (⟨v4.p, v4.aw⟩ : Mine) v5 v6).bind fun (v17, v18) => ((p_laws_sameInts v12 v17).bind fun v26 => cond (!v26) (some true) (some (!(v13 == v18)))).bind fun x21 => cond x21 (some false) (cond (!v13) (cond (((v12.length : Nat) : Int) == 0) ((p_laws_alive).bind fun v36 => some v36) (some false)) ((p_impl_Pressures (⟨v4.p, v4.aw⟩ : Mine) v5 v6).bind fun (v39, v40) => cond (((v39.length : Nat) : Int) != v4.p) (some false) ((loop (p_laws_FnAirFlow_L0 v4 v12 v39) 0 : O (Unit ⊕ Bool)).bind fun | .inr w => some w | .inl _ => (p_impl_AirTrees (⟨v4.p, v4.aw⟩ : Mine)).bind fun v63 => (p_impl_FlowOk (⟨v4.p, v4.aw⟩ : Mine) v5 v6 v63 v12).bind fun v66 => some v66))))


end Go.Proofs.YtpfijnklnljccaaDoor
