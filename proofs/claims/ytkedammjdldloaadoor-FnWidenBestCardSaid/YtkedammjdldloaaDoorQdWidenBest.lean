/- Functions of the program as plain partial programs; no condition. -/
import Derived.Test.YtkedammjdldloaaDoorDa
import Derived.Test.YtkedammjdldloaaDoorQbm
import Derived.Test.YtkedammjdldloaaDoorQbt
import Derived.Test.YtkedammjdldloaaDoorQbb
namespace Go.Proofs.YtkedammjdldloaaDoor
open Go
set_option linter.unusedVariables false
set_option linter.unusedSimpArgs false

noncomputable def p_spec_DrawWidenBest (code0 : List UInt8) : O (Mine × Int × Int) := (p_spec_l20Open code0).bind fun v4 => (p_spec_l20Blown (⟨v4.b, v4.p⟩ : Rd)).bind fun (v7, v8, v9, v10) => some ((⟨v7.p, v7.aw⟩ : Mine), v8, v9)


noncomputable def p_laws_FnWidenBest_L0 (v4 : Mine) (v5 : Int) (v6 : Int) (v12 : Int) (v30 : Frac) (k38 : Int) : O (Lp Int (Unit ⊕ Bool)) := cond (decide (k38 < ((v4.aw.length : Nat) : Int))) ((p_impl_Widen (⟨v4.p, v4.aw⟩ : Mine) k38).bind fun (v45, v46) => (p_impl_AirResist (⟨v45.p, v45.aw⟩ : Mine) v5 v6).bind fun (v51, v52) => cond v46 ((p_impl_FracLess (⟨v51.num, v51.den⟩ : Frac) (⟨v30.num, v30.den⟩ : Frac)).bind fun v58 => cond v58 (some (.out (.inr false))) (cond (decide (k38 < v12)) ((p_impl_FracLess (⟨v30.num, v30.den⟩ : Frac) (⟨v51.num, v51.den⟩ : Frac)).bind fun v63 => cond (!v63) (some (.out (.inr false))) (some (.next (w64 (k38 + 1))))) (some (.next (w64 (k38 + 1)))))) (some (.next (w64 (k38 + 1))))) (some (.out (.inl ())))
noncomputable def p_laws_FnWidenBest (code0 : List UInt8) : O (Bool) := cond (decide (1048576 < ((code0.length : Nat) : Int))) (some true) ((p_spec_DrawWidenBest code0).bind fun (v4, v5, v6) => (p_impl_WidenBest (⟨v4.p, v4.aw⟩ : Mine) v5 v6).bind fun v12 => (p_spec_WidenBest (⟨v4.p, v4.aw⟩ : Mine) v5 v6).bind fun v15 => cond (v12 != v15) (some false) (cond (decide (v12 < 0)) (cond (v12 == (-1)) ((p_laws_alive).bind fun v21 => some v21) (some false)) ((p_impl_Widen (⟨v4.p, v4.aw⟩ : Mine) v12).bind fun (v24, v25) => (p_impl_AirResist (⟨v24.p, v24.aw⟩ : Mine) v5 v6).bind fun (v30, v31) => (loop (p_laws_FnWidenBest_L0 v4 v5 v6 v12 v30) 0 : O (Unit ⊕ Bool)).bind fun | .inr w => some w | .inl _ => some v31)))


end Go.Proofs.YtkedammjdldloaaDoor
