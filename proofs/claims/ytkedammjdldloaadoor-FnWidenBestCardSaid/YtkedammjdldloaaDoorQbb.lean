/- Functions of the program as plain partial programs; no condition. -/
import Derived.Test.YtkedammjdldloaaDoorDa
import Derived.Test.YtkedammjdldloaaDoorQbs
import Derived.Test.YtkedammjdldloaaDoorQbi
namespace Go.Proofs.YtkedammjdldloaaDoor
open Go
set_option linter.unusedVariables false
set_option linter.unusedSimpArgs false

noncomputable def p_impl_WidenBest_L0 (m0 : Mine) (a0 : Int) (b0 : Int) (z : Int × Int × Int × Int) : O (Lp (Int × Int × Int × Int) Int) := match z with | (best27, x28, num29, den30) => cond (decide (x28 < ((m0.aw.length : Nat) : Int))) ((p_impl_Widen (⟨m0.p, m0.aw⟩ : Mine) x28).bind fun (v37, v38) => cond (!v38) (some (.next (best27, w64 (x28 + 1), num29, den30))) ((p_impl_AirResist (⟨v37.p, v37.aw⟩ : Mine) a0 b0).bind fun (v44, v45) => cond (decide (best27 < 0)) (some (.next (x28, w64 (x28 + 1), v44.num, v44.den))) ((p_impl_FracLess (⟨v44.num, v44.den⟩ : Frac) (⟨num29, den30⟩ : Frac)).bind fun v51 => cond v51 (some (.next (x28, w64 (x28 + 1), v44.num, v44.den))) (some (.next (best27, w64 (x28 + 1), num29, den30)))))) (some (.out best27))
noncomputable def p_impl_WidenBest (m0 : Mine) (a0 : Int) (b0 : Int) : O (Int) := ((p_impl_AirLinked (⟨m0.p, m0.aw⟩ : Mine)).bind fun v8 => cond (!v8) (some true) ((p_impl_isIndex a0 m0.p).bind fun v12 => cond (!v12) (some true) ((p_impl_isIndex b0 m0.p).bind fun v16 => some (!v16)))).bind fun x3 => cond x3 (some (-1)) ((loop (p_impl_WidenBest_L0 m0 a0 b0) ((-1), 0, 0, 0)).bind fun best23 => some best23)


noncomputable def p_spec_WidenBest_L0 (m0 : Mine) (a0 : Int) (b0 : Int) (z : Int × Int × Int × Int) : O (Lp (Int × Int × Int × Int) Int) := match z with | (best8, k9, num10, den11) => cond (decide (k9 < ((m0.aw.length : Nat) : Int))) ((p_spec_Widen (⟨m0.p, m0.aw⟩ : Mine) k9).bind fun (v18, v19) => (p_spec_AirResist (⟨v18.p, v18.aw⟩ : Mine) a0 b0).bind fun (v24, v25) => cond v19 (cond v25 (cond (decide (best8 < 0)) (some (.next (k9, w64 (k9 + 1), v24.num, v24.den))) ((p_spec_FracLess (⟨v24.num, v24.den⟩ : Frac) (⟨num10, den11⟩ : Frac)).bind fun v33 => cond v33 (some (.next (k9, w64 (k9 + 1), v24.num, v24.den))) (some (.next (best8, w64 (k9 + 1), num10, den11))))) (some (.next (best8, w64 (k9 + 1), num10, den11)))) (some (.next (best8, w64 (k9 + 1), num10, den11)))) (some (.out best8))
noncomputable def p_spec_WidenBest (m0 : Mine) (a0 : Int) (b0 : Int) : O (Int) := (loop (p_spec_WidenBest_L0 m0 a0 b0) ((-1), 0, 0, 0)).bind fun best4 => some best4


end Go.Proofs.YtkedammjdldloaaDoor
