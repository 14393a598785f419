/- Functions of the program as plain partial programs; no condition. -/
import Derived.Test.YtkedammjdldloaaDoorDa
import Derived.Test.YtkedammjdldloaaDoorQbw
import Derived.Test.YtkedammjdldloaaDoorQbk
namespace Go.Proofs.YtkedammjdldloaaDoor
open Go
set_option linter.unusedVariables false
set_option linter.unusedSimpArgs false

noncomputable def p_impl_fracFits (f0 : Frac) : O (Bool) := (p_impl_isWithin f0.num 9999999).bind fun v3 => cond v3 (cond (decide (1 ≤ f0.den)) (some (decide (f0.den ≤ 9999999))) (some false)) (some false)


noncomputable def p_impl_FracLess (a0 : Frac) (b0 : Frac) : O (Bool) := ((p_impl_fracFits (⟨a0.num, a0.den⟩ : Frac)).bind fun v8 => cond (!v8) (some true) ((p_impl_fracFits (⟨b0.num, b0.den⟩ : Frac)).bind fun v12 => some (!v12))).bind fun x3 => cond x3 (some false) (some (decide ((w64 (a0.num * b0.den)) < (w64 (b0.num * a0.den)))))


noncomputable def p_spec_FracLess (a0 : Frac) (b0 : Frac) : O (Bool) := (p_spec_l1In a0.num (-9999999) 9999999).bind fun v4 => cond v4 ((p_spec_l1In b0.num (-9999999) 9999999).bind fun v8 => cond v8 ((p_spec_l1In a0.den 1 9999999).bind fun v12 => cond v12 ((p_spec_l1In b0.den 1 9999999).bind fun v16 => cond v16 (some (decide ((w64 (a0.num * b0.den)) < (w64 (b0.num * a0.den))))) (some false)) (some false)) (some false)) (some false)


noncomputable def p_impl_Widen (m0 : Mine) (index0 : Int) : O (Mine × Bool) := ((p_impl_MineValid (⟨m0.p, m0.aw⟩ : Mine)).bind fun v9 => cond (!v9) (some true) ((p_impl_isIndex index0 ((m0.aw.length : Nat) : Int)).bind fun v13 => cond (!v13) (some true) (idx m0.aw.length index0 fun j16 => some (((gx m0.aw j16).w) == 6)))).bind fun x4 => cond x4 (some ((⟨0, ([] : List Airway)⟩ : Mine), false)) ((p_slices_Clone_impl_Airway_impl_Airway m0.aw).bind fun v22 => idx v22.length index0 fun j26 => some ((⟨m0.p, v22.set j26 { gx v22 j26 with w := w64 (((gx v22 j26).w) + 1) }⟩ : Mine), true))


noncomputable def p_spec_Widen (m0 : Mine) (index0 : Int) : O (Mine × Bool) := ((p_spec_MineValid (⟨m0.p, m0.aw⟩ : Mine)).bind fun v9 => cond (!v9) (some true) ((p_spec_l1In index0 0 (w64 (((m0.aw.length : Nat) : Int) - 1))).bind fun v13 => cond (!v13) (some true) (idx m0.aw.length index0 fun j16 => some (((gx m0.aw j16).w) == 6)))).bind fun x4 => cond x4 (some ((⟨0, ([] : List Airway)⟩ : Mine), false)) (need (([] : List Airway).length + m0.aw.length ≤ 1073741824) <| idx ((([] : List Airway) ++ m0.aw).length) index0 fun j27 => some ((⟨m0.p, (([] : List Airway) ++ m0.aw).set j27 { gx (([] : List Airway) ++ m0.aw) j27 with w := w64 (((gx (([] : List Airway) ++ m0.aw) j27).w) + 1) }⟩ : Mine), true))


end Go.Proofs.YtkedammjdldloaaDoor
