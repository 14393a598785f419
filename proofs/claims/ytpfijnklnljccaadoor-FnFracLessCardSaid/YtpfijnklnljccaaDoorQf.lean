/- Functions of the program as plain partial programs; no condition. -/
import Derived.Test.YtpfijnklnljccaaDoorDa
import Derived.Test.YtpfijnklnljccaaDoorQv
namespace Go.Proofs.YtpfijnklnljccaaDoor
open Go
set_option linter.unusedVariables false
set_option linter.unusedSimpArgs false

noncomputable def p_impl_fracFits (f0 : Frac) : O (Bool) := (p_impl_isWithin f0.num 9999999).bind fun v3 => cond v3 (cond (decide (1 ≤ f0.den)) (some (decide (f0.den ≤ 9999999))) (some false)) (some false)


noncomputable def p_impl_FracLess (a0 : Frac) (b0 : Frac) : O (Bool) := ((p_impl_fracFits (⟨a0.num, a0.den⟩ : Frac)).bind fun v8 => cond (!v8) (some true) ((p_impl_fracFits (⟨b0.num, b0.den⟩ : Frac)).bind fun v12 => some (!v12))).bind fun x3 => cond x3 (some false) (some (decide ((w64 (a0.num * b0.den)) < (w64 (b0.num * a0.den)))))


noncomputable def p_spec_FracLess (a0 : Frac) (b0 : Frac) : O (Bool) := (p_spec_l1In a0.num (-9999999) 9999999).bind fun v4 => cond v4 ((p_spec_l1In b0.num (-9999999) 9999999).bind fun v8 => cond v8 ((p_spec_l1In a0.den 1 9999999).bind fun v12 => cond v12 ((p_spec_l1In b0.den 1 9999999).bind fun v16 => cond v16 (some (decide ((w64 (a0.num * b0.den)) < (w64 (b0.num * a0.den))))) (some false)) (some false)) (some false)) (some false)


end Go.Proofs.YtpfijnklnljccaaDoor
