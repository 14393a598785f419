/- Functions of the program as plain partial programs; no condition. -/
import Derived.Test.YtpfijnklnljccaaDoorDa
namespace Go.Proofs.YtpfijnklnljccaaDoor
open Go
set_option linter.unusedVariables false
set_option linter.unusedSimpArgs false

noncomputable def p_impl_isIndex (number0 : Int) (many0 : Int) : O (Bool) := cond (decide (0 ≤ number0)) (some (decide (number0 < many0))) (some false)


noncomputable def p_impl_isWithin (number0 : Int) (limit0 : Int) : O (Bool) := cond (decide ((w64 (-limit0)) ≤ number0)) (some (decide (number0 ≤ limit0))) (some false)


noncomputable def p_spec_l1In (n0 : Int) (low0 : Int) (high0 : Int) : O (Bool) := cond (decide (low0 ≤ n0)) (some (decide (n0 ≤ high0))) (some false)


end Go.Proofs.YtpfijnklnljccaaDoor
