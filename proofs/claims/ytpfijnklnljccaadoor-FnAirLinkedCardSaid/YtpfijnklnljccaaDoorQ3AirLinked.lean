/- Functions of the program as plain partial programs; no condition. -/
import Derived.Test.YtpfijnklnljccaaDoorDa
import Derived.Test.YtpfijnklnljccaaDoorQbm
import Derived.Test.YtpfijnklnljccaaDoorQbt
import Derived.Test.YtpfijnklnljccaaDoorQbp
import Derived.Test.YtpfijnklnljccaaDoorQbd
namespace Go.Proofs.YtpfijnklnljccaaDoor
open Go
set_option linter.unusedVariables false
set_option linter.unusedSimpArgs false

noncomputable def p_spec_DrawAirLinked (code0 : List UInt8) : O (Mine) := (p_spec_l20Open code0).bind fun v4 => (p_spec_l20Mine (⟨v4.b, v4.p⟩ : Rd) 6).bind fun (v7, v8) => some (⟨v7.p, v7.aw⟩ : Mine)


noncomputable def p_laws_FnAirLinked (code0 : List UInt8) : O (Bool) := cond (decide (1048576 < ((code0.length : Nat) : Int))) (some true) ((p_spec_DrawAirLinked code0).bind fun v4 => (p_impl_AirLinked (⟨v4.p, v4.aw⟩ : Mine)).bind fun v8 => (p_spec_AirLinked (⟨v4.p, v4.aw⟩ : Mine)).bind fun v11 => cond (!(v8 == v11)) (some false) ((p_impl_AirTrees (⟨v4.p, v4.aw⟩ : Mine)).bind fun v15 => cond (v8 == (decide (0 < v15))) ((p_impl_AirLinked (⟨v4.p, ([] : List Airway)⟩ : Mine)).bind fun v19 => cond (v19 == (v4.p == 1)) ((p_laws_alive).bind fun v23 => some v23) (some false)) (some false)))


end Go.Proofs.YtpfijnklnljccaaDoor
