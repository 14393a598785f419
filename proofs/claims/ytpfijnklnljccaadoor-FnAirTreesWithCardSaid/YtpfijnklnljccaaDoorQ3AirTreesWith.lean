/- Functions of the program as plain partial programs; no condition. -/
import Derived.Test.YtpfijnklnljccaaDoorDa
import Derived.Test.YtpfijnklnljccaaDoorQbm
import Derived.Test.YtpfijnklnljccaaDoorQbt
import Derived.Test.YtpfijnklnljccaaDoorQbs
import Derived.Test.YtpfijnklnljccaaDoorQba
namespace Go.Proofs.YtpfijnklnljccaaDoor
open Go
set_option linter.unusedVariables false
set_option linter.unusedSimpArgs false

noncomputable def p_spec_DrawAirTreesWith (code0 : List UInt8) : O (Mine × Int) := (p_spec_l20Open code0).bind fun v4 => (p_spec_l20Mine (⟨v4.b, v4.p⟩ : Rd) 9).bind fun (v7, v8) => (p_spec_l20Airway (⟨v4.b, v8⟩ : Rd) (⟨v7.p, v7.aw⟩ : Mine)).bind fun (v12, v13) => some ((⟨v7.p, v7.aw⟩ : Mine), v12)


noncomputable def p_laws_FnAirTreesWith (code0 : List UInt8) : O (Bool) := cond (decide (1048576 < ((code0.length : Nat) : Int))) (some true) ((p_spec_DrawAirTreesWith code0).bind fun (v4, v5) => (p_impl_AirTreesWith (⟨v4.p, v4.aw⟩ : Mine) v5).bind fun v10 => (p_spec_AirTreesWith (⟨v4.p, v4.aw⟩ : Mine) v5).bind fun v13 => cond (v10 != v13) (some false) (cond (decide (v10 < 0)) (cond (v10 == (-1)) ((p_laws_alive).bind fun v19 => some v19) (some false)) (idx v4.aw.length v5 fun j21 => (p_impl_AirFlow (⟨v4.p, v4.aw⟩ : Mine) ((gx v4.aw j21).f) ((gx v4.aw j21).t)).bind fun (v23, v24) => cond (!v24) (cond (v10 == 0) (some true) (cond v24 (cond (((v23.length : Nat) : Int) == ((v4.aw.length : Nat) : Int)) (idx v23.length v5 fun j31 => some ((gx v23 j31) == v10)) (some false)) (some false))) (cond v24 (cond (((v23.length : Nat) : Int) == ((v4.aw.length : Nat) : Int)) (idx v23.length v5 fun j34 => some ((gx v23 j34) == v10)) (some false)) (some false)))))


end Go.Proofs.YtpfijnklnljccaaDoor
