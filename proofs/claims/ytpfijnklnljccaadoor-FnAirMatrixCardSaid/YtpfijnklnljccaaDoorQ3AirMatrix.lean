/- Functions of the program as plain partial programs; no condition. -/
import Derived.Test.YtpfijnklnljccaaDoorDa
import Derived.Test.YtpfijnklnljccaaDoorQbm
import Derived.Test.YtpfijnklnljccaaDoorQbt
import Derived.Test.YtpfijnklnljccaaDoorQbw
import Derived.Test.YtpfijnklnljccaaDoorQbd
import Derived.Test.YtpfijnklnljccaaDoorQbc
namespace Go.Proofs.YtpfijnklnljccaaDoor
open Go
set_option linter.unusedVariables false
set_option linter.unusedSimpArgs false

noncomputable def p_spec_DrawAirMatrix (code0 : List UInt8) : O (Mine) := (p_spec_l20Open code0).bind fun v4 => (p_spec_l20Mine (⟨v4.b, v4.p⟩ : Rd) 6).bind fun (v7, v8) => some (⟨v7.p, v7.aw⟩ : Mine)


noncomputable def p_laws_FnAirMatrix_L0 (v4 : Mine) (z : Int × List Airway) : O (Lp (Int × List Airway) (List Airway)) := match z with | (k30, aw31) => cond (decide (k30 < ((v4.aw.length : Nat) : Int))) (idx v4.aw.length k30 fun j38 => need (aw31.length + ([(⟨(gx v4.aw j38).t, (gx v4.aw j38).f, (gx v4.aw j38).w⟩ : Airway)] : List Airway).length ≤ 1073741824) <| some (.next (w64 (k30 + 1), aw31 ++ ([(⟨(gx v4.aw j38).t, (gx v4.aw j38).f, (gx v4.aw j38).w⟩ : Airway)] : List Airway)))) (some (.out aw31))
noncomputable def p_laws_FnAirMatrix (code0 : List UInt8) : O (Bool) := cond (decide (1048576 < ((code0.length : Nat) : Int))) (some true) ((p_spec_DrawAirMatrix code0).bind fun v4 => (p_impl_AirMatrix (⟨v4.p, v4.aw⟩ : Mine)).bind fun v8 => (p_spec_AirMatrix (⟨v4.p, v4.aw⟩ : Mine)).bind fun v11 => (p_laws_sameLists v8 v11).bind fun v14 => cond (!v14) (some false) ((p_spec_MineValid (⟨v4.p, v4.aw⟩ : Mine)).bind fun v18 => cond (!v18) (cond (((v8.length : Nat) : Int) == 0) ((p_laws_alive).bind fun v23 => some v23) (some false)) ((loop (p_laws_FnAirMatrix_L0 v4) (0, ([] : List Airway))).bind fun aw26 => (p_impl_MatrixTurn v8).bind fun v49 => (p_laws_sameLists v49 v8).bind fun v52 => cond v52 ((p_impl_AirMatrix (⟨v4.p, aw26⟩ : Mine)).bind fun v56 => (p_laws_sameLists v56 v8).bind fun v59 => some v59) (some false))))


end Go.Proofs.YtpfijnklnljccaaDoor
