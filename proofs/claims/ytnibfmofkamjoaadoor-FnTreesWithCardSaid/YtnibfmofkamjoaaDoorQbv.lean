/- Functions of the program as plain partial programs; no condition. -/
import Derived.Test.YtnibfmofkamjoaaDoorDa
namespace Go.Proofs.YtnibfmofkamjoaaDoor
open Go
set_option linter.unusedVariables false
set_option linter.unusedSimpArgs false

noncomputable def p_impl_isIndex (number0 : Int) (many0 : Int) : O (Bool) := cond (decide (0 ≤ number0)) (some (decide (number0 < many0))) (some false)


noncomputable def p_impl_isWithin (number0 : Int) (limit0 : Int) : O (Bool) := cond (decide ((w64 (-limit0)) ≤ number0)) (some (decide (number0 ≤ limit0))) (some false)


noncomputable def p_spec_l1In (n0 : Int) (low0 : Int) (high0 : Int) : O (Bool) := cond (decide (low0 ≤ n0)) (some (decide (n0 ≤ high0))) (some false)


noncomputable def p_impl_stepFits (number0 : Int) : O (Bool) := (p_impl_isWithin number0 99).bind fun v2 => some v2


noncomputable def p_impl_LegValid (stations0 : Int) (g0 : Leg) : O (Bool) := (cond (decide (stations0 < 1)) (some true) (some (decide (6 < stations0)))).bind fun x2 => cond x2 (some false) (((p_impl_isIndex g0.f stations0).bind fun v16 => cond (!v16) (some true) ((p_impl_isIndex g0.t stations0).bind fun v20 => cond (!v20) (some true) (some (g0.f == g0.t)))).bind fun x11 => cond x11 (some false) ((p_impl_stepFits g0.e).bind fun v28 => cond v28 ((p_impl_stepFits g0.n).bind fun v32 => cond v32 ((p_impl_stepFits g0.u).bind fun v36 => some v36) (some false)) (some false)))


noncomputable def p_impl_legWay (g0 : Leg) : O (Way) := some (⟨g0.e, g0.n, g0.u⟩ : Way)


noncomputable def p_impl_LegBack (g0 : Leg) : O (Leg) := some (⟨g0.t, g0.f, w64 (-g0.e), w64 (-g0.n), w64 (-g0.u)⟩ : Leg)


noncomputable def p_impl_WayAdd (a0 : Way) (b0 : Way) : O (Way) := some (⟨w64 (a0.e + b0.e), w64 (a0.n + b0.n), w64 (a0.u + b0.u)⟩ : Way)


noncomputable def p_impl_WayTimes (a0 : Way) (n0 : Int) : O (Way) := some (⟨w64 (a0.e * n0), w64 (a0.n * n0), w64 (a0.u * n0)⟩ : Way)


noncomputable def p_spec_LegBack (g0 : Leg) : O (Leg) := some (⟨g0.t, g0.f, w64 (-g0.e), w64 (-g0.n), w64 (-g0.u)⟩ : Leg)


noncomputable def p_spec_WayAdd (a0 : Way) (b0 : Way) : O (Way) := some (⟨w64 (a0.e + b0.e), w64 (a0.n + b0.n), w64 (a0.u + b0.u)⟩ : Way)


noncomputable def p_spec_WayTimes (a0 : Way) (n0 : Int) : O (Way) := some (⟨w64 (n0 * a0.e), w64 (n0 * a0.n), w64 (n0 * a0.u)⟩ : Way)


noncomputable def p_spec_l1Way (g0 : Leg) : O (Way) := some (⟨g0.e, g0.n, g0.u⟩ : Way)


end Go.Proofs.YtnibfmofkamjoaaDoor
