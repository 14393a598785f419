/- Functions of the program as plain partial programs; no condition. -/
import Derived.Test.YtnibfmofkamjoaaDoorDa
import Derived.Test.YtnibfmofkamjoaaDoorQbv
import Derived.Test.YtnibfmofkamjoaaDoorKw
namespace Go.Proofs.YtnibfmofkamjoaaDoor
open Go
set_option linter.unusedVariables false
set_option linter.unusedSimpArgs false

noncomputable def p_impl_wayText (wy0 : Way) : O (ByteArray) := (p_strconv_Itoa wy0.e).bind fun v3 => need (v3.size + (⟨#[44]⟩ : ByteArray).size ≤ 9223372036854775807) <| (p_strconv_Itoa wy0.n).bind fun v7 => need ((v3 ++ (⟨#[44]⟩ : ByteArray)).size + v7.size ≤ 9223372036854775807) <| need (((v3 ++ (⟨#[44]⟩ : ByteArray)) ++ v7).size + (⟨#[44]⟩ : ByteArray).size ≤ 9223372036854775807) <| (p_strconv_Itoa wy0.u).bind fun v12 => need ((((v3 ++ (⟨#[44]⟩ : ByteArray)) ++ v7) ++ (⟨#[44]⟩ : ByteArray)).size + v12.size ≤ 9223372036854775807) <| some ((((v3 ++ (⟨#[44]⟩ : ByteArray)) ++ v7) ++ (⟨#[44]⟩ : ByteArray)) ++ v12)


noncomputable def p_impl_LegText (g0 : Leg) : O (ByteArray) := (p_impl_LegValid 6 (⟨g0.f, g0.t, g0.e, g0.n, g0.u⟩ : Leg)).bind fun v3 => cond (!v3) (some (⟨#[]⟩ : ByteArray)) ((p_strconv_Itoa g0.f).bind fun v7 => need (v7.size + (⟨#[62]⟩ : ByteArray).size ≤ 9223372036854775807) <| (p_strconv_Itoa g0.t).bind fun v11 => need ((v7 ++ (⟨#[62]⟩ : ByteArray)).size + v11.size ≤ 9223372036854775807) <| need (((v7 ++ (⟨#[62]⟩ : ByteArray)) ++ v11).size + (⟨#[58]⟩ : ByteArray).size ≤ 9223372036854775807) <| (p_impl_legWay (⟨g0.f, g0.t, g0.e, g0.n, g0.u⟩ : Leg)).bind fun v16 => (p_impl_wayText v16).bind fun v19 => need ((((v7 ++ (⟨#[62]⟩ : ByteArray)) ++ v11) ++ (⟨#[58]⟩ : ByteArray)).size + v19.size ≤ 9223372036854775807) <| some ((((v7 ++ (⟨#[62]⟩ : ByteArray)) ++ v11) ++ (⟨#[58]⟩ : ByteArray)) ++ v19))


noncomputable def p_laws_alive  : O (Bool) := (p_impl_LegText (⟨0, 1, 3, (-4), 2⟩ : Leg)).bind fun v2 => cond (v2.toList == (⟨#[48, 62, 49, 58, 51, 44, 45, 52, 44, 50]⟩ : ByteArray).toList) ((p_impl_LegText (⟨0, 0, 0, 0, 0⟩ : Leg)).bind fun v6 => some (v6.toList == (⟨#[]⟩ : ByteArray).toList)) (some false)


end Go.Proofs.YtnibfmofkamjoaaDoor
