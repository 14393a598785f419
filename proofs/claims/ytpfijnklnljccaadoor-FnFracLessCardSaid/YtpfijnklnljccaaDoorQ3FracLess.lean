/- Functions of the program as plain partial programs; no condition. -/
import Derived.Test.YtpfijnklnljccaaDoorDa
import Derived.Test.YtpfijnklnljccaaDoorQr
import Derived.Test.YtpfijnklnljccaaDoorQt
import Derived.Test.YtpfijnklnljccaaDoorQf
namespace Go.Proofs.YtpfijnklnljccaaDoor
open Go
set_option linter.unusedVariables false
set_option linter.unusedSimpArgs false

noncomputable def p_spec_DrawFracLess (code0 : List UInt8) : O (Frac × Frac) := (p_spec_l20Open code0).bind fun v5 => (p_spec_l20Rd_pick (⟨v5.b, v5.p⟩ : Rd) 90).bind fun (v8, v9) => (p_spec_l20Rd_pick (⟨v5.b, v9⟩ : Rd) 40).bind fun (v12, v13) => (p_spec_l20Rd_pick (⟨v5.b, v13⟩ : Rd) 20).bind fun (v16, v17) => (p_spec_l20Rd_pick (⟨v5.b, v17⟩ : Rd) 4).bind fun (v21, v22) => cond (v21 == 0) (some ((⟨w64 (v8 - 40), w64 ((w64 (1 + v12)) - (w64 ((w64 (Int.tdiv v16 19)) * 40)))⟩ : Frac), (⟨w64 (2 * (w64 (v8 - 40))), w64 (2 * (w64 ((w64 (1 + v12)) - (w64 ((w64 (Int.tdiv v16 19)) * 40)))))⟩ : Frac))) ((p_spec_l20Rd_pick (⟨v5.b, v22⟩ : Rd) 90).bind fun (v26, v27) => (p_spec_l20Rd_pick (⟨v5.b, v27⟩ : Rd) 40).bind fun (v30, v31) => some ((⟨w64 (v8 - 40), w64 ((w64 (1 + v12)) - (w64 ((w64 (Int.tdiv v16 19)) * 40)))⟩ : Frac), (⟨w64 (v26 - 40), w64 (1 + v30)⟩ : Frac)))


noncomputable def p_laws_FnFracLess (code0 : List UInt8) : O (Bool) := cond (decide (1048576 < ((code0.length : Nat) : Int))) (some true) ((p_spec_DrawFracLess code0).bind fun (v4, v5) => (p_impl_FracLess (⟨v4.num, v4.den⟩ : Frac) (⟨v5.num, v5.den⟩ : Frac)).bind fun v11 => (p_spec_FracLess (⟨v4.num, v4.den⟩ : Frac) (⟨v5.num, v5.den⟩ : Frac)).bind fun v14 => cond (!(v11 == v14)) (some false) (cond v11 ((p_impl_FracLess (⟨v5.num, v5.den⟩ : Frac) (⟨v4.num, v4.den⟩ : Frac)).bind fun v19 => cond (!v19) ((p_impl_FracLess (⟨v4.num, v4.den⟩ : Frac) (⟨v4.num, v4.den⟩ : Frac)).bind fun v23 => cond (!v23) ((p_impl_FracLess (⟨v4.num, v4.den⟩ : Frac) (⟨w64 (2 * v4.num), w64 (2 * v4.den)⟩ : Frac)).bind fun v27 => cond (!v27) ((p_laws_alive).bind fun v31 => some v31) (some false)) (some false)) (some false)) ((p_impl_FracLess (⟨v4.num, v4.den⟩ : Frac) (⟨v4.num, v4.den⟩ : Frac)).bind fun v34 => cond (!v34) ((p_impl_FracLess (⟨v4.num, v4.den⟩ : Frac) (⟨w64 (2 * v4.num), w64 (2 * v4.den)⟩ : Frac)).bind fun v38 => cond (!v38) ((p_laws_alive).bind fun v42 => some v42) (some false)) (some false))))


end Go.Proofs.YtpfijnklnljccaaDoor
