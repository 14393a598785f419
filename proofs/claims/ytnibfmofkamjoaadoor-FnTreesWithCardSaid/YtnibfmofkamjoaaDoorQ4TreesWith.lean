/- Functions of the program as plain partial programs; no condition. -/
import Derived.Test.YtnibfmofkamjoaaDoorDa
import Derived.Test.YtnibfmofkamjoaaDoorQbg
import Derived.Test.YtnibfmofkamjoaaDoorQbt
import Derived.Test.YtnibfmofkamjoaaDoorQbn
import Derived.Test.YtnibfmofkamjoaaDoorKx
namespace Go.Proofs.YtnibfmofkamjoaaDoor
open Go
set_option linter.unusedVariables false
set_option linter.unusedSimpArgs false

noncomputable def p_spec_DrawTreesWith (code0 : List UInt8) : O (Survey × Int) := (p_spec_l20Open code0).bind fun v4 => (p_spec_l20Linked (⟨v4.b, v4.p⟩ : Rd) 9).bind fun (v7, v8) => (p_spec_l20Index (⟨v4.b, v8⟩ : Rd) (⟨v7.st, v7.legs⟩ : Survey)).bind fun (v12, v13) => some ((⟨v7.st, v7.legs⟩ : Survey), v12)


noncomputable def p_laws_FnTreesWith_L0 (v4 : Survey) (z : Int × Int) : O (Lp (Int × Int) Int) := match z with | (sum38, k39) => cond (decide (k39 < ((v4.legs.length : Nat) : Int))) ((p_impl_TreesWith (⟨v4.st, v4.legs⟩ : Survey) k39).bind fun v46 => some (.next (w64 (sum38 + v46), w64 (k39 + 1)))) (some (.out sum38))
noncomputable def p_laws_FnTreesWith (code0 : List UInt8) : O (Bool) := cond (decide (1048576 < ((code0.length : Nat) : Int))) (some true) ((p_spec_DrawTreesWith code0).bind fun (v4, v5) => (p_impl_TreesWith (⟨v4.st, v4.legs⟩ : Survey) v5).bind fun v10 => (p_spec_TreesWith (⟨v4.st, v4.legs⟩ : Survey) v5).bind fun v13 => cond (v10 != v13) (some false) (cond (decide (v10 < 0)) (cond (v10 == (-1)) ((p_laws_alive).bind fun v19 => some v19) (some false)) (cut v4.legs.length 0 v5 fun j22 j23 => need (([] : List Leg).length + ((v4.legs.drop j22).take (j23 - j22)).length ≤ 1073741824) <| cut v4.legs.length (w64 (v5 + 1)) ((v4.legs.length : Nat) : Int) fun j27 j28 => need ((([] : List Leg) ++ ((v4.legs.drop j22).take (j23 - j22))).length + ((v4.legs.drop j27).take (j28 - j27)).length ≤ 1073741824) <| (loop (p_laws_FnTreesWith_L0 v4) (0, 0)).bind fun sum34 => (p_impl_TreesMany (⟨v4.st, v4.legs⟩ : Survey)).bind fun v52 => (p_impl_TreesMany (⟨v4.st, (([] : List Leg) ++ ((v4.legs.drop j22).take (j23 - j22))) ++ ((v4.legs.drop j27).take (j28 - j27))⟩ : Survey)).bind fun v55 => cond (v10 == (w64 (v52 - v55))) (some (sum34 == (w64 ((w64 (v4.st - 1)) * v52)))) (some false))))


end Go.Proofs.YtnibfmofkamjoaaDoor
