/- Functions of the program as plain partial programs; no condition. -/
import Derived.Test.YtpfijnklnljccaaDoorDa
import Derived.Test.YtpfijnklnljccaaDoorQbm
import Derived.Test.YtpfijnklnljccaaDoorQbt
import Derived.Test.YtpfijnklnljccaaDoorQbp
import Derived.Test.YtpfijnklnljccaaDoorQbi
import Derived.Test.YtpfijnklnljccaaDoorQbc
namespace Go.Proofs.YtpfijnklnljccaaDoor
open Go
set_option linter.unusedVariables false
set_option linter.unusedSimpArgs false

noncomputable def p_spec_DrawWiden (code0 : List UInt8) : O (Mine × Int) := (p_spec_l20Open code0).bind fun v4 => (p_spec_l20Mine (⟨v4.b, v4.p⟩ : Rd) 9).bind fun (v7, v8) => (p_spec_l20Airway (⟨v4.b, v8⟩ : Rd) (⟨v7.p, v7.aw⟩ : Mine)).bind fun (v12, v13) => some ((⟨v7.p, v7.aw⟩ : Mine), v12)


noncomputable def p_laws_FnWiden (code0 : List UInt8) : O (Bool) := cond (decide (1048576 < ((code0.length : Nat) : Int))) (some true) ((p_spec_DrawWiden code0).bind fun (v4, v5) => (p_impl_Widen (⟨v4.p, v4.aw⟩ : Mine) v5).bind fun (v10, v11) => (p_spec_Widen (⟨v4.p, v4.aw⟩ : Mine) v5).bind fun (v16, v17) => ((p_laws_sameMine (⟨v10.p, v10.aw⟩ : Mine) (⟨v16.p, v16.aw⟩ : Mine)).bind fun v26 => cond (!v26) (some true) (some (!(v11 == v17)))).bind fun x21 => cond x21 (some false) (cond (!v11) (cond (v10.p == 0) (cond (((v10.aw.length : Nat) : Int) == 0) ((p_laws_alive).bind fun v37 => some v37) (some false)) (some false)) (need (([] : List Airway).length + v10.aw.length ≤ 1073741824) <| idx ((([] : List Airway) ++ v10.aw).length) v5 fun j45 => (p_impl_MineValid (⟨v10.p, v10.aw⟩ : Mine)).bind fun v47 => cond v47 ((p_laws_sameMine (⟨v10.p, (([] : List Airway) ++ v10.aw).set j45 { gx (([] : List Airway) ++ v10.aw) j45 with w := w64 (((gx (([] : List Airway) ++ v10.aw) j45).w) - 1) }⟩ : Mine) (⟨v4.p, v4.aw⟩ : Mine)).bind fun v51 => cond v51 ((p_impl_AirLinked (⟨v10.p, v10.aw⟩ : Mine)).bind fun v55 => (p_impl_AirLinked (⟨v4.p, v4.aw⟩ : Mine)).bind fun v58 => some (v55 == v58)) (some false)) (some false))))


end Go.Proofs.YtpfijnklnljccaaDoor
