/- Functions of the program as plain partial programs; no condition. -/
import Derived.Test.YtpfijnklnljccaaDoorDa
import Derived.Test.YtpfijnklnljccaaDoorQdm
import Derived.Test.YtpfijnklnljccaaDoorQt
import Derived.Test.YtpfijnklnljccaaDoorQw
namespace Go.Proofs.YtpfijnklnljccaaDoor
open Go
set_option linter.unusedVariables false
set_option linter.unusedSimpArgs false

noncomputable def p_spec_DrawMineValid (code0 : List UInt8) : O (Mine) := (p_spec_l20Open code0).bind fun v4 => (p_spec_l20Mine (⟨v4.b, v4.p⟩ : Rd) 2).bind fun (v7, v8) => some (⟨v7.p, v7.aw⟩ : Mine)


noncomputable def p_laws_FnMineValid (code0 : List UInt8) : O (Bool) := cond (decide (1048576 < ((code0.length : Nat) : Int))) (some true) ((p_spec_DrawMineValid code0).bind fun v4 => (p_impl_MineValid (⟨v4.p, v4.aw⟩ : Mine)).bind fun v8 => (p_spec_MineValid (⟨v4.p, v4.aw⟩ : Mine)).bind fun v11 => cond (!(v8 == v11)) (some false) (cond (!v8) (need (([] : List Airway).length + v4.aw.length ≤ 1073741824) <| need ((([] : List Airway) ++ v4.aw).length + ([(⟨0, 0, 1⟩ : Airway)] : List Airway).length ≤ 1073741824) <| (p_impl_MineValid (⟨v4.p, (([] : List Airway) ++ v4.aw) ++ ([(⟨0, 0, 1⟩ : Airway)] : List Airway)⟩ : Mine)).bind fun v24 => cond (!v24) ((p_laws_alive).bind fun v28 => some v28) (some false)) (cond (((v4.aw.length : Nat) : Int) == 0) (need (([] : List Airway).length + v4.aw.length ≤ 1073741824) <| need ((([] : List Airway) ++ v4.aw).length + ([(⟨0, 0, 1⟩ : Airway)] : List Airway).length ≤ 1073741824) <| (p_impl_MineValid (⟨v4.p, (([] : List Airway) ++ v4.aw) ++ ([(⟨0, 0, 1⟩ : Airway)] : List Airway)⟩ : Mine)).bind fun v42 => cond (!v42) ((p_laws_alive).bind fun v46 => some v46) (some false)) (cut v4.aw.length 1 ((v4.aw.length : Nat) : Int) fun j50 j51 => (p_impl_MineValid (⟨v4.p, (v4.aw.drop j50).take (j51 - j50)⟩ : Mine)).bind fun v53 => cond v53 (need (([] : List Airway).length + v4.aw.length ≤ 1073741824) <| need ((([] : List Airway) ++ v4.aw).length + ([(⟨0, 0, 1⟩ : Airway)] : List Airway).length ≤ 1073741824) <| (p_impl_MineValid (⟨v4.p, (([] : List Airway) ++ v4.aw) ++ ([(⟨0, 0, 1⟩ : Airway)] : List Airway)⟩ : Mine)).bind fun v65 => cond (!v65) ((p_laws_alive).bind fun v69 => some v69) (some false)) (some false)))))


end Go.Proofs.YtpfijnklnljccaaDoor
