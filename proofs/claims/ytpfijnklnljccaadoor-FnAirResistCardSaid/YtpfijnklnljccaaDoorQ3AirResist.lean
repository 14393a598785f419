/- Functions of the program as plain partial programs; no condition. -/
import Derived.Test.YtpfijnklnljccaaDoorDa
import Derived.Test.YtpfijnklnljccaaDoorQbm
import Derived.Test.YtpfijnklnljccaaDoorQbt
import Derived.Test.YtpfijnklnljccaaDoorQbs
import Derived.Test.YtpfijnklnljccaaDoorQbi
namespace Go.Proofs.YtpfijnklnljccaaDoor
open Go
set_option linter.unusedVariables false
set_option linter.unusedSimpArgs false

noncomputable def p_spec_DrawAirResist (code0 : List UInt8) : O (Mine × Int × Int) := (p_spec_l20Open code0).bind fun v4 => (p_spec_l20Blown (⟨v4.b, v4.p⟩ : Rd)).bind fun (v7, v8, v9, v10) => some ((⟨v7.p, v7.aw⟩ : Mine), v8, v9)


noncomputable def p_laws_FnAirResist_L0 (v4 : Mine) (v5 : Int) (v6 : Int) (v12 : Frac) (c40 : Int) : O (Lp Int (Unit ⊕ Bool)) := cond (decide (c40 < v4.p)) ((p_impl_AirResist (⟨v4.p, v4.aw⟩ : Mine) v5 c40).bind fun (v47, v48) => (p_impl_AirResist (⟨v4.p, v4.aw⟩ : Mine) c40 v6).bind fun (v53, v54) => cond (decide ((w64 (v47.num + v53.num)) < v12.num)) (some (.out (.inr false))) (cond (v47.den != v12.den) (some (.out (.inr false))) (some (.next (w64 (c40 + 1)))))) (some (.out (.inl ())))
noncomputable def p_laws_FnAirResist_L1 (v4 : Mine) (v5 : Int) (v6 : Int) (v12 : Frac) (k66 : Int) : O (Lp Int (Unit ⊕ Bool)) := cond (decide (k66 < ((v4.aw.length : Nat) : Int))) ((p_impl_Widen (⟨v4.p, v4.aw⟩ : Mine) k66).bind fun (v73, v74) => (p_impl_AirResist (⟨v73.p, v73.aw⟩ : Mine) v5 v6).bind fun (v79, v80) => cond v74 ((p_impl_FracLess (⟨v12.num, v12.den⟩ : Frac) (⟨v79.num, v79.den⟩ : Frac)).bind fun v86 => cond v86 (some (.out (.inr false))) (some (.next (w64 (k66 + 1))))) (some (.next (w64 (k66 + 1))))) (some (.out (.inl ())))
noncomputable def p_laws_FnAirResist (code0 : List UInt8) : O (Bool) := cond (decide (1048576 < ((code0.length : Nat) : Int))) (some true) ((p_spec_DrawAirResist code0).bind fun (v4, v5, v6) => (p_impl_AirResist (⟨v4.p, v4.aw⟩ : Mine) v5 v6).bind fun (v12, v13) => (p_spec_AirResist (⟨v4.p, v4.aw⟩ : Mine) v5 v6).bind fun (v18, v19) => (cond (!((v12.num == v18.num) && (v12.den == v18.den))) (some true) (some (!(v13 == v19)))).bind fun x23 => cond x23 (some false) (cond (!v13) (cond ((v12.num == 0) && (v12.den == 0)) ((p_laws_alive).bind fun v35 => some v35) (some false)) ((loop (p_laws_FnAirResist_L0 v4 v5 v6 v12) 0 : O (Unit ⊕ Bool)).bind fun | .inr w => some w | .inl _ => (loop (p_laws_FnAirResist_L1 v4 v5 v6 v12) 0 : O (Unit ⊕ Bool)).bind fun | .inr w => some w | .inl _ => (p_impl_AirResist (⟨v4.p, v4.aw⟩ : Mine) v6 v5).bind fun (v93, v94) => cond ((v93.num == v12.num) && (v93.den == v12.den)) (cond ((v12.num == 0) == (v5 == v6)) (cond (decide (0 ≤ v12.num)) ((p_impl_AirTrees (⟨v4.p, v4.aw⟩ : Mine)).bind fun v102 => some (v12.den == v102)) (some false)) (some false)) (some false))))


end Go.Proofs.YtpfijnklnljccaaDoor
