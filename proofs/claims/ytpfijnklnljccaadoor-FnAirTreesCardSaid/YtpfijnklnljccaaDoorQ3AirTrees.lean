/- Functions of the program as plain partial programs; no condition. -/
import Derived.Test.YtpfijnklnljccaaDoorDa
import Derived.Test.YtpfijnklnljccaaDoorQbm
import Derived.Test.YtpfijnklnljccaaDoorQbt
import Derived.Test.YtpfijnklnljccaaDoorQbi
import Derived.Test.YtpfijnklnljccaaDoorQba
namespace Go.Proofs.YtpfijnklnljccaaDoor
open Go
set_option linter.unusedVariables false
set_option linter.unusedSimpArgs false

noncomputable def p_spec_DrawAirTrees (code0 : List UInt8) : O (Mine) := (p_spec_l20Open code0).bind fun v4 => (p_spec_l20Mine (⟨v4.b, v4.p⟩ : Rd) 9).bind fun (v7, v8) => some (⟨v7.p, v7.aw⟩ : Mine)


noncomputable def p_laws_FnAirTrees_L0 (v4 : Mine) (z : Int × List Leg) : O (Lp (Int × List Leg) (List Leg)) := match z with | (k24, legs25) => cond (decide (k24 < ((v4.aw.length : Nat) : Int))) (idx v4.aw.length k24 fun j32 => need (legs25.length + ([(⟨(gx v4.aw j32).f, (gx v4.aw j32).t, 0, 0, 0⟩ : Leg)] : List Leg).length ≤ 1073741824) <| some (.next (w64 (k24 + 1), legs25 ++ ([(⟨(gx v4.aw j32).f, (gx v4.aw j32).t, 0, 0, 0⟩ : Leg)] : List Leg)))) (some (.out legs25))
noncomputable def p_laws_FnAirTrees_L2 (v4 : Mine) (v42 : List (List Int)) (k49 : Int) (z : Int × Int) : O (Lp (Int × Int) (Int ⊕ (Lp (Int × Int) (Int ⊕ Bool)))) := match z with | (product59, j60) => idx v42.length k49 fun j65 => cond (decide (j60 < (((gx v42 j65).length : Nat) : Int))) ((idx ((gx v42 j65).length) j60 fun j71 => cond (decide ((gx (gx v42 j65) j71) < 0)) (some true) (some (decide (((v4.aw.length : Nat) : Int) ≤ (gx (gx v42 j65) j71))))).bind fun x67 => cond x67 (some (.out (.inr (.out (.inr false))))) (idx v42.length k49 fun j77 => idx ((gx v42 j77).length) j60 fun j78 => idx v4.aw.length (gx (gx v42 j77) j78) fun j79 => some (.next (w64 (product59 * ((gx v4.aw j79).w)), w64 (j60 + 1))))) (some (.out (.inl product59)))
noncomputable def p_laws_FnAirTrees_L1 (v4 : Mine) (v42 : List (List Int)) (z : Int × Int) : O (Lp (Int × Int) (Int ⊕ Bool)) := match z with | (sum48, k49) => cond (decide (k49 < ((v42.length : Nat) : Int))) ((loop (p_laws_FnAirTrees_L2 v4 v42 k49) (1, 0) : O (Int ⊕ (Lp (Int × Int) (Int ⊕ Bool)))).bind fun | .inr w => some w | .inl product55 => some (.next (w64 (sum48 + product55), w64 (k49 + 1)))) (some (.out (.inl sum48)))
noncomputable def p_laws_FnAirTrees_L3 (v4 : Mine) (v8 : Int) (k89 : Int) : O (Lp Int (Unit ⊕ Bool)) := cond (decide (k89 < ((v4.aw.length : Nat) : Int))) ((p_impl_Widen (⟨v4.p, v4.aw⟩ : Mine) k89).bind fun (v96, v97) => cond v97 ((p_impl_AirTrees (⟨v96.p, v96.aw⟩ : Mine)).bind fun v103 => idx v4.aw.length k89 fun j105 => (p_impl_AirTreesWith (⟨v4.p, v4.aw⟩ : Mine) k89).bind fun v107 => cond ((w64 ((w64 (v103 - v8)) * ((gx v4.aw j105).w))) != v107) (some (.out (.inr false))) (some (.next (w64 (k89 + 1))))) (some (.next (w64 (k89 + 1))))) (some (.out (.inl ())))
noncomputable def p_laws_FnAirTrees (code0 : List UInt8) : O (Bool) := cond (decide (1048576 < ((code0.length : Nat) : Int))) (some true) ((p_spec_DrawAirTrees code0).bind fun v4 => (p_impl_AirTrees (⟨v4.p, v4.aw⟩ : Mine)).bind fun v8 => (p_spec_AirTrees (⟨v4.p, v4.aw⟩ : Mine)).bind fun v11 => cond (v8 != v11) (some false) (cond (decide (v8 < 0)) (cond (v8 == (-1)) ((p_laws_alive).bind fun v17 => some v17) (some false)) ((loop (p_laws_FnAirTrees_L0 v4) (0, ([] : List Leg))).bind fun legs20 => (p_impl_TreesAll (⟨v4.p, legs20⟩ : Survey)).bind fun v42 => (loop (p_laws_FnAirTrees_L1 v4 v42) (0, 0) : O (Int ⊕ Bool)).bind fun | .inr w => some w | .inl sum44 => (loop (p_laws_FnAirTrees_L3 v4 v8) 0 : O (Unit ⊕ Bool)).bind fun | .inr w => some w | .inl _ => some (sum44 == v8))))


end Go.Proofs.YtpfijnklnljccaaDoor
