/- Functions of the program as plain partial programs; no condition. -/
import Derived.Test.YtkedammjdldloaaDa
namespace Go.Proofs.Ytkedammjdldloaa
open Go
set_option linter.unusedVariables false
set_option linter.unusedSimpArgs false

noncomputable def p_laws_szAirwayS (a0 : List Airway) (left0 : Int) : O (Int) := cond (decide ((w64 (left0 - ((a0.length : Nat) : Int))) < 0)) (some (-1)) (some (w64 (left0 - ((a0.length : Nat) : Int))))


noncomputable def p_laws_szMine (a0 : Mine) (left0 : Int) : O (Int) := (p_laws_szAirwayS a0.aw left0).bind fun v4 => cond (decide (v4 < 0)) (some (-1)) (some v4)


noncomputable def p_laws_toAirway (a0 : Airway) : O (Airway) := some (⟨a0.f, a0.t, a0.w⟩ : Airway)


noncomputable def p_laws_toAirwayS_L0 (a0 : List Airway) (j2 : Nat) (z : Int × List Airway) : O (Lp (Int × List Airway) (List Airway)) := match z with | (i8, l9) => cond (decide (i8 < ((a0.length : Nat) : Int))) (idx a0.length i8 fun j15 => (p_laws_toAirway (gx a0 j15)).bind fun v17 => idx j2 i8 fun j19 => some (.next (w64 (i8 + 1), l9.set j19 v17))) (some (.out l9))
noncomputable def p_laws_toAirwayS (a0 : List Airway) : O (List Airway) := sized ((a0.length : Nat) : Int) fun j2 => (loop (p_laws_toAirwayS_L0 a0 j2) (0, List.replicate j2 (⟨0, 0, 0⟩ : Airway))).bind fun l4 => some l4


noncomputable def p_laws_toMine (a0 : Mine) : O (Mine) := (p_laws_toAirwayS a0.aw).bind fun v6 => some (⟨a0.p, v6⟩ : Mine)


noncomputable def p_laws_eqAirway (a0 : Airway) (b0 : Airway) : O (Bool) := cond (a0.f != b0.f) (some false) (cond (a0.t != b0.t) (some false) (cond (a0.w != b0.w) (some false) (some true)))


noncomputable def p_laws_eqAirwayS_L0 (a0 : List Airway) (b0 : List Airway) (i7 : Int) : O (Lp Int (Unit ⊕ Bool)) := cond (decide (i7 < ((a0.length : Nat) : Int))) (idx a0.length i7 fun j13 => idx b0.length i7 fun j14 => (p_laws_eqAirway (gx a0 j13) (gx b0 j14)).bind fun v16 => cond (!v16) (some (.out (.inr false))) (some (.next (w64 (i7 + 1))))) (some (.out (.inl ())))
noncomputable def p_laws_eqAirwayS (a0 : List Airway) (b0 : List Airway) : O (Bool) := cond (((a0.length : Nat) : Int) != ((b0.length : Nat) : Int)) (some false) ((loop (p_laws_eqAirwayS_L0 a0 b0) 0 : O (Unit ⊕ Bool)).bind fun | .inr w => some w | .inl _ => some true)


noncomputable def p_laws_eqMine (a0 : Mine) (b0 : Mine) : O (Bool) := cond (a0.p != b0.p) (some false) ((p_laws_eqAirwayS a0.aw b0.aw).bind fun v7 => cond (!v7) (some false) (some true))


noncomputable def p_laws_markAirwayS_L0 (a0 : List Airway) (z : Int × Int × List Airway) : O (Lp (Int × Int × List Airway) (Int × List Airway)) := match z with | (k7, i8, l9) => cond (decide (i8 < ((a0.length : Nat) : Int))) (idx a0.length i8 fun j15 => some (.next (w64 ((w64 ((w64 (k7 + 1)) + 1)) + 1), w64 (i8 + 1), ((l9.set j15 { gx l9 j15 with f := k7 }).set j15 { gx (l9.set j15 { gx l9 j15 with f := k7 }) j15 with t := w64 (k7 + 1) }).set j15 { gx ((l9.set j15 { gx l9 j15 with f := k7 }).set j15 { gx (l9.set j15 { gx l9 j15 with f := k7 }) j15 with t := w64 (k7 + 1) }) j15 with w := w64 ((w64 (k7 + 1)) + 1) }))) (some (.out (k7, l9)))
noncomputable def p_laws_markAirwayS (a0 : List Airway) (k0 : Int) : O (Int × List Airway) := (loop (p_laws_markAirwayS_L0 a0) (k0, 0, a0)).bind fun (k2, l3) => some (k2, l3)


noncomputable def p_laws_markMine (a0 : Mine) (k0 : Int) : O (Int × List Airway) := (p_laws_markAirwayS a0.aw k0).bind fun (v4, v5) => some (v4, v5)


end Go.Proofs.Ytkedammjdldloaa
