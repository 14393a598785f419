/- Functions of the program as plain partial programs; no condition. -/
import Derived.Test.YtkedammjdldloaaDa
namespace Go.Proofs.Ytkedammjdldloaa
open Go
set_option linter.unusedVariables false
set_option linter.unusedSimpArgs false

noncomputable def p_laws_szLegS (a0 : List Leg) (left0 : Int) : O (Int) := cond (decide ((w64 (left0 - ((a0.length : Nat) : Int))) < 0)) (some (-1)) (some (w64 (left0 - ((a0.length : Nat) : Int))))


noncomputable def p_laws_szSurvey (a0 : Survey) (left0 : Int) : O (Int) := (p_laws_szLegS a0.legs left0).bind fun v4 => cond (decide (v4 < 0)) (some (-1)) (some v4)


noncomputable def p_laws_toLeg (a0 : Leg) : O (Leg) := some (⟨a0.f, a0.t, a0.e, a0.n, a0.u⟩ : Leg)


noncomputable def p_laws_toLegS_L0 (a0 : List Leg) (j2 : Nat) (z : Int × List Leg) : O (Lp (Int × List Leg) (List Leg)) := match z with | (i8, l9) => cond (decide (i8 < ((a0.length : Nat) : Int))) (idx a0.length i8 fun j15 => (p_laws_toLeg (gx a0 j15)).bind fun v17 => idx j2 i8 fun j19 => some (.next (w64 (i8 + 1), l9.set j19 v17))) (some (.out l9))
noncomputable def p_laws_toLegS (a0 : List Leg) : O (List Leg) := sized ((a0.length : Nat) : Int) fun j2 => (loop (p_laws_toLegS_L0 a0 j2) (0, List.replicate j2 (⟨0, 0, 0, 0, 0⟩ : Leg))).bind fun l4 => some l4


noncomputable def p_laws_toSurvey (a0 : Survey) : O (Survey) := (p_laws_toLegS a0.legs).bind fun v6 => some (⟨a0.st, v6⟩ : Survey)


noncomputable def p_laws_eqLeg (a0 : Leg) (b0 : Leg) : O (Bool) := cond (a0.f != b0.f) (some false) (cond (a0.t != b0.t) (some false) (cond (a0.e != b0.e) (some false) (cond (a0.n != b0.n) (some false) (cond (a0.u != b0.u) (some false) (some true)))))


noncomputable def p_laws_eqLegS_L0 (a0 : List Leg) (b0 : List Leg) (i7 : Int) : O (Lp Int (Unit ⊕ Bool)) := cond (decide (i7 < ((a0.length : Nat) : Int))) (idx a0.length i7 fun j13 => idx b0.length i7 fun j14 => (p_laws_eqLeg (gx a0 j13) (gx b0 j14)).bind fun v16 => cond (!v16) (some (.out (.inr false))) (some (.next (w64 (i7 + 1))))) (some (.out (.inl ())))
noncomputable def p_laws_eqLegS (a0 : List Leg) (b0 : List Leg) : O (Bool) := cond (((a0.length : Nat) : Int) != ((b0.length : Nat) : Int)) (some false) ((loop (p_laws_eqLegS_L0 a0 b0) 0 : O (Unit ⊕ Bool)).bind fun | .inr w => some w | .inl _ => some true)


noncomputable def p_laws_eqSurvey (a0 : Survey) (b0 : Survey) : O (Bool) := cond (a0.st != b0.st) (some false) ((p_laws_eqLegS a0.legs b0.legs).bind fun v7 => cond (!v7) (some false) (some true))


noncomputable def p_laws_markLegS_L0 (a0 : List Leg) (z : Int × Int × List Leg) : O (Lp (Int × Int × List Leg) (Int × List Leg)) := match z with | (k7, i8, l9) => cond (decide (i8 < ((a0.length : Nat) : Int))) (idx a0.length i8 fun j15 => some (.next (w64 ((w64 ((w64 ((w64 ((w64 (k7 + 1)) + 1)) + 1)) + 1)) + 1), w64 (i8 + 1), ((((l9.set j15 { gx l9 j15 with f := k7 }).set j15 { gx (l9.set j15 { gx l9 j15 with f := k7 }) j15 with t := w64 (k7 + 1) }).set j15 { gx ((l9.set j15 { gx l9 j15 with f := k7 }).set j15 { gx (l9.set j15 { gx l9 j15 with f := k7 }) j15 with t := w64 (k7 + 1) }) j15 with e := w64 ((w64 (k7 + 1)) + 1) }).set j15 { gx (((l9.set j15 { gx l9 j15 with f := k7 }).set j15 { gx (l9.set j15 { gx l9 j15 with f := k7 }) j15 with t := w64 (k7 + 1) }).set j15 { gx ((l9.set j15 { gx l9 j15 with f := k7 }).set j15 { gx (l9.set j15 { gx l9 j15 with f := k7 }) j15 with t := w64 (k7 + 1) }) j15 with e := w64 ((w64 (k7 + 1)) + 1) }) j15 with n := w64 ((w64 ((w64 (k7 + 1)) + 1)) + 1) }).set j15 { gx ((((l9.set j15 { gx l9 j15 with f := k7 }).set j15 { gx (l9.set j15 { gx l9 j15 with f := k7 }) j15 with t := w64 (k7 + 1) }).set j15 { gx ((l9.set j15 { gx l9 j15 with f := k7 }).set j15 { gx (l9.set j15 { gx l9 j15 with f := k7 }) j15 with t := w64 (k7 + 1) }) j15 with e := w64 ((w64 (k7 + 1)) + 1) }).set j15 { gx (((l9.set j15 { gx l9 j15 with f := k7 }).set j15 { gx (l9.set j15 { gx l9 j15 with f := k7 }) j15 with t := w64 (k7 + 1) }).set j15 { gx ((l9.set j15 { gx l9 j15 with f := k7 }).set j15 { gx (l9.set j15 { gx l9 j15 with f := k7 }) j15 with t := w64 (k7 + 1) }) j15 with e := w64 ((w64 (k7 + 1)) + 1) }) j15 with n := w64 ((w64 ((w64 (k7 + 1)) + 1)) + 1) }) j15 with u := w64 ((w64 ((w64 ((w64 (k7 + 1)) + 1)) + 1)) + 1) }))) (some (.out (k7, l9)))
noncomputable def p_laws_markLegS (a0 : List Leg) (k0 : Int) : O (Int × List Leg) := (loop (p_laws_markLegS_L0 a0) (k0, 0, a0)).bind fun (k2, l3) => some (k2, l3)


noncomputable def p_laws_markSurvey (a0 : Survey) (k0 : Int) : O (Int × List Leg) := (p_laws_markLegS a0.legs k0).bind fun (v4, v5) => some (v4, v5)


end Go.Proofs.Ytkedammjdldloaa
