/- Functions of the program as plain partial programs; no condition. -/
import Derived.Test.YtkhjbfngafebeaaZDa
namespace Go.Proofs.Ytkhjbfngafebeaa
open Go
set_option linter.unusedVariables false
set_option linter.unusedSimpArgs false

noncomputable def p_laws_szLegS (a0 : List Leg) (left0 : Int) : O (Int) := cond (decide ((w64 (left0 - ((a0.length : Nat) : Int))) < 0)) (some (-1)) (some (w64 (left0 - ((a0.length : Nat) : Int))))

noncomputable def p_laws_szSurvey (a0 : Survey) (left0 : Int) : O (Int) := (p_laws_szLegS a0.legs left0).bind fun v4 => cond (decide (v4 < 0)) (some (-1)) (some v4)

noncomputable def p_laws_toLeg (a0 : Leg) : O (Leg) := some (⟨a0.f, a0.t, a0.e, a0.n, a0.u⟩ : Leg)

noncomputable def p_laws_toLegS_L0 (a0 : List Leg) (j2 : Nat) (z : Int × List Leg) : O (Lp (Int × List Leg) (List Leg)) := match z with | (i8, l9) => cond (decide (i8 < ((a0.length : Nat) : Int))) (idx a0.length i8 fun j15 => (p_laws_toLeg (gx a0 j15)).bind fun v17 => idx j2 i8 fun j19 => some (.next (w64 (i8 + 1), l9.set j19 v17))) (some (.out l9))
noncomputable def p_laws_toLegS (a0 : List Leg) : O (List Leg) := sized ((a0.length : Nat) : Int) fun j2 => (loop (p_laws_toLegS_L0 a0 j2) (0, List.replicate j2 (⟨0, 0, 0, 0, 0⟩ : Leg))).bind fun l4 => some l4

noncomputable def p_laws_toSurvey (a0 : Survey) : O (Survey) := (p_laws_toLegS a0.legs).bind fun v6 => some (⟨a0.st, v6⟩ : Survey)

noncomputable def p_laws_eqLeg (a0 : Leg) (b0 : Leg) : O (Bool) := cond (a0.f != b0.f) (some false) (cond (a0.t != b0.t) (some false) (cond (a0.e != b0.e) (some false) (cond (a0.n != b0.n) (some false) (cond (a0.u != b0.u) (some false) (some true)))))

noncomputable def p_laws_eqLegS_L0 (a0 : List Leg) (b0 : List Leg) (i7 : Int) : O (Lp Int (Unit ⊕ Bool)) := cond (decide (i7 < ((a0.length : Nat) : Int))) (idx a0.length i7 fun j13 => idx b0.length i7 fun j14 => (p_laws_eqLeg (gx a0 j13) (gx b0 j14)).bind fun v16 => cond (!v16) (some (.out (.inr false))) (some (.next (w64 (i7 + 1))))) (some (.out (.inl ())))
noncomputable def p_laws_eqLegS (a0 : List Leg) (b0 : List Leg) : O (Bool) := cond (((a0.length : Nat) : Int) != ((b0.length : Nat) : Int)) (some false) ((loop (p_laws_eqLegS_L0 a0 b0) 0 : O (Unit ⊕ Bool)).bind fun | .inr w => some w | .inl _ => some true)

noncomputable def p_laws_eqSurvey (a0 : Survey) (b0 : Survey) : O (Bool) := cond (a0.st != b0.st) (some false) ((p_laws_eqLegS a0.legs b0.legs).bind fun v7 => cond (!v7) (some false) (some true))

noncomputable def p_laws_markLegS_L0 (a0 : List Leg) (z : Int × Int × List Leg) : O (Lp (Int × Int × List Leg) (Int × List Leg)) := match z with | (k7, i8, l9) => cond (decide (i8 < ((a0.length : Nat) : Int))) (idx a0.length i8 fun j15 => some (.next (w64 ((w64 ((w64 ((w64 ((w64 (k7 + 1)) + 1)) + 1)) + 1)) + 1), w64 (i8 + 1), ((((l9.set j15 { gx l9 j15 with f := k7 }).set j15 { gx (l9.set j15 { gx l9 j15 with f := k7 }) j15 with t := w64 (k7 + 1) }).set j15 { gx ((l9.set j15 { gx l9 j15 with f := k7 }).set j15 { gx (l9.set j15 { gx l9 j15 with f := k7 }) j15 with t := w64 (k7 + 1) }) j15 with e := w64 ((w64 (k7 + 1)) + 1) }).set j15 { gx (((l9.set j15 { gx l9 j15 with f := k7 }).set j15 { gx (l9.set j15 { gx l9 j15 with f := k7 }) j15 with t := w64 (k7 + 1) }).set j15 { gx ((l9.set j15 { gx l9 j15 with f := k7 }).set j15 { gx (l9.set j15 { gx l9 j15 with f := k7 }) j15 with t := w64 (k7 + 1) }) j15 with e := w64 ((w64 (k7 + 1)) + 1) }) j15 with n := w64 ((w64 ((w64 (k7 + 1)) + 1)) + 1) }).set j15 { gx ((((l9.set j15 { gx l9 j15 with f := k7 }).set j15 { gx (l9.set j15 { gx l9 j15 with f := k7 }) j15 with t := w64 (k7 + 1) }).set j15 { gx ((l9.set j15 { gx l9 j15 with f := k7 }).set j15 { gx (l9.set j15 { gx l9 j15 with f := k7 }) j15 with t := w64 (k7 + 1) }) j15 with e := w64 ((w64 (k7 + 1)) + 1) }).set j15 { gx (((l9.set j15 { gx l9 j15 with f := k7 }).set j15 { gx (l9.set j15 { gx l9 j15 with f := k7 }) j15 with t := w64 (k7 + 1) }).set j15 { gx ((l9.set j15 { gx l9 j15 with f := k7 }).set j15 { gx (l9.set j15 { gx l9 j15 with f := k7 }) j15 with t := w64 (k7 + 1) }) j15 with e := w64 ((w64 (k7 + 1)) + 1) }) j15 with n := w64 ((w64 ((w64 (k7 + 1)) + 1)) + 1) }) j15 with u := w64 ((w64 ((w64 ((w64 (k7 + 1)) + 1)) + 1)) + 1) }))) (some (.out (k7, l9)))
noncomputable def p_laws_markLegS (a0 : List Leg) (k0 : Int) : O (Int × List Leg) := (loop (p_laws_markLegS_L0 a0) (k0, 0, a0)).bind fun (k2, l3) => some (k2, l3)

noncomputable def p_laws_markSurvey (a0 : Survey) (k0 : Int) : O (Int × List Leg) := (p_laws_markLegS a0.legs k0).bind fun (v4, v5) => some (v4, v5)

end Go.Proofs.Ytkhjbfngafebeaa
namespace Go.Proofs.Ytkhjbfngafebeaa
open Go
set_option linter.unusedVariables false
set_option linter.unusedSimpArgs false

noncomputable def p_laws_toIntS_L0 (a0 : List Int) (j2 : Nat) (z : Int × List Int) : O (Lp (Int × List Int) (List Int)) := match z with | (i8, l9) => cond (decide (i8 < ((a0.length : Nat) : Int))) (idx a0.length i8 fun j15 => idx j2 i8 fun j16 => some (.next (w64 (i8 + 1), l9.set j16 (gx a0 j15)))) (some (.out l9))
noncomputable def p_laws_toIntS (a0 : List Int) : O (List Int) := sized ((a0.length : Nat) : Int) fun j2 => (loop (p_laws_toIntS_L0 a0 j2) (0, List.replicate j2 0)).bind fun l4 => some l4

noncomputable def p_laws_eqIntS_L0 (a0 : List Int) (b0 : List Int) (i7 : Int) : O (Lp Int (Unit ⊕ Bool)) := cond (decide (i7 < ((a0.length : Nat) : Int))) (idx a0.length i7 fun j13 => idx b0.length i7 fun j14 => cond ((gx a0 j13) != (gx b0 j14)) (some (.out (.inr false))) (some (.next (w64 (i7 + 1))))) (some (.out (.inl ())))
noncomputable def p_laws_eqIntS (a0 : List Int) (b0 : List Int) : O (Bool) := cond (((a0.length : Nat) : Int) != ((b0.length : Nat) : Int)) (some false) ((loop (p_laws_eqIntS_L0 a0 b0) 0 : O (Unit ⊕ Bool)).bind fun | .inr w => some w | .inl _ => some true)

noncomputable def p_laws_markIntS_L0 (a0 : List Int) (z : Int × Int × List Int) : O (Lp (Int × Int × List Int) (Int × List Int)) := match z with | (k7, i8, l9) => cond (decide (i8 < ((a0.length : Nat) : Int))) (idx a0.length i8 fun j15 => some (.next (w64 (k7 + 1), w64 (i8 + 1), l9.set j15 k7))) (some (.out (k7, l9)))
noncomputable def p_laws_markIntS (a0 : List Int) (k0 : Int) : O (Int × List Int) := (loop (p_laws_markIntS_L0 a0) (k0, 0, a0)).bind fun (k2, l3) => some (k2, l3)

end Go.Proofs.Ytkhjbfngafebeaa
namespace Go.Proofs.Ytkhjbfngafebeaa
open Go
set_option linter.unusedVariables false
set_option linter.unusedSimpArgs false

noncomputable def p_laws_eqWay (a0 : Way) (b0 : Way) : O (Bool) := cond (a0.e != b0.e) (some false) (cond (a0.n != b0.n) (some false) (cond (a0.u != b0.u) (some false) (some true)))

noncomputable def p_laws_eqWayS_L0 (a0 : List Way) (b0 : List Way) (i7 : Int) : O (Lp Int (Unit ⊕ Bool)) := cond (decide (i7 < ((a0.length : Nat) : Int))) (idx a0.length i7 fun j13 => idx b0.length i7 fun j14 => (p_laws_eqWay (gx a0 j13) (gx b0 j14)).bind fun v16 => cond (!v16) (some (.out (.inr false))) (some (.next (w64 (i7 + 1))))) (some (.out (.inl ())))
noncomputable def p_laws_eqWayS (a0 : List Way) (b0 : List Way) : O (Bool) := cond (((a0.length : Nat) : Int) != ((b0.length : Nat) : Int)) (some false) ((loop (p_laws_eqWayS_L0 a0 b0) 0 : O (Unit ⊕ Bool)).bind fun | .inr w => some w | .inl _ => some true)

noncomputable def p_laws_eqFix (a0 : Fix) (b0 : Fix) : O (Bool) := cond (a0.den != b0.den) (some false) ((p_laws_eqWayS a0.nums b0.nums).bind fun v7 => cond (!v7) (some false) (some true))

noncomputable def p_laws_markWayS_L0 (a0 : List Way) (z : Int × Int × List Way) : O (Lp (Int × Int × List Way) (Int × List Way)) := match z with | (k7, i8, l9) => cond (decide (i8 < ((a0.length : Nat) : Int))) (idx a0.length i8 fun j15 => some (.next (w64 ((w64 ((w64 (k7 + 1)) + 1)) + 1), w64 (i8 + 1), ((l9.set j15 { gx l9 j15 with e := k7 }).set j15 { gx (l9.set j15 { gx l9 j15 with e := k7 }) j15 with n := w64 (k7 + 1) }).set j15 { gx ((l9.set j15 { gx l9 j15 with e := k7 }).set j15 { gx (l9.set j15 { gx l9 j15 with e := k7 }) j15 with n := w64 (k7 + 1) }) j15 with u := w64 ((w64 (k7 + 1)) + 1) }))) (some (.out (k7, l9)))
noncomputable def p_laws_markWayS (a0 : List Way) (k0 : Int) : O (Int × List Way) := (loop (p_laws_markWayS_L0 a0) (k0, 0, a0)).bind fun (k2, l3) => some (k2, l3)

noncomputable def p_laws_markFix (a0 : Fix) (k0 : Int) : O (Int × List Way) := (p_laws_markWayS a0.nums k0).bind fun (v4, v5) => some (v4, v5)

noncomputable def p_laws_heldWayS_L0 (a0 : List Way) (z : Int × Int) : O (Lp (Int × Int) (Int ⊕ Int)) := match z with | (k6, i7) => cond (decide (i7 < ((a0.length : Nat) : Int))) (idx a0.length i7 fun j13 => cond (((gx a0 j13).e) != k6) (some (.out (.inr (-1)))) (cond (((gx a0 j13).n) != (w64 (k6 + 1))) (some (.out (.inr (-1)))) (cond (((gx a0 j13).u) != (w64 ((w64 (k6 + 1)) + 1))) (some (.out (.inr (-1)))) (some (.next (w64 ((w64 ((w64 (k6 + 1)) + 1)) + 1), w64 (i7 + 1))))))) (some (.out (.inl k6)))
noncomputable def p_laws_heldWayS (a0 : List Way) (k0 : Int) : O (Int) := (loop (p_laws_heldWayS_L0 a0) (k0, 0) : O (Int ⊕ Int)).bind fun | .inr w => some w | .inl k2 => some k2

noncomputable def p_laws_heldFix (a0 : Fix) (k0 : Int) : O (Int) := (p_laws_heldWayS a0.nums k0).bind fun v4 => cond (decide (v4 < 0)) (some (-1)) (some v4)

end Go.Proofs.Ytkhjbfngafebeaa
namespace Go.Proofs.Ytkhjbfngafebeaa
open Go
set_option linter.unusedVariables false
set_option linter.unusedSimpArgs false

noncomputable def p_impl_isIndex (number0 : Int) (many0 : Int) : O (Bool) := cond (decide (0 ≤ number0)) (some (decide (number0 < many0))) (some false)

noncomputable def p_impl_isWithin (number0 : Int) (limit0 : Int) : O (Bool) := cond (decide ((w64 (-limit0)) ≤ number0)) (some (decide (number0 ≤ limit0))) (some false)

noncomputable def p_spec_l1In (n0 : Int) (low0 : Int) (high0 : Int) : O (Bool) := cond (decide (low0 ≤ n0)) (some (decide (n0 ≤ high0))) (some false)

noncomputable def p_impl_stepFits (number0 : Int) : O (Bool) := (p_impl_isWithin number0 99).bind fun v2 => some v2

noncomputable def p_impl_LegValid (stations0 : Int) (g0 : Leg) : O (Bool) := (cond (decide (stations0 < 1)) (some true) (some (decide (6 < stations0)))).bind fun x2 => cond x2 (some false) (((p_impl_isIndex g0.f stations0).bind fun v16 => cond (!v16) (some true) ((p_impl_isIndex g0.t stations0).bind fun v20 => cond (!v20) (some true) (some (g0.f == g0.t)))).bind fun x11 => cond x11 (some false) ((p_impl_stepFits g0.e).bind fun v28 => cond v28 ((p_impl_stepFits g0.n).bind fun v32 => cond v32 ((p_impl_stepFits g0.u).bind fun v36 => some v36) (some false)) (some false)))

noncomputable def p_impl_legWay (g0 : Leg) : O (Way) := some (⟨g0.e, g0.n, g0.u⟩ : Way)

noncomputable def p_impl_LegBack (g0 : Leg) : O (Leg) := some (⟨g0.t, g0.f, w64 (-g0.e), w64 (-g0.n), w64 (-g0.u)⟩ : Leg)

noncomputable def p_impl_WayAdd (a0 : Way) (b0 : Way) : O (Way) := some (⟨w64 (a0.e + b0.e), w64 (a0.n + b0.n), w64 (a0.u + b0.u)⟩ : Way)

noncomputable def p_spec_LegBack (g0 : Leg) : O (Leg) := some (⟨g0.t, g0.f, w64 (-g0.e), w64 (-g0.n), w64 (-g0.u)⟩ : Leg)

noncomputable def p_spec_WayAdd (a0 : Way) (b0 : Way) : O (Way) := some (⟨w64 (a0.e + b0.e), w64 (a0.n + b0.n), w64 (a0.u + b0.u)⟩ : Way)

noncomputable def p_spec_WayTimes (a0 : Way) (n0 : Int) : O (Way) := some (⟨w64 (n0 * a0.e), w64 (n0 * a0.n), w64 (n0 * a0.u)⟩ : Way)

noncomputable def p_spec_l1Way (g0 : Leg) : O (Way) := some (⟨g0.e, g0.n, g0.u⟩ : Way)

end Go.Proofs.Ytkhjbfngafebeaa
namespace Go.Proofs.Ytkhjbfngafebeaa
open Go
set_option linter.unusedVariables false
set_option linter.unusedSimpArgs false

noncomputable def p_impl_ownParts_L0 (j1 : Nat) (z : Int × List Int) : O (Lp (Int × List Int) (List Int)) := match z with | (x7, l8) => cond (decide (x7 < ((j1 : Nat) : Int))) (idx j1 x7 fun j14 => some (.next (w64 (x7 + 1), l8.set j14 x7))) (some (.out l8))
noncomputable def p_impl_ownParts (many0 : Int) : O (List Int) := sized many0 fun j1 => (loop (p_impl_ownParts_L0 j1) (0, List.replicate j1 0)).bind fun l3 => some l3

noncomputable def p_impl_joinParts_L0 (parts0 : List Int) (j2 : Nat) (j3 : Nat) (z : Int × List Int) : O (Lp (Int × List Int) (List Int)) := match z with | (x9, l10) => cond (decide (x9 < ((parts0.length : Nat) : Int))) (idx parts0.length x9 fun j16 => cond ((gx l10 j16) == (max (gx parts0 j2) (gx parts0 j3))) (some (.next (w64 (x9 + 1), l10.set j16 (min (gx parts0 j2) (gx parts0 j3))))) (some (.next (w64 (x9 + 1), l10)))) (some (.out l10))
noncomputable def p_impl_joinParts (parts0 : List Int) (a0 : Int) (b0 : Int) : O (Bool × List Int) := idx parts0.length a0 fun j2 => idx parts0.length b0 fun j3 => cond ((min (gx parts0 j2) (gx parts0 j3)) == (max (gx parts0 j2) (gx parts0 j3))) (some (false, parts0)) ((loop (p_impl_joinParts_L0 parts0 j2 j3) (0, parts0)).bind fun l5 => some (true, l5))

noncomputable def p_impl_SurveyValid_L0 (s0 : Survey) (x16 : Int) : O (Lp Int (Unit ⊕ Bool)) := cond (decide (x16 < ((s0.legs.length : Nat) : Int))) (idx s0.legs.length x16 fun j22 => (p_impl_LegValid s0.st (⟨(gx s0.legs j22).f, (gx s0.legs j22).t, (gx s0.legs j22).e, (gx s0.legs j22).n, (gx s0.legs j22).u⟩ : Leg)).bind fun v25 => cond (!v25) (some (.out (.inr false))) (some (.next (w64 (x16 + 1))))) (some (.out (.inl ())))
noncomputable def p_impl_SurveyValid (s0 : Survey) : O (Bool) := (cond (decide (s0.st < 1)) (some true) (cond (decide (6 < s0.st)) (some true) (some (decide (9 < ((s0.legs.length : Nat) : Int)))))).bind fun x3 => cond x3 (some false) ((loop (p_impl_SurveyValid_L0 s0) 0 : O (Unit ⊕ Bool)).bind fun | .inr w => some w | .inl _ => some true)

noncomputable def p_spec_LegValid (stations0 : Int) (g0 : Leg) : O (Bool) := (p_spec_l1In stations0 1 6).bind fun v3 => cond v3 ((p_spec_l1In g0.f 0 (w64 (stations0 - 1))).bind fun v7 => cond v7 ((p_spec_l1In g0.t 0 (w64 (stations0 - 1))).bind fun v11 => cond v11 (cond (g0.f != g0.t) ((p_spec_l1In g0.e (-99) 99).bind fun v16 => cond v16 ((p_spec_l1In g0.n (-99) 99).bind fun v20 => cond v20 ((p_spec_l1In g0.u (-99) 99).bind fun v24 => some v24) (some false)) (some false)) (some false)) (some false)) (some false)) (some false)

noncomputable def p_spec_SurveyValid_L0 (s0 : Survey) (k6 : Int) : O (Lp Int (Unit ⊕ Bool)) := cond (decide (k6 < ((s0.legs.length : Nat) : Int))) (idx s0.legs.length k6 fun j12 => (p_spec_LegValid s0.st (gx s0.legs j12)).bind fun v14 => cond (!v14) (some (.out (.inr false))) (some (.next (w64 (k6 + 1))))) (some (.out (.inl ())))
noncomputable def p_spec_SurveyValid (s0 : Survey) : O (Bool) := (loop (p_spec_SurveyValid_L0 s0) 0 : O (Unit ⊕ Bool)).bind fun | .inr w => some w | .inl _ => (p_spec_l1In s0.st 1 6).bind fun v21 => cond v21 (some (decide (((s0.legs.length : Nat) : Int) ≤ 9))) (some false)

noncomputable def p_spec_l1Parts_L0 (s0 : Survey) (z : List Int × Int) : O (Lp (List Int × Int) (List Int)) := match z with | (part9, k10) => cond (decide (k10 < s0.st)) (need (part9.length + ([k10] : List Int).length ≤ 1073741824) <| some (.next (part9 ++ ([k10] : List Int), w64 (k10 + 1)))) (some (.out part9))
noncomputable def p_spec_l1Parts_L2 (part5 : List Int) (l30 : List Int) (j38 : Nat) (j39 : Nat) (z : Int × List Int) : O (Lp (Int × List Int) (List Int)) := match z with | (k44, l45) => cond (decide (k44 < ((part5.length : Nat) : Int))) (idx part5.length k44 fun j51 => cond ((gx l45 j51) == (max (gx l30 j38) (gx l30 j39))) (some (.next (w64 (k44 + 1), l45.set j51 (min (gx l30 j38) (gx l30 j39))))) (some (.next (w64 (k44 + 1), l45)))) (some (.out l45))
noncomputable def p_spec_l1Parts_L1 (s0 : Survey) (use0 : List Int) (part5 : List Int) (z : Int × List Int) : O (Lp (Int × List Int) (List Int)) := match z with | (n29, l30) => cond (decide (n29 < ((use0.length : Nat) : Int))) (idx use0.length n29 fun j36 => idx s0.legs.length (gx use0 j36) fun j37 => idx part5.length ((gx s0.legs j37).f) fun j38 => idx part5.length ((gx s0.legs j37).t) fun j39 => (loop (p_spec_l1Parts_L2 part5 l30 j38 j39) (0, l30)).bind fun l40 => some (.next (w64 (n29 + 1), l40))) (some (.out l30))
noncomputable def p_spec_l1Parts (s0 : Survey) (use0 : List Int) : O (List Int) := (loop (p_spec_l1Parts_L0 s0) (([] : List Int), 0)).bind fun part5 => (loop (p_spec_l1Parts_L1 s0 use0 part5) (0, part5)).bind fun l25 => some l25

noncomputable def p_spec_l1All_L0 (n0 : Int) (z : List Int × Int) : O (Lp (List Int × Int) (List Int)) := match z with | (out6, k7) => cond (decide (k7 < n0)) (need (out6.length + ([k7] : List Int).length ≤ 1073741824) <| some (.next (out6 ++ ([k7] : List Int), w64 (k7 + 1)))) (some (.out out6))
noncomputable def p_spec_l1All (n0 : Int) : O (List Int) := (loop (p_spec_l1All_L0 n0) (([] : List Int), 0)).bind fun out2 => some out2

noncomputable def p_spec_Parts (s0 : Survey) : O (List Int) := (p_spec_SurveyValid (⟨s0.st, s0.legs⟩ : Survey)).bind fun v4 => cond (!v4) (some ([] : List Int)) ((p_spec_l1All ((s0.legs.length : Nat) : Int)).bind fun v9 => (p_spec_l1Parts (⟨s0.st, s0.legs⟩ : Survey) v9).bind fun v12 => some v12)

noncomputable def p_spec_PartsMany_L0 (v8 : List Int) (z : Int × Int) : O (Lp (Int × Int) Int) := match z with | (n14, k15) => cond (decide (k15 < ((v8.length : Nat) : Int))) (idx v8.length k15 fun j21 => cond ((gx v8 j21) == k15) (some (.next (w64 (n14 + 1), w64 (k15 + 1)))) (some (.next (n14, w64 (k15 + 1))))) (some (.out n14))
noncomputable def p_spec_PartsMany (s0 : Survey) : O (Int) := (p_spec_SurveyValid (⟨s0.st, s0.legs⟩ : Survey)).bind fun v4 => cond (!v4) (some (-1)) ((p_spec_Parts (⟨s0.st, s0.legs⟩ : Survey)).bind fun v8 => (loop (p_spec_PartsMany_L0 v8) (0, 0)).bind fun n10 => some n10)

end Go.Proofs.Ytkhjbfngafebeaa
namespace Go.Proofs.Ytkhjbfngafebeaa
open Go
set_option linter.unusedVariables false
set_option linter.unusedSimpArgs false

noncomputable def p_impl_isTree_L0 (s0 : Survey) (tree0 : List Int) (z : Int × List Int) : O (Lp (Int × List Int) (Unit ⊕ Bool)) := match z with | (x11, l12) => cond (decide (x11 < ((tree0.length : Nat) : Int))) (idx tree0.length x11 fun j18 => ((p_impl_isIndex (gx tree0 j18) ((s0.legs.length : Nat) : Int)).bind fun v24 => cond (!v24) (some true) (cond (decide (0 < x11)) (idx tree0.length (w64 (x11 - 1)) fun j28 => some (decide ((gx tree0 j18) ≤ (gx tree0 j28)))) (some false))).bind fun x19 => cond x19 (some (.out (.inr false))) (idx s0.legs.length (gx tree0 j18) fun j33 => (p_impl_joinParts l12 ((gx s0.legs j33).f) ((gx s0.legs j33).t)).bind fun (v35, v36) => cond (!v35) (some (.out (.inr false))) (some (.next (w64 (x11 + 1), v36))))) (some (.out (.inl ())))
noncomputable def p_impl_isTree (s0 : Survey) (tree0 : List Int) : O (Bool) := cond (((tree0.length : Nat) : Int) != (w64 (s0.st - 1))) (some false) ((p_impl_ownParts s0.st).bind fun v6 => (loop (p_impl_isTree_L0 s0 tree0) (0, v6) : O (Unit ⊕ Bool)).bind fun | .inr w => some w | .inl _ => some true)

noncomputable def p_spec_l2Chosen_L0 (s0 : Survey) (set0 : Int) (z : List Int × Int × List Leg) : O (Lp (List Int × Int × List Leg) (List Int × List Leg)) := match z with | (list11, k12, legs13) => cond (decide (k12 < ((s0.legs.length : Nat) : Int))) (need (0 ≤ k12) <| cond ((Int.tmod (Int.fdiv set0 (2 ^ (min (Int.toNat k12) IntKind.i64.bits))) 2) == 1) (idx s0.legs.length k12 fun j23 => need (legs13.length + ([gx s0.legs j23] : List Leg).length ≤ 1073741824) <| need (list11.length + ([k12] : List Int).length ≤ 1073741824) <| some (.next (list11 ++ ([k12] : List Int), w64 (k12 + 1), legs13 ++ ([gx s0.legs j23] : List Leg)))) (some (.next (list11, w64 (k12 + 1), legs13)))) (some (.out (list11, legs13)))
noncomputable def p_spec_l2Chosen (s0 : Survey) (set0 : Int) : O (Survey × List Int) := (loop (p_spec_l2Chosen_L0 s0 set0) (([] : List Int), 0, ([] : List Leg))).bind fun (list6, legs7) => some ((⟨s0.st, legs7⟩ : Survey), list6)

noncomputable def p_spec_TreesAll_L0 (s0 : Survey) (z : List (List Int) × Int) : O (Lp (List (List Int) × Int) (List (List Int))) := match z with | (out10, set11) => (need (0 ≤ ((s0.legs.length : Nat) : Int)) <| cond (decide (set11 < (w64 (1 * 2 ^ (min (Int.toNat ((s0.legs.length : Nat) : Int)) IntKind.i64.bits))))) ((p_spec_SurveyValid (⟨s0.st, s0.legs⟩ : Survey)).bind fun v25 => some v25) (some false)).bind fun x18 => cond x18 ((p_spec_l2Chosen (⟨s0.st, s0.legs⟩ : Survey) set11).bind fun (v32, v33) => (cond (((v33.length : Nat) : Int) == (w64 (s0.st - 1))) ((p_spec_PartsMany (⟨v32.st, v32.legs⟩ : Survey)).bind fun v43 => some (v43 == 1)) (some false)).bind fun x37 => cond x37 (need (out10.length + 1 ≤ 1073741824) <| some (.next (out10 ++ [v33], w64 (set11 + 1)))) (some (.next (out10, w64 (set11 + 1))))) (some (.out out10))
noncomputable def p_spec_TreesAll (s0 : Survey) : O (List (List Int)) := (loop (p_spec_TreesAll_L0 s0) (([] : List (List Int)), 0)).bind fun out6 => some out6

end Go.Proofs.Ytkhjbfngafebeaa
namespace Go.Proofs.Ytkhjbfngafebeaa
open Go
set_option linter.unusedVariables false
set_option linter.unusedSimpArgs false

noncomputable def p_spec_TreeLegs_L0 (s0 : Survey) (z : List Int × Int) : O (Lp (List Int × Int) (List Int)) := match z with | (out8, k9) => (cond (decide (k9 < ((s0.legs.length : Nat) : Int))) ((p_spec_SurveyValid (⟨s0.st, s0.legs⟩ : Survey)).bind fun v21 => some v21) (some false)).bind fun x15 => cond x15 ((p_spec_l1Parts (⟨s0.st, s0.legs⟩ : Survey) out8).bind fun v28 => idx s0.legs.length k9 fun j30 => idx v28.length ((gx s0.legs j30).f) fun j31 => idx v28.length ((gx s0.legs j30).t) fun j32 => cond ((gx v28 j31) != (gx v28 j32)) (need (out8.length + ([k9] : List Int).length ≤ 1073741824) <| some (.next (out8 ++ ([k9] : List Int), w64 (k9 + 1)))) (some (.next (out8, w64 (k9 + 1))))) (some (.out out8))
noncomputable def p_spec_TreeLegs (s0 : Survey) : O (List Int) := (loop (p_spec_TreeLegs_L0 s0) (([] : List Int), 0)).bind fun out4 => some out4

noncomputable def p_spec_l1Find_L0 (s0 : Survey) (use0 : List Int) (from0 : Int) (to0 : Int) (but0 : Int) (rec : Survey → List Int → Int → Int → Int → O (List Step × Bool)) (n9 : Int) : O (Lp Int (Unit ⊕ (List Step × Bool))) := cond (decide (n9 < ((use0.length : Nat) : Int))) (idx use0.length n9 fun j15 => idx s0.legs.length (gx use0 j15) fun j16 => (cond (((gx s0.legs j16).f) == from0) (some (((gx s0.legs j16).t) != but0)) (some false)).bind fun x18 => (cond x18 ((rec (⟨s0.st, s0.legs⟩ : Survey) use0 ((gx s0.legs j16).t) to0 from0).bind fun (v31, v32) => cond v32 (idx use0.length n9 fun j36 => need (([(⟨gx use0 j36, false⟩ : Step)] : List Step).length + v31.length ≤ 1073741824) <| some (.inr (.out (.inr (([(⟨gx use0 j36, false⟩ : Step)] : List Step) ++ v31, true))))) (some (.inl ()))) (some (.inl ())) : O (Unit ⊕ (Lp Int (Unit ⊕ (List Step × Bool))))).bind fun | .inr w => some w | .inl _ => (cond (((gx s0.legs j16).t) == from0) (some (((gx s0.legs j16).f) != but0)) (some false)).bind fun x44 => cond x44 ((rec (⟨s0.st, s0.legs⟩ : Survey) use0 ((gx s0.legs j16).f) to0 from0).bind fun (v54, v55) => cond v55 (idx use0.length n9 fun j59 => need (([(⟨gx use0 j59, true⟩ : Step)] : List Step).length + v54.length ≤ 1073741824) <| some (.out (.inr (([(⟨gx use0 j59, true⟩ : Step)] : List Step) ++ v54, true)))) (some (.next (w64 (n9 + 1))))) (some (.next (w64 (n9 + 1))))) (some (.out (.inl ())))
noncomputable def p_spec_l1Find : Nat → Survey → List Int → Int → Int → Int → O (List Step × Bool)
  | 0, _, _, _, _, _ => none
  | fuel + 1, s0, use0, from0, to0, but0 => (fun rec => cond (from0 == to0) (some (([] : List Step), true)) ((loop (p_spec_l1Find_L0 s0 use0 from0 to0 but0 rec) 0 : O (Unit ⊕ (List Step × Bool))).bind fun | .inr w => some w | .inl _ => some (([] : List Step), false))) (p_spec_l1Find fuel)

noncomputable def p_spec_TreeWay (s0 : Survey) (from0 : Int) (to0 : Int) : O (List Step × Bool) := ((p_spec_SurveyValid (⟨s0.st, s0.legs⟩ : Survey)).bind fun v8 => cond (!v8) (some true) ((p_spec_l1In from0 0 (w64 (s0.st - 1))).bind fun v12 => cond (!v12) (some true) ((p_spec_l1In to0 0 (w64 (s0.st - 1))).bind fun v16 => some (!v16)))).bind fun x3 => cond x3 (some (([] : List Step), false)) ((p_spec_TreeLegs (⟨s0.st, s0.legs⟩ : Survey)).bind fun v24 => (p_spec_l1Find 64 (⟨s0.st, s0.legs⟩ : Survey) v24 from0 to0 (-1)).bind fun (v27, v28) => some (v27, v28))

noncomputable def p_spec_StepsOk_L0 (s0 : Survey) (steps0 : List Step) (z : Int × Int) : O (Lp (Int × Int) (Unit ⊕ Bool)) := match z with | (at11, k12) => cond (decide (k12 < ((steps0.length : Nat) : Int))) (idx steps0.length k12 fun j18 => (p_spec_l1In ((gx steps0 j18).i) 0 (w64 (((s0.legs.length : Nat) : Int) - 1))).bind fun v20 => cond (!v20) (some (.out (.inr false))) (idx s0.legs.length ((gx steps0 j18).i) fun j23 => (cond ((gx steps0 j18).b) ((p_spec_LegBack (⟨(gx s0.legs j23).f, (gx s0.legs j23).t, (gx s0.legs j23).e, (gx s0.legs j23).n, (gx s0.legs j23).u⟩ : Leg)).bind fun v35 => some (v35.f, v35.t, v35.e, v35.n, v35.u)) (some ((gx s0.legs j23).f, (gx s0.legs j23).t, (gx s0.legs j23).e, (gx s0.legs j23).n, (gx s0.legs j23).u))).bind fun (f25, t26, e27, n28, u29) => cond (decide (0 ≤ at11)) (cond (f25 != at11) (some (.out (.inr false))) (some (.next (t26, w64 (k12 + 1))))) (some (.next (t26, w64 (k12 + 1)))))) (some (.out (.inl ())))
noncomputable def p_spec_StepsOk (s0 : Survey) (steps0 : List Step) : O (Bool) := (p_spec_SurveyValid (⟨s0.st, s0.legs⟩ : Survey)).bind fun v5 => cond (!v5) (some false) ((loop (p_spec_StepsOk_L0 s0 steps0) ((-1), 0) : O (Unit ⊕ Bool)).bind fun | .inr w => some w | .inl _ => some true)

noncomputable def p_spec_StepsWay_L0 (s0 : Survey) (steps0 : List Step) (z : Int × Int × Int × Int) : O (Lp (Int × Int × Int × Int) (Int × Int × Int)) := match z with | (k16, e17, n18, u19) => cond (decide (k16 < ((steps0.length : Nat) : Int))) (idx steps0.length k16 fun j25 => idx s0.legs.length ((gx steps0 j25).i) fun j26 => (p_spec_l1Way (gx s0.legs j26)).bind fun v28 => cond ((gx steps0 j25).b) ((p_spec_WayTimes (⟨v28.e, v28.n, v28.u⟩ : Way) (-1)).bind fun v34 => (p_spec_WayAdd (⟨e17, n18, u19⟩ : Way) (⟨v34.e, v34.n, v34.u⟩ : Way)).bind fun v37 => some (.next (w64 (k16 + 1), v37.e, v37.n, v37.u))) ((p_spec_WayAdd (⟨e17, n18, u19⟩ : Way) (⟨v28.e, v28.n, v28.u⟩ : Way)).bind fun v40 => some (.next (w64 (k16 + 1), v40.e, v40.n, v40.u)))) (some (.out (e17, n18, u19)))
noncomputable def p_spec_StepsWay (s0 : Survey) (steps0 : List Step) : O (Way × Bool) := (p_spec_StepsOk (⟨s0.st, s0.legs⟩ : Survey) steps0).bind fun v7 => cond (!v7) (some ((⟨0, 0, 0⟩ : Way), false)) ((loop (p_spec_StepsWay_L0 s0 steps0) (0, 0, 0, 0)).bind fun (e10, n11, u12) => some ((⟨e10, n11, u12⟩ : Way), true))

noncomputable def p_spec_TreePlace (s0 : Survey) (station0 : Int) : O (Way × Bool) := ((p_spec_SurveyValid (⟨s0.st, s0.legs⟩ : Survey)).bind fun v9 => cond (!v9) (some true) ((p_spec_l1In station0 0 (w64 (s0.st - 1))).bind fun v13 => some (!v13))).bind fun x4 => cond x4 (some ((⟨0, 0, 0⟩ : Way), false)) ((p_spec_Parts (⟨s0.st, s0.legs⟩ : Survey)).bind fun v20 => idx v20.length station0 fun j22 => (p_spec_TreeWay (⟨s0.st, s0.legs⟩ : Survey) (gx v20 j22) station0).bind fun (v24, v25) => (p_spec_StepsWay (⟨s0.st, s0.legs⟩ : Survey) v24).bind fun (v29, v30) => some ((⟨v29.e, v29.n, v29.u⟩ : Way), v30))

noncomputable def p_impl_Parts_L0 (s0 : Survey) (z : Int × List Int) : O (Lp (Int × List Int) (List Int)) := match z with | (x14, l15) => cond (decide (x14 < ((s0.legs.length : Nat) : Int))) (idx s0.legs.length x14 fun j21 => (p_impl_joinParts l15 ((gx s0.legs j21).f) ((gx s0.legs j21).t)).bind fun (v24, v25) => some (.next (w64 (x14 + 1), v25))) (some (.out l15))
noncomputable def p_impl_Parts (s0 : Survey) : O (List Int) := (p_impl_SurveyValid (⟨s0.st, s0.legs⟩ : Survey)).bind fun v4 => cond (!v4) (some ([] : List Int)) ((p_impl_ownParts s0.st).bind fun v8 => (loop (p_impl_Parts_L0 s0) (0, v8)).bind fun l10 => some l10)

noncomputable def p_impl_TreeLegs_L0 (s0 : Survey) (z : List Int × Int × List Int) : O (Lp (List Int × Int × List Int) (List Int)) := match z with | (tree14, x15, l16) => cond (decide (x15 < ((s0.legs.length : Nat) : Int))) (idx s0.legs.length x15 fun j23 => (p_impl_joinParts l16 ((gx s0.legs j23).f) ((gx s0.legs j23).t)).bind fun (v26, v27) => cond v26 (need (tree14.length + ([x15] : List Int).length ≤ 1073741824) <| some (.next (tree14 ++ ([x15] : List Int), w64 (x15 + 1), v27))) (some (.next (tree14, w64 (x15 + 1), v27)))) (some (.out tree14))
noncomputable def p_impl_TreeLegs (s0 : Survey) : O (List Int) := (p_impl_SurveyValid (⟨s0.st, s0.legs⟩ : Survey)).bind fun v4 => cond (!v4) (some ([] : List Int)) ((p_impl_ownParts s0.st).bind fun v8 => (loop (p_impl_TreeLegs_L0 s0) (([] : List Int), 0, v8)).bind fun tree10 => some tree10)

noncomputable def p_impl_stepEnds (s0 : Survey) (step0 : Step) : O (Int × Int) := idx s0.legs.length step0.i fun j4 => cond step0.b (some ((gx s0.legs j4).t, (gx s0.legs j4).f)) (some ((gx s0.legs j4).f, (gx s0.legs j4).t))

noncomputable def p_slices_Reverse_impl_Step_impl_Step_L0 (s0 : List Step) (z : Int × Int × List Step) : O (Lp (Int × Int × List Step) (List Step)) := match z with | (i6, j7, l8) => cond (decide (i6 < j7)) (idx s0.length j7 fun j14 => idx s0.length i6 fun j15 => some (.next (w64 (i6 + 1), w64 (j7 - 1), (l8.set j15 (gx l8 j14)).set j14 (gx l8 j15)))) (some (.out l8))
noncomputable def p_slices_Reverse_impl_Step_impl_Step (s0 : List Step) : O (List Step) := (loop (p_slices_Reverse_impl_Step_impl_Step_L0 s0) (0, w64 (((s0.length : Nat) : Int) - 1), s0)).bind fun l2 => some l2

noncomputable def p_impl_TreeWay_L2 (s0 : Survey) (v23 : List Int) (j25 : Nat) (j27 : Nat) (queue36 : List Int) (j45 : Nat) (j64 : Nat) (z : List Int × Int × List Bool × List Step) : O (Lp (List Int × Int × List Bool × List Step) (List Int × List Bool × List Step)) := match z with | (queue72, x73, l74, l75) => cond (decide (x73 < 2)) (idx 2 x73 fun j82 => (p_impl_stepEnds (⟨s0.st, s0.legs⟩ : Survey) (⟨(gx ([(⟨gx v23 j64, false⟩ : Step), (⟨gx v23 j64, true⟩ : Step)] : List Step) j82).i, (gx ([(⟨gx v23 j64, false⟩ : Step), (⟨gx v23 j64, true⟩ : Step)] : List Step) j82).b⟩ : Step)).bind fun (v85, v86) => (cond (v85 == (gx queue36 j45)) (idx j25 v86 fun j94 => some (!(gx l74 j94))) (some false)).bind fun x89 => cond x89 (idx j25 v86 fun j99 => idx j27 v86 fun j100 => need (queue72.length + ([v86] : List Int).length ≤ 1073741824) <| some (.next (queue72 ++ ([v86] : List Int), w64 (x73 + 1), l74.set j99 true, l75.set j100 (⟨(gx ([(⟨gx v23 j64, false⟩ : Step), (⟨gx v23 j64, true⟩ : Step)] : List Step) j82).i, (gx ([(⟨gx v23 j64, false⟩ : Step), (⟨gx v23 j64, true⟩ : Step)] : List Step) j82).b⟩ : Step)))) (some (.next (queue72, w64 (x73 + 1), l74, l75)))) (some (.out (queue72, l74, l75)))
noncomputable def p_impl_TreeWay_L1 (s0 : Survey) (v23 : List Int) (j25 : Nat) (j27 : Nat) (queue36 : List Int) (j45 : Nat) (z : List Int × Int × List Bool × List Step) : O (Lp (List Int × Int × List Bool × List Step) (List Int × List Bool × List Step)) := match z with | (queue54, x55, l56, l57) => cond (decide (x55 < ((v23.length : Nat) : Int))) (idx v23.length x55 fun j64 => (loop (p_impl_TreeWay_L2 s0 v23 j25 j27 queue36 j45 j64) (queue54, 0, l56, l57)).bind fun (queue66, l67, l68) => some (.next (queue66, w64 (x55 + 1), l67, l68))) (some (.out (queue54, l56, l57)))
noncomputable def p_impl_TreeWay_L0 (s0 : Survey) (v23 : List Int) (j25 : Nat) (j27 : Nat) (z : List Int × List Bool × List Step) : O (Lp (List Int × List Bool × List Step) (List Bool × List Step)) := match z with | (queue36, l37, l38) => cond (decide (0 < ((queue36.length : Nat) : Int))) (idx queue36.length 0 fun j45 => cut queue36.length 1 ((queue36.length : Nat) : Int) fun j46 j47 => (loop (p_impl_TreeWay_L1 s0 v23 j25 j27 queue36 j45) ((queue36.drop j46).take (j47 - j46), 0, l37, l38)).bind fun (queue48, l49, l50) => some (.next (queue48, l49, l50))) (some (.out (l37, l38)))
noncomputable def p_impl_TreeWay_L3 (s0 : Survey) (from0 : Int) (j27 : Nat) (l32 : List Step) (z : List Step × Int) : O (Lp (List Step × Int) (List Step)) := match z with | (steps121, at122) => cond (at122 != from0) (idx j27 at122 fun j129 => need (steps121.length + ([gx l32 j129] : List Step).length ≤ 1073741824) <| (p_impl_stepEnds (⟨s0.st, s0.legs⟩ : Survey) (gx l32 j129)).bind fun (v135, v136) => some (.next (steps121 ++ ([gx l32 j129] : List Step), v135))) (some (.out steps121))
noncomputable def p_impl_TreeWay (s0 : Survey) (from0 : Int) (to0 : Int) : O (List Step × Bool) := ((p_impl_SurveyValid (⟨s0.st, s0.legs⟩ : Survey)).bind fun v8 => cond (!v8) (some true) ((p_impl_isIndex from0 s0.st).bind fun v12 => cond (!v12) (some true) ((p_impl_isIndex to0 s0.st).bind fun v16 => some (!v16)))).bind fun x3 => cond x3 (some (([] : List Step), false)) ((p_impl_TreeLegs (⟨s0.st, s0.legs⟩ : Survey)).bind fun v23 => sized s0.st fun j25 => sized s0.st fun j27 => idx j25 from0 fun j29 => (loop (p_impl_TreeWay_L0 s0 v23 j25 j27) (([from0] : List Int), (List.replicate j25 false).set j29 true, List.replicate j27 (⟨0, false⟩ : Step))).bind fun (l31, l32) => idx j25 to0 fun j115 => cond (!(gx l31 j115)) (some (([] : List Step), false)) ((loop (p_impl_TreeWay_L3 s0 from0 j27 l32) (([] : List Step), to0)).bind fun steps117 => (p_slices_Reverse_impl_Step_impl_Step steps117).bind fun v144 => some (v144, true)))

noncomputable def p_impl_StepsOk_L0 (s0 : Survey) (steps0 : List Step) (z : Int × Int) : O (Lp (Int × Int) (Unit ⊕ Bool)) := match z with | (at11, x12) => cond (decide (x12 < ((steps0.length : Nat) : Int))) (idx steps0.length x12 fun j18 => (p_impl_isIndex ((gx steps0 j18).i) ((s0.legs.length : Nat) : Int)).bind fun v21 => cond (!v21) (some (.out (.inr false))) ((p_impl_stepEnds (⟨s0.st, s0.legs⟩ : Survey) (⟨(gx steps0 j18).i, (gx steps0 j18).b⟩ : Step)).bind fun (v25, v26) => cond (decide (0 < x12)) (cond (v25 != at11) (some (.out (.inr false))) (some (.next (v26, w64 (x12 + 1))))) (some (.next (v26, w64 (x12 + 1)))))) (some (.out (.inl ())))
noncomputable def p_impl_StepsOk (s0 : Survey) (steps0 : List Step) : O (Bool) := (p_impl_SurveyValid (⟨s0.st, s0.legs⟩ : Survey)).bind fun v5 => cond (!v5) (some false) ((loop (p_impl_StepsOk_L0 s0 steps0) ((-1), 0) : O (Unit ⊕ Bool)).bind fun | .inr w => some w | .inl _ => some true)

noncomputable def p_impl_StepsWay_L0 (s0 : Survey) (steps0 : List Step) (z : Int × Int × Int × Int) : O (Lp (Int × Int × Int × Int) (Int × Int × Int)) := match z with | (x16, e17, n18, u19) => cond (decide (x16 < ((steps0.length : Nat) : Int))) (idx steps0.length x16 fun j25 => idx s0.legs.length ((gx steps0 j25).i) fun j27 => cond ((gx steps0 j25).b) ((p_impl_LegBack (⟨(gx s0.legs j27).f, (gx s0.legs j27).t, (gx s0.legs j27).e, (gx s0.legs j27).n, (gx s0.legs j27).u⟩ : Leg)).bind fun v31 => (p_impl_legWay (⟨v31.f, v31.t, v31.e, v31.n, v31.u⟩ : Leg)).bind fun v34 => (p_impl_WayAdd (⟨e17, n18, u19⟩ : Way) v34).bind fun v37 => some (.next (w64 (x16 + 1), v37.e, v37.n, v37.u))) ((p_impl_legWay (⟨(gx s0.legs j27).f, (gx s0.legs j27).t, (gx s0.legs j27).e, (gx s0.legs j27).n, (gx s0.legs j27).u⟩ : Leg)).bind fun v40 => (p_impl_WayAdd (⟨e17, n18, u19⟩ : Way) v40).bind fun v43 => some (.next (w64 (x16 + 1), v43.e, v43.n, v43.u)))) (some (.out (e17, n18, u19)))
noncomputable def p_impl_StepsWay (s0 : Survey) (steps0 : List Step) : O (Way × Bool) := (p_impl_StepsOk (⟨s0.st, s0.legs⟩ : Survey) steps0).bind fun v6 => cond (!v6) (some ((⟨0, 0, 0⟩ : Way), false)) ((loop (p_impl_StepsWay_L0 s0 steps0) (0, 0, 0, 0)).bind fun (e10, n11, u12) => some ((⟨e10, n11, u12⟩ : Way), true))

noncomputable def p_impl_TreePlace (s0 : Survey) (station0 : Int) : O (Way × Bool) := ((p_impl_SurveyValid (⟨s0.st, s0.legs⟩ : Survey)).bind fun v9 => cond (!v9) (some true) ((p_impl_isIndex station0 s0.st).bind fun v13 => some (!v13))).bind fun x4 => cond x4 (some ((⟨0, 0, 0⟩ : Way), false)) ((p_impl_Parts (⟨s0.st, s0.legs⟩ : Survey)).bind fun v20 => idx v20.length station0 fun j22 => (p_impl_TreeWay (⟨s0.st, s0.legs⟩ : Survey) (gx v20 j22) station0).bind fun (v24, v25) => cond (!v25) (some ((⟨0, 0, 0⟩ : Way), false)) ((p_impl_StepsWay (⟨s0.st, s0.legs⟩ : Survey) v24).bind fun (v30, v31) => some ((⟨v30.e, v30.n, v30.u⟩ : Way), v31)))

end Go.Proofs.Ytkhjbfngafebeaa
namespace Go.Proofs.Ytkhjbfngafebeaa
open Go
set_option linter.unusedVariables false
set_option linter.unusedSimpArgs false

noncomputable def p_impl_TreeFix_L0 (s0 : Survey) (tree0 : List Int) (z : Int × List Leg) : O (Lp (Int × List Leg) (List Leg)) := match z with | (x25, legs26) => cond (decide (x25 < ((tree0.length : Nat) : Int))) (idx tree0.length x25 fun j33 => idx s0.legs.length (gx tree0 j33) fun j34 => need (legs26.length + ([gx s0.legs j34] : List Leg).length ≤ 1073741824) <| some (.next (w64 (x25 + 1), legs26 ++ ([gx s0.legs j34] : List Leg)))) (some (.out legs26))
noncomputable def p_impl_TreeFix_L1 (s0 : Survey) (legs21 : List Leg) (j43 : Nat) (z : Int × List Way) : O (Lp (Int × List Way) (List Way)) := match z with | (x49, l50) => cond (decide (x49 < ((j43 : Nat) : Int))) ((p_impl_TreePlace (⟨s0.st, legs21⟩ : Survey) x49).bind fun (v57, v58) => idx j43 x49 fun j61 => some (.next (w64 (x49 + 1), l50.set j61 v57))) (some (.out l50))
noncomputable def p_impl_TreeFix (s0 : Survey) (tree0 : List Int) : O (Fix × Bool) := ((p_impl_SurveyValid (⟨s0.st, s0.legs⟩ : Survey)).bind fun v10 => cond (!v10) (some true) ((p_impl_isTree (⟨s0.st, s0.legs⟩ : Survey) tree0).bind fun v14 => some (!v14))).bind fun x5 => cond x5 (some ((⟨0, ([] : List Way)⟩ : Fix), false)) ((loop (p_impl_TreeFix_L0 s0 tree0) (0, ([] : List Leg))).bind fun legs21 => sized s0.st fun j43 => (loop (p_impl_TreeFix_L1 s0 legs21 j43) (0, List.replicate j43 (⟨0, 0, 0⟩ : Way))).bind fun l45 => some ((⟨1, l45⟩ : Fix), true))

noncomputable def p_spec_TreeFix_L1 (tree0 : List Int) (v6 : List (List Int)) (k13 : Int) (z : Bool × Int) : O (Lp (Bool × Int) Bool) := match z with | (same24, j25) => (cond (decide (j25 < ((tree0.length : Nat) : Int))) (some same24) (some false)).bind fun x30 => cond x30 (idx v6.length k13 fun j39 => idx ((gx v6 j39).length) j25 fun j40 => idx tree0.length j25 fun j41 => some (.next ((gx (gx v6 j39) j40) == (gx tree0 j41), w64 (j25 + 1)))) (some (.out same24))
noncomputable def p_spec_TreeFix_L0 (tree0 : List Int) (v6 : List (List Int)) (z : Bool × Int) : O (Lp (Bool × Int) Bool) := match z with | (found12, k13) => cond (decide (k13 < ((v6.length : Nat) : Int))) (idx v6.length k13 fun j19 => (loop (p_spec_TreeFix_L1 tree0 v6 k13) ((((gx v6 j19).length : Nat) : Int) == ((tree0.length : Nat) : Int), 0)).bind fun same20 => cond found12 (some (.next (true, w64 (k13 + 1)))) (some (.next (same20, w64 (k13 + 1))))) (some (.out found12))
noncomputable def p_spec_TreeFix_L2 (s0 : Survey) (tree0 : List Int) (z : List Leg × Int) : O (Lp (List Leg × Int) (List Leg)) := match z with | (legs55, k56) => cond (decide (k56 < ((tree0.length : Nat) : Int))) (idx tree0.length k56 fun j63 => idx s0.legs.length (gx tree0 j63) fun j64 => need (legs55.length + ([gx s0.legs j64] : List Leg).length ≤ 1073741824) <| some (.next (legs55 ++ ([gx s0.legs j64] : List Leg), w64 (k56 + 1)))) (some (.out legs55))
noncomputable def p_spec_TreeFix_L3 (s0 : Survey) (legs51 : List Leg) (z : Int × List Way) : O (Lp (Int × List Way) (List Way)) := match z with | (k79, nums80) => cond (decide (k79 < s0.st)) ((p_spec_TreePlace (⟨s0.st, legs51⟩ : Survey) k79).bind fun (v88, v89) => need (nums80.length + ([(⟨v88.e, v88.n, v88.u⟩ : Way)] : List Way).length ≤ 1073741824) <| some (.next (w64 (k79 + 1), nums80 ++ ([(⟨v88.e, v88.n, v88.u⟩ : Way)] : List Way)))) (some (.out nums80))
noncomputable def p_spec_TreeFix (s0 : Survey) (tree0 : List Int) : O (Fix × Bool) := (p_spec_TreesAll (⟨s0.st, s0.legs⟩ : Survey)).bind fun v6 => (loop (p_spec_TreeFix_L0 tree0 v6) (false, 0)).bind fun found8 => cond (!found8) (some ((⟨0, ([] : List Way)⟩ : Fix), false)) ((loop (p_spec_TreeFix_L2 s0 tree0) (([] : List Leg), 0)).bind fun legs51 => (loop (p_spec_TreeFix_L3 s0 legs51) (0, ([] : List Way))).bind fun nums75 => some ((⟨1, nums75⟩ : Fix), true))

end Go.Proofs.Ytkhjbfngafebeaa
namespace Go.Proofs.Ytkhjbfngafebeaa
open Go
set_option linter.unusedVariables false
set_option linter.unusedSimpArgs false

noncomputable def p_laws_FnExactTreeFix (aS0 : Survey) (aTree0 : List Int) : O (Bool) := cond (decide (1048576 < ((aTree0.length : Nat) : Int))) (some true) ((p_laws_szSurvey (⟨aS0.st, aS0.legs⟩ : Survey) 1048576).bind fun v6 => cond (decide (v6 < 0)) (some true) ((p_laws_toSurvey (⟨aS0.st, aS0.legs⟩ : Survey)).bind fun v10 => (p_laws_toIntS aTree0).bind fun v13 => (p_spec_TreeFix v10 v13).bind fun (v16, v17) => (p_laws_toSurvey (⟨aS0.st, aS0.legs⟩ : Survey)).bind fun v22 => (p_laws_toIntS aTree0).bind fun v26 => (p_impl_TreeFix (⟨v22.st, v22.legs⟩ : Survey) v26).bind fun (v29, v30) => ((p_laws_eqFix (⟨v29.den, v29.nums⟩ : Fix) (⟨v16.den, v16.nums⟩ : Fix)).bind fun v39 => cond (!v39) (some true) (some (!(v30 == v17)))).bind fun x34 => cond x34 (some false) ((p_laws_toSurvey (⟨aS0.st, aS0.legs⟩ : Survey)).bind fun v47 => (p_laws_eqSurvey (⟨v22.st, v22.legs⟩ : Survey) v47).bind fun v50 => cond (!v50) (some false) ((p_laws_toIntS aTree0).bind fun v54 => (p_laws_eqIntS v26 v54).bind fun v57 => cond (!v57) (some false) ((p_laws_markSurvey (⟨v22.st, v22.legs⟩ : Survey) 1).bind fun (v61, v62) => (p_laws_markIntS v26 v61).bind fun (v65, v66) => (cond (decide (v65 < 0)) (some true) ((p_laws_eqFix (⟨v29.den, v29.nums⟩ : Fix) (⟨v16.den, v16.nums⟩ : Fix)).bind fun v74 => cond (!v74) (some true) (some (!(v30 == v17))))).bind fun x68 => cond x68 (some false) ((p_laws_markFix (⟨v29.den, v29.nums⟩ : Fix) 1).bind fun (v82, v83) => (p_laws_heldFix (⟨v29.den, v83⟩ : Fix) 1).bind fun v86 => cond (decide (v86 < 0)) (some false) (cond (v86 != v82) (some false) ((p_laws_toSurvey (⟨aS0.st, aS0.legs⟩ : Survey)).bind fun v91 => (p_laws_toIntS aTree0).bind fun v94 => (p_impl_TreeFix v91 v94).bind fun (v97, v98) => ((p_laws_eqFix (⟨v97.den, v97.nums⟩ : Fix) (⟨v16.den, v16.nums⟩ : Fix)).bind fun v107 => cond (!v107) (some true) (some (!(v98 == v17)))).bind fun x102 => cond x102 (some false) ((p_laws_heldFix (⟨v29.den, v83⟩ : Fix) 1).bind fun v115 => cond (decide (v115 < 0)) (some false) (cond (v115 != v82) (some false) (some true)))))))))))

end Go.Proofs.Ytkhjbfngafebeaa
