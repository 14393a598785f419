/- Functions of the program as plain partial programs; no condition. -/
import Derived.Test.YtkhjbfngafebeaaZDa
namespace Go.Proofs.Ytkhjbfngafebeaa
open Go
set_option linter.unusedVariables false
set_option linter.unusedSimpArgs false

noncomputable def p_laws_szLegS (a0 : List Leg) (left0 : Int) : O (Int) := cond (decide ((w64 (left0 - ((a0.length : Nat) : Int))) < 0)) (some (-1)) (some (w64 (left0 - ((a0.length : Nat) : Int))))

noncomputable def p_laws_szSurvey (a0 : Survey) (left0 : Int) : O (Int) := (p_laws_szLegS a0.legs left0).bind fun v4 => cond (decide (v4 < 0)) (some (-1)) (some v4)

noncomputable def p_laws_toLeg (a0 : Leg) : O (Leg) := some (⟨a0.f, a0.t, a0.e, a0.n, a0.u⟩ : Leg)

noncomputable def p_laws_toLegS_L0 (a0 : List Leg) (j2 : Nat) (z : Int × List Leg) : O (Lp (Int × List Leg) (List Leg)) := match z with | (i8, l9) => cond (decide (i8 < ((a0.length : Nat) : Int))) (idx a0.length i8 fun j15 => (p_laws_toLeg (gx a0 j15)).bind fun v17 => idx j2 i8 fun j19 => some (.next (w64 (i8 + 1), l9.set j19 v17))) (some (.out l9))
noncomputable def p_laws_toLegS (a0 : List Leg) : O (List Leg) := sized ((a0.length : Nat) : Int) fun j2 => (loop (p_laws_toLegS_L0 a0 j2) (0, List.replicate j2 (⟨0, 0, 0, 0, 0⟩ : Leg))).bind fun l4 => some l4

noncomputable def p_laws_toSurvey (a0 : Survey) : O (Survey) := (p_laws_toLegS a0.legs).bind fun v6 => some (⟨a0.st, v6⟩ : Survey)

noncomputable def p_laws_eqLeg (a0 : Leg) (b0 : Leg) : O (Bool) := cond (a0.f != b0.f) (some false) (cond (a0.t != b0.t) (some false) (cond (a0.e != b0.e) (some false) (cond (a0.n != b0.n) (some false) (cond (a0.u != b0.u) (some false) (some true)))))

noncomputable def p_laws_eqLegS_L0 (a0 : List Leg) (b0 : List Leg) (i7 : Int) : O (Lp Int (Unit ⊕ Bool)) := cond (decide (i7 < ((a0.length : Nat) : Int))) (idx a0.length i7 fun j13 => idx b0.length i7 fun j14 => (p_laws_eqLeg (gx a0 j13) (gx b0 j14)).bind fun v16 => cond (!v16) (some (.out (.inr false))) (some (.next (w64 (i7 + 1))))) (some (.out (.inl ())))
noncomputable def p_laws_eqLegS (a0 : List Leg) (b0 : List Leg) : O (Bool) := cond (((a0.length : Nat) : Int) != ((b0.length : Nat) : Int)) (some false) ((loop (p_laws_eqLegS_L0 a0 b0) 0 : O (Unit ⊕ Bool)).bind fun | .inr w => some w | .inl _ => some true)

noncomputable def p_laws_eqSurvey (a0 : Survey) (b0 : Survey) : O (Bool) := cond (a0.st != b0.st) (some false) ((p_laws_eqLegS a0.legs b0.legs).bind fun v7 => cond (!v7) (some false) (some true))

noncomputable def p_laws_markLegS_L0 (a0 : List Leg) (z : Int × Int × List Leg) : O (Lp (Int × Int × List Leg) (Int × List Leg)) := match z with | (k7, i8, l9) => cond (decide (i8 < ((a0.length : Nat) : Int))) (idx a0.length i8 fun j15 => some (.next (w64 ((w64 ((w64 ((w64 ((w64 (k7 + 1)) + 1)) + 1)) + 1)) + 1), w64 (i8 + 1), ((((l9.set j15 { gx l9 j15 with f := k7 }).set j15 { gx (l9.set j15 { gx l9 j15 with f := k7 }) j15 with t := w64 (k7 + 1) }).set j15 { gx ((l9.set j15 { gx l9 j15 with f := k7 }).set j15 { gx (l9.set j15 { gx l9 j15 with f := k7 }) j15 with t := w64 (k7 + 1) }) j15 with e := w64 ((w64 (k7 + 1)) + 1) }).set j15 { gx (((l9.set j15 { gx l9 j15 with f := k7 }).set j15 { gx (l9.set j15 { gx l9 j15 with f := k7 }) j15 with t := w64 (k7 + 1) }).set j15 { gx ((l9.set j15 { gx l9 j15 with f := k7 }).set j15 { gx (l9.set j15 { gx l9 j15 with f := k7 }) j15 with t := w64 (k7 + 1) }) j15 with e := w64 ((w64 (k7 + 1)) + 1) }) j15 with n := w64 ((w64 ((w64 (k7 + 1)) + 1)) + 1) }).set j15 { gx ((((l9.set j15 { gx l9 j15 with f := k7 }).set j15 { gx (l9.set j15 { gx l9 j15 with f := k7 }) j15 with t := w64 (k7 + 1) }).set j15 { gx ((l9.set j15 { gx l9 j15 with f := k7 }).set j15 { gx (l9.set j15 { gx l9 j15 with f := k7 }) j15 with t := w64 (k7 + 1) }) j15 with e := w64 ((w64 (k7 + 1)) + 1) }).set j15 { gx (((l9.set j15 { gx l9 j15 with f := k7 }).set j15 { gx (l9.set j15 { gx l9 j15 with f := k7 }) j15 with t := w64 (k7 + 1) }).set j15 { gx ((l9.set j15 { gx l9 j15 with f := k7 }).set j15 { gx (l9.set j15 { gx l9 j15 with f := k7 }) j15 with t := w64 (k7 + 1) }) j15 with e := w64 ((w64 (k7 + 1)) + 1) }) j15 with n := w64 ((w64 ((w64 (k7 + 1)) + 1)) + 1) }) j15 with u := w64 ((w64 ((w64 ((w64 (k7 + 1)) + 1)) + 1)) + 1) }))) (some (.out (k7, l9)))
noncomputable def p_laws_markLegS (a0 : List Leg) (k0 : Int) : O (Int × List Leg) := (loop (p_laws_markLegS_L0 a0) (k0, 0, a0)).bind fun (k2, l3) => some (k2, l3)

noncomputable def p_laws_markSurvey (a0 : Survey) (k0 : Int) : O (Int × List Leg) := (p_laws_markLegS a0.legs k0).bind fun (v4, v5) => some (v4, v5)

end Go.Proofs.Ytkhjbfngafebeaa
namespace Go.Proofs.Ytkhjbfngafebeaa
open Go
set_option linter.unusedVariables false
set_option linter.unusedSimpArgs false

noncomputable def p_laws_eqWay (a0 : Way) (b0 : Way) : O (Bool) := cond (a0.e != b0.e) (some false) (cond (a0.n != b0.n) (some false) (cond (a0.u != b0.u) (some false) (some true)))

noncomputable def p_laws_eqWayS_L0 (a0 : List Way) (b0 : List Way) (i7 : Int) : O (Lp Int (Unit ⊕ Bool)) := cond (decide (i7 < ((a0.length : Nat) : Int))) (idx a0.length i7 fun j13 => idx b0.length i7 fun j14 => (p_laws_eqWay (gx a0 j13) (gx b0 j14)).bind fun v16 => cond (!v16) (some (.out (.inr false))) (some (.next (w64 (i7 + 1))))) (some (.out (.inl ())))
noncomputable def p_laws_eqWayS (a0 : List Way) (b0 : List Way) : O (Bool) := cond (((a0.length : Nat) : Int) != ((b0.length : Nat) : Int)) (some false) ((loop (p_laws_eqWayS_L0 a0 b0) 0 : O (Unit ⊕ Bool)).bind fun | .inr w => some w | .inl _ => some true)

noncomputable def p_laws_eqFix (a0 : Fix) (b0 : Fix) : O (Bool) := cond (a0.den != b0.den) (some false) ((p_laws_eqWayS a0.nums b0.nums).bind fun v7 => cond (!v7) (some false) (some true))

noncomputable def p_laws_markWayS_L0 (a0 : List Way) (z : Int × Int × List Way) : O (Lp (Int × Int × List Way) (Int × List Way)) := match z with | (k7, i8, l9) => cond (decide (i8 < ((a0.length : Nat) : Int))) (idx a0.length i8 fun j15 => some (.next (w64 ((w64 ((w64 (k7 + 1)) + 1)) + 1), w64 (i8 + 1), ((l9.set j15 { gx l9 j15 with e := k7 }).set j15 { gx (l9.set j15 { gx l9 j15 with e := k7 }) j15 with n := w64 (k7 + 1) }).set j15 { gx ((l9.set j15 { gx l9 j15 with e := k7 }).set j15 { gx (l9.set j15 { gx l9 j15 with e := k7 }) j15 with n := w64 (k7 + 1) }) j15 with u := w64 ((w64 (k7 + 1)) + 1) }))) (some (.out (k7, l9)))
noncomputable def p_laws_markWayS (a0 : List Way) (k0 : Int) : O (Int × List Way) := (loop (p_laws_markWayS_L0 a0) (k0, 0, a0)).bind fun (k2, l3) => some (k2, l3)

noncomputable def p_laws_markFix (a0 : Fix) (k0 : Int) : O (Int × List Way) := (p_laws_markWayS a0.nums k0).bind fun (v4, v5) => some (v4, v5)

noncomputable def p_laws_heldWayS_L0 (a0 : List Way) (z : Int × Int) : O (Lp (Int × Int) (Int ⊕ Int)) := match z with | (k6, i7) => cond (decide (i7 < ((a0.length : Nat) : Int))) (idx a0.length i7 fun j13 => cond (((gx a0 j13).e) != k6) (some (.out (.inr (-1)))) (cond (((gx a0 j13).n) != (w64 (k6 + 1))) (some (.out (.inr (-1)))) (cond (((gx a0 j13).u) != (w64 ((w64 (k6 + 1)) + 1))) (some (.out (.inr (-1)))) (some (.next (w64 ((w64 ((w64 (k6 + 1)) + 1)) + 1), w64 (i7 + 1))))))) (some (.out (.inl k6)))
noncomputable def p_laws_heldWayS (a0 : List Way) (k0 : Int) : O (Int) := (loop (p_laws_heldWayS_L0 a0) (k0, 0) : O (Int ⊕ Int)).bind fun | .inr w => some w | .inl k2 => some k2

noncomputable def p_laws_heldFix (a0 : Fix) (k0 : Int) : O (Int) := (p_laws_heldWayS a0.nums k0).bind fun v4 => cond (decide (v4 < 0)) (some (-1)) (some v4)

end Go.Proofs.Ytkhjbfngafebeaa
namespace Go.Proofs.Ytkhjbfngafebeaa
open Go
set_option linter.unusedVariables false
set_option linter.unusedSimpArgs false

noncomputable def p_impl_isIndex (number0 : Int) (many0 : Int) : O (Bool) := cond (decide (0 ≤ number0)) (some (decide (number0 < many0))) (some false)

noncomputable def p_impl_isWithin (number0 : Int) (limit0 : Int) : O (Bool) := cond (decide ((w64 (-limit0)) ≤ number0)) (some (decide (number0 ≤ limit0))) (some false)

noncomputable def p_spec_l1In (n0 : Int) (low0 : Int) (high0 : Int) : O (Bool) := cond (decide (low0 ≤ n0)) (some (decide (n0 ≤ high0))) (some false)

noncomputable def p_impl_stepFits (number0 : Int) : O (Bool) := (p_impl_isWithin number0 99).bind fun v2 => some v2

noncomputable def p_impl_LegValid (stations0 : Int) (g0 : Leg) : O (Bool) := (cond (decide (stations0 < 1)) (some true) (some (decide (6 < stations0)))).bind fun x2 => cond x2 (some false) (((p_impl_isIndex g0.f stations0).bind fun v16 => cond (!v16) (some true) ((p_impl_isIndex g0.t stations0).bind fun v20 => cond (!v20) (some true) (some (g0.f == g0.t)))).bind fun x11 => cond x11 (some false) ((p_impl_stepFits g0.e).bind fun v28 => cond v28 ((p_impl_stepFits g0.n).bind fun v32 => cond v32 ((p_impl_stepFits g0.u).bind fun v36 => some v36) (some false)) (some false)))

noncomputable def p_spec_LegBack (g0 : Leg) : O (Leg) := some (⟨g0.t, g0.f, w64 (-g0.e), w64 (-g0.n), w64 (-g0.u)⟩ : Leg)

end Go.Proofs.Ytkhjbfngafebeaa
namespace Go.Proofs.Ytkhjbfngafebeaa
open Go
set_option linter.unusedVariables false
set_option linter.unusedSimpArgs false

noncomputable def p_impl_squareOf_L0 (many0 : Int) (j2 : Nat) (z : Int × List (List Int)) : O (Lp (Int × List (List Int)) (List (List Int))) := match z with | (x9, m10) => cond (decide (x9 < ((j2 : Nat) : Int))) (sized many0 fun j18 => idx j2 x9 fun j20 => some (.next (w64 (x9 + 1), m10.set j20 (List.replicate j18 0)))) (some (.out m10))
noncomputable def p_impl_squareOf (many0 : Int) : O (List (List Int)) := sized many0 fun j2 => (loop (p_impl_squareOf_L0 many0 j2) (0, List.replicate j2 ([] : List Int))).bind fun m5 => some m5

noncomputable def p_impl_addLink (m0 : List (List Int)) (a0 : Int) (b0 : Int) (weight0 : Int) : O (List (List Int)) := (cond (decide (0 < a0)) (idx m0.length (w64 (a0 - 1)) fun j7 => idx ((gx m0 j7).length) (w64 (a0 - 1)) fun j8 => some (m0.set j7 ((gx m0 j7).set j8 (w64 ((gx (gx m0 j7) j8) + weight0))))) (some m0)).bind fun m2 => (cond (decide (0 < b0)) (idx m0.length (w64 (b0 - 1)) fun j20 => idx ((gx m2 j20).length) (w64 (b0 - 1)) fun j21 => some (m2.set j20 ((gx m2 j20).set j21 (w64 ((gx (gx m2 j20) j21) + weight0))))) (some m2)).bind fun m15 => (cond (decide (0 < a0)) (some (decide (0 < b0))) (some false)).bind fun x28 => cond x28 (idx m0.length (w64 (a0 - 1)) fun j38 => idx ((gx m15 j38).length) (w64 (b0 - 1)) fun j39 => idx m0.length (w64 (b0 - 1)) fun j41 => idx ((gx (m15.set j38 ((gx m15 j38).set j39 (w64 ((gx (gx m15 j38) j39) - weight0)))) j41).length) (w64 (a0 - 1)) fun j42 => some ((m15.set j38 ((gx m15 j38).set j39 (w64 ((gx (gx m15 j38) j39) - weight0)))).set j41 ((gx (m15.set j38 ((gx m15 j38).set j39 (w64 ((gx (gx m15 j38) j39) - weight0)))) j41).set j42 (w64 ((gx (gx (m15.set j38 ((gx m15 j38).set j39 (w64 ((gx (gx m15 j38) j39) - weight0)))) j41) j42) - weight0))))) (some m15)

end Go.Proofs.Ytkhjbfngafebeaa
namespace Go.Proofs.Ytkhjbfngafebeaa
open Go
set_option linter.unusedVariables false
set_option linter.unusedSimpArgs false

noncomputable def p_impl_ownParts_L0 (j1 : Nat) (z : Int × List Int) : O (Lp (Int × List Int) (List Int)) := match z with | (x7, l8) => cond (decide (x7 < ((j1 : Nat) : Int))) (idx j1 x7 fun j14 => some (.next (w64 (x7 + 1), l8.set j14 x7))) (some (.out l8))
noncomputable def p_impl_ownParts (many0 : Int) : O (List Int) := sized many0 fun j1 => (loop (p_impl_ownParts_L0 j1) (0, List.replicate j1 0)).bind fun l3 => some l3

noncomputable def p_impl_joinParts_L0 (parts0 : List Int) (j2 : Nat) (j3 : Nat) (z : Int × List Int) : O (Lp (Int × List Int) (List Int)) := match z with | (x9, l10) => cond (decide (x9 < ((parts0.length : Nat) : Int))) (idx parts0.length x9 fun j16 => cond ((gx l10 j16) == (max (gx parts0 j2) (gx parts0 j3))) (some (.next (w64 (x9 + 1), l10.set j16 (min (gx parts0 j2) (gx parts0 j3))))) (some (.next (w64 (x9 + 1), l10)))) (some (.out l10))
noncomputable def p_impl_joinParts (parts0 : List Int) (a0 : Int) (b0 : Int) : O (Bool × List Int) := idx parts0.length a0 fun j2 => idx parts0.length b0 fun j3 => cond ((min (gx parts0 j2) (gx parts0 j3)) == (max (gx parts0 j2) (gx parts0 j3))) (some (false, parts0)) ((loop (p_impl_joinParts_L0 parts0 j2 j3) (0, parts0)).bind fun l5 => some (true, l5))

noncomputable def p_impl_countParts_L0 (parts0 : List Int) (z : Int × Int) : O (Lp (Int × Int) Int) := match z with | (many6, x7) => cond (decide (x7 < ((parts0.length : Nat) : Int))) (idx parts0.length x7 fun j13 => cond ((gx parts0 j13) == x7) (some (.next (w64 (many6 + 1), w64 (x7 + 1)))) (some (.next (many6, w64 (x7 + 1))))) (some (.out many6))
noncomputable def p_impl_countParts (parts0 : List Int) : O (Int) := (loop (p_impl_countParts_L0 parts0) (0, 0)).bind fun many2 => some many2

noncomputable def p_impl_SurveyValid_L0 (s0 : Survey) (x16 : Int) : O (Lp Int (Unit ⊕ Bool)) := cond (decide (x16 < ((s0.legs.length : Nat) : Int))) (idx s0.legs.length x16 fun j22 => (p_impl_LegValid s0.st (⟨(gx s0.legs j22).f, (gx s0.legs j22).t, (gx s0.legs j22).e, (gx s0.legs j22).n, (gx s0.legs j22).u⟩ : Leg)).bind fun v25 => cond (!v25) (some (.out (.inr false))) (some (.next (w64 (x16 + 1))))) (some (.out (.inl ())))
noncomputable def p_impl_SurveyValid (s0 : Survey) : O (Bool) := (cond (decide (s0.st < 1)) (some true) (cond (decide (6 < s0.st)) (some true) (some (decide (9 < ((s0.legs.length : Nat) : Int)))))).bind fun x3 => cond x3 (some false) ((loop (p_impl_SurveyValid_L0 s0) 0 : O (Unit ⊕ Bool)).bind fun | .inr w => some w | .inl _ => some true)

noncomputable def p_spec_LegValid (stations0 : Int) (g0 : Leg) : O (Bool) := (p_spec_l1In stations0 1 6).bind fun v3 => cond v3 ((p_spec_l1In g0.f 0 (w64 (stations0 - 1))).bind fun v7 => cond v7 ((p_spec_l1In g0.t 0 (w64 (stations0 - 1))).bind fun v11 => cond v11 (cond (g0.f != g0.t) ((p_spec_l1In g0.e (-99) 99).bind fun v16 => cond v16 ((p_spec_l1In g0.n (-99) 99).bind fun v20 => cond v20 ((p_spec_l1In g0.u (-99) 99).bind fun v24 => some v24) (some false)) (some false)) (some false)) (some false)) (some false)) (some false)

noncomputable def p_spec_SurveyValid_L0 (s0 : Survey) (k6 : Int) : O (Lp Int (Unit ⊕ Bool)) := cond (decide (k6 < ((s0.legs.length : Nat) : Int))) (idx s0.legs.length k6 fun j12 => (p_spec_LegValid s0.st (gx s0.legs j12)).bind fun v14 => cond (!v14) (some (.out (.inr false))) (some (.next (w64 (k6 + 1))))) (some (.out (.inl ())))
noncomputable def p_spec_SurveyValid (s0 : Survey) : O (Bool) := (loop (p_spec_SurveyValid_L0 s0) 0 : O (Unit ⊕ Bool)).bind fun | .inr w => some w | .inl _ => (p_spec_l1In s0.st 1 6).bind fun v21 => cond v21 (some (decide (((s0.legs.length : Nat) : Int) ≤ 9))) (some false)

noncomputable def p_spec_l1Parts_L0 (s0 : Survey) (z : List Int × Int) : O (Lp (List Int × Int) (List Int)) := match z with | (part9, k10) => cond (decide (k10 < s0.st)) (need (part9.length + ([k10] : List Int).length ≤ 1073741824) <| some (.next (part9 ++ ([k10] : List Int), w64 (k10 + 1)))) (some (.out part9))
noncomputable def p_spec_l1Parts_L2 (part5 : List Int) (l30 : List Int) (j38 : Nat) (j39 : Nat) (z : Int × List Int) : O (Lp (Int × List Int) (List Int)) := match z with | (k44, l45) => cond (decide (k44 < ((part5.length : Nat) : Int))) (idx part5.length k44 fun j51 => cond ((gx l45 j51) == (max (gx l30 j38) (gx l30 j39))) (some (.next (w64 (k44 + 1), l45.set j51 (min (gx l30 j38) (gx l30 j39))))) (some (.next (w64 (k44 + 1), l45)))) (some (.out l45))
noncomputable def p_spec_l1Parts_L1 (s0 : Survey) (use0 : List Int) (part5 : List Int) (z : Int × List Int) : O (Lp (Int × List Int) (List Int)) := match z with | (n29, l30) => cond (decide (n29 < ((use0.length : Nat) : Int))) (idx use0.length n29 fun j36 => idx s0.legs.length (gx use0 j36) fun j37 => idx part5.length ((gx s0.legs j37).f) fun j38 => idx part5.length ((gx s0.legs j37).t) fun j39 => (loop (p_spec_l1Parts_L2 part5 l30 j38 j39) (0, l30)).bind fun l40 => some (.next (w64 (n29 + 1), l40))) (some (.out l30))
noncomputable def p_spec_l1Parts (s0 : Survey) (use0 : List Int) : O (List Int) := (loop (p_spec_l1Parts_L0 s0) (([] : List Int), 0)).bind fun part5 => (loop (p_spec_l1Parts_L1 s0 use0 part5) (0, part5)).bind fun l25 => some l25

noncomputable def p_spec_l1All_L0 (n0 : Int) (z : List Int × Int) : O (Lp (List Int × Int) (List Int)) := match z with | (out6, k7) => cond (decide (k7 < n0)) (need (out6.length + ([k7] : List Int).length ≤ 1073741824) <| some (.next (out6 ++ ([k7] : List Int), w64 (k7 + 1)))) (some (.out out6))
noncomputable def p_spec_l1All (n0 : Int) : O (List Int) := (loop (p_spec_l1All_L0 n0) (([] : List Int), 0)).bind fun out2 => some out2

noncomputable def p_spec_Parts (s0 : Survey) : O (List Int) := (p_spec_SurveyValid (⟨s0.st, s0.legs⟩ : Survey)).bind fun v4 => cond (!v4) (some ([] : List Int)) ((p_spec_l1All ((s0.legs.length : Nat) : Int)).bind fun v9 => (p_spec_l1Parts (⟨s0.st, s0.legs⟩ : Survey) v9).bind fun v12 => some v12)

noncomputable def p_spec_PartsMany_L0 (v8 : List Int) (z : Int × Int) : O (Lp (Int × Int) Int) := match z with | (n14, k15) => cond (decide (k15 < ((v8.length : Nat) : Int))) (idx v8.length k15 fun j21 => cond ((gx v8 j21) == k15) (some (.next (w64 (n14 + 1), w64 (k15 + 1)))) (some (.next (n14, w64 (k15 + 1))))) (some (.out n14))
noncomputable def p_spec_PartsMany (s0 : Survey) : O (Int) := (p_spec_SurveyValid (⟨s0.st, s0.legs⟩ : Survey)).bind fun v4 => cond (!v4) (some (-1)) ((p_spec_Parts (⟨s0.st, s0.legs⟩ : Survey)).bind fun v8 => (loop (p_spec_PartsMany_L0 v8) (0, 0)).bind fun n10 => some n10)

end Go.Proofs.Ytkhjbfngafebeaa
namespace Go.Proofs.Ytkhjbfngafebeaa
open Go
set_option linter.unusedVariables false
set_option linter.unusedSimpArgs false

noncomputable def p_impl_entriesFit_L0 (row0 : List Int) (x5 : Int) : O (Lp Int (Unit ⊕ Bool)) := cond (decide (x5 < ((row0.length : Nat) : Int))) (idx row0.length x5 fun j11 => (p_impl_isWithin (gx row0 j11) 999).bind fun v13 => cond (!v13) (some (.out (.inr false))) (some (.next (w64 (x5 + 1))))) (some (.out (.inl ())))
noncomputable def p_impl_entriesFit (row0 : List Int) : O (Bool) := (loop (p_impl_entriesFit_L0 row0) 0 : O (Unit ⊕ Bool)).bind fun | .inr w => some w | .inl _ => some true

noncomputable def p_impl_MatrixValid_L0 (m0 : List (List Int)) (x6 : Int) : O (Lp Int (Unit ⊕ Bool)) := cond (decide (x6 < ((m0.length : Nat) : Int))) (idx m0.length x6 fun j12 => cond ((((gx m0 j12).length : Nat) : Int) != ((m0.length : Nat) : Int)) (some (.out (.inr false))) ((p_impl_entriesFit (gx m0 j12)).bind fun v15 => cond (!v15) (some (.out (.inr false))) (some (.next (w64 (x6 + 1)))))) (some (.out (.inl ())))
noncomputable def p_impl_MatrixValid (m0 : List (List Int)) : O (Bool) := cond (decide (5 < ((m0.length : Nat) : Int))) (some false) ((loop (p_impl_MatrixValid_L0 m0) 0 : O (Unit ⊕ Bool)).bind fun | .inr w => some w | .inl _ => some true)

noncomputable def p_impl_detFrom_L0 (m0 : List (List Int)) (row0 : Int) (used0 : Int) (rec : List (List Int) → Int → Int → O (Int)) (j3 : Nat) (z : Int × Int × Int) : O (Lp (Int × Int × Int) Int) := match z with | (sum8, sign9, x10) => cond (decide (x10 < (((gx m0 j3).length : Nat) : Int))) (idx ((gx m0 j3).length) x10 fun j16 => need (0 ≤ x10) <| cond ((IntKind.i64.wrap (BitVec.ofInt IntKind.i64.bits (Int.fdiv used0 (2 ^ (min (Int.toNat x10) IntKind.i64.bits))) &&& BitVec.ofInt IntKind.i64.bits 1).toNat) == 1) (some (.next (sum8, sign9, w64 (x10 + 1)))) (cond ((gx (gx m0 j3) j16) != 0) (need (0 ≤ x10) <| (rec m0 (w64 (row0 + 1)) (IntKind.i64.wrap (BitVec.ofInt IntKind.i64.bits used0 ||| BitVec.ofInt IntKind.i64.bits (w64 (1 * 2 ^ (min (Int.toNat x10) IntKind.i64.bits)))).toNat)).bind fun v22 => some (.next (w64 (sum8 + (w64 ((w64 (sign9 * (gx (gx m0 j3) j16))) * v22))), w64 (-sign9), w64 (x10 + 1)))) (some (.next (sum8, w64 (-sign9), w64 (x10 + 1)))))) (some (.out sum8))
noncomputable def p_impl_detFrom : Nat → List (List Int) → Int → Int → O (Int)
  | 0, _, _, _ => none
  | fuel + 1, m0, row0, used0 => (fun rec => cond (row0 == ((m0.length : Nat) : Int)) (some 1) (idx m0.length row0 fun j3 => (loop (p_impl_detFrom_L0 m0 row0 used0 rec j3) (0, 1, 0)).bind fun sum4 => some sum4)) (p_impl_detFrom fuel)

noncomputable def p_impl_Det (m0 : List (List Int)) : O (Int) := (p_impl_MatrixValid m0).bind fun v3 => cond (!v3) (some 0) ((p_impl_detFrom 64 m0 0 0).bind fun v7 => some v7)

noncomputable def p_spec_MatrixValid_L1 (m0 : List (List Int)) (k5 : Int) (j16 : Int) : O (Lp Int (Unit ⊕ (Lp Int (Unit ⊕ Bool)))) := idx m0.length k5 fun j21 => cond (decide (j16 < (((gx m0 j21).length : Nat) : Int))) (idx ((gx m0 j21).length) j16 fun j23 => (p_spec_l1In (gx (gx m0 j21) j23) (-999) 999).bind fun v25 => cond (!v25) (some (.out (.inr (.out (.inr false))))) (some (.next (w64 (j16 + 1))))) (some (.out (.inl ())))
noncomputable def p_spec_MatrixValid_L0 (m0 : List (List Int)) (k5 : Int) : O (Lp Int (Unit ⊕ Bool)) := cond (decide (k5 < ((m0.length : Nat) : Int))) (idx m0.length k5 fun j11 => cond ((((gx m0 j11).length : Nat) : Int) != ((m0.length : Nat) : Int)) (some (.out (.inr false))) ((loop (p_spec_MatrixValid_L1 m0 k5) 0 : O (Unit ⊕ (Lp Int (Unit ⊕ Bool)))).bind fun | .inr w => some w | .inl _ => some (.next (w64 (k5 + 1))))) (some (.out (.inl ())))
noncomputable def p_spec_MatrixValid (m0 : List (List Int)) : O (Bool) := (loop (p_spec_MatrixValid_L0 m0) 0 : O (Unit ⊕ Bool)).bind fun | .inr w => some w | .inl _ => some (decide (((m0.length : Nat) : Int) ≤ 5))

noncomputable def p_spec_l2Minor_L0 (m0 : List (List Int)) (row0 : Int) (column0 : Int) (z : List (List Int) × Int) : O (Lp (List (List Int) × Int) (List (List Int))) := match z with | (out9, k10) => cond (decide (k10 < ((m0.length : Nat) : Int))) (cond (k10 != row0) (idx m0.length k10 fun j20 => cut ((gx m0 j20).length) 0 column0 fun j21 j22 => need (([] : List Int).length + (((gx m0 j20).drop j21).take (j22 - j21)).length ≤ 1073741824) <| cut ((gx m0 j20).length) (w64 (column0 + 1)) (((gx m0 j20).length : Nat) : Int) fun j26 j27 => need ((([] : List Int) ++ (((gx m0 j20).drop j21).take (j22 - j21))).length + (((gx m0 j20).drop j26).take (j27 - j26)).length ≤ 1073741824) <| need (out9.length + 1 ≤ 1073741824) <| some (.next (out9 ++ [(([] : List Int) ++ (((gx m0 j20).drop j21).take (j22 - j21))) ++ (((gx m0 j20).drop j26).take (j27 - j26))], w64 (k10 + 1)))) (some (.next (out9, w64 (k10 + 1))))) (some (.out out9))
noncomputable def p_spec_l2Minor (m0 : List (List Int)) (row0 : Int) (column0 : Int) : O (List (List Int)) := (loop (p_spec_l2Minor_L0 m0 row0 column0) (([] : List (List Int)), 0)).bind fun out5 => some out5

noncomputable def p_spec_l2Det_L0 (m0 : List (List Int)) (rec : List (List Int) → O (Int)) (z : Int × Int × Int) : O (Lp (Int × Int × Int) Int) := match z with | (sum7, sign8, k9) => cond (decide (k9 < ((m0.length : Nat) : Int))) (idx m0.length 0 fun j15 => idx ((gx m0 j15).length) k9 fun j16 => cond ((gx (gx m0 j15) j16) != 0) ((p_spec_l2Minor m0 0 k9).bind fun v19 => (rec v19).bind fun v22 => some (.next (w64 (sum7 + (w64 ((w64 (sign8 * (gx (gx m0 j15) j16))) * v22))), w64 (-sign8), w64 (k9 + 1)))) (some (.next (sum7, w64 (-sign8), w64 (k9 + 1))))) (some (.out sum7))
noncomputable def p_spec_l2Det : Nat → List (List Int) → O (Int)
  | 0, _ => none
  | fuel + 1, m0 => (fun rec => cond (((m0.length : Nat) : Int) == 0) (some 1) ((loop (p_spec_l2Det_L0 m0 rec) (0, 1, 0)).bind fun sum3 => some sum3)) (p_spec_l2Det fuel)

noncomputable def p_spec_Det (m0 : List (List Int)) : O (Int) := (p_spec_MatrixValid m0).bind fun v3 => cond (!v3) (some 0) ((p_spec_l2Det 64 m0).bind fun v7 => some v7)

end Go.Proofs.Ytkhjbfngafebeaa
namespace Go.Proofs.Ytkhjbfngafebeaa
open Go
set_option linter.unusedVariables false
set_option linter.unusedSimpArgs false

noncomputable def p_impl_Links_L0 (s0 : Survey) (z : Int × List (List Int)) : O (Lp (Int × List (List Int)) (List (List Int))) := match z with | (x16, m17) => cond (decide (x16 < ((s0.legs.length : Nat) : Int))) (idx s0.legs.length x16 fun j25 => (p_impl_addLink m17 ((gx s0.legs j25).f) ((gx s0.legs j25).t) 1).bind fun v28 => some (.next (w64 (x16 + 1), v28))) (some (.out m17))
noncomputable def p_impl_Links (s0 : Survey) : O (List (List Int)) := (p_impl_SurveyValid (⟨s0.st, s0.legs⟩ : Survey)).bind fun v5 => cond (!v5) (some ([] : List (List Int))) ((p_impl_squareOf (w64 (s0.st - 1))).bind fun v10 => (loop (p_impl_Links_L0 s0) (0, v10)).bind fun m12 => some m12)

noncomputable def p_spec_Links_L1 (s0 : Survey) (a11 : Int) (j30 : Nat) (z : Int × List Int) : O (Lp (Int × List Int) (List Int)) := match z with | (k36, l37) => cond (decide (k36 < ((s0.legs.length : Nat) : Int))) (idx s0.legs.length k36 fun j43 => (cond (((gx s0.legs j43).t) == a11) ((p_spec_LegBack (⟨(gx s0.legs j43).f, (gx s0.legs j43).t, (gx s0.legs j43).e, (gx s0.legs j43).n, (gx s0.legs j43).u⟩ : Leg)).bind fun v55 => some (v55.f, v55.t, v55.e, v55.n, v55.u)) (some ((gx s0.legs j43).f, (gx s0.legs j43).t, (gx s0.legs j43).e, (gx s0.legs j43).n, (gx s0.legs j43).u))).bind fun (f45, t46, e47, n48, u49) => cond (f45 == a11) (idx j30 (w64 (a11 - 1)) fun j61 => cond (decide (0 < t46)) (idx j30 (w64 (t46 - 1)) fun j63 => some (.next (w64 (k36 + 1), (l37.set j61 (w64 ((gx l37 j61) + 1))).set j63 (w64 ((gx (l37.set j61 (w64 ((gx l37 j61) + 1))) j63) - 1))))) (some (.next (w64 (k36 + 1), l37.set j61 (w64 ((gx l37 j61) + 1)))))) (some (.next (w64 (k36 + 1), l37)))) (some (.out l37))
noncomputable def p_spec_Links_L0 (s0 : Survey) (z : List (List Int) × Int) : O (Lp (List (List Int) × Int) (List (List Int))) := match z with | (out10, a11) => (cond (decide (a11 < s0.st)) ((p_spec_SurveyValid (⟨s0.st, s0.legs⟩ : Survey)).bind fun v24 => some v24) (some false)).bind fun x18 => cond x18 (sized (w64 (s0.st - 1)) fun j30 => (loop (p_spec_Links_L1 s0 a11 j30) (0, List.replicate j30 0)).bind fun l32 => need (out10.length + 1 ≤ 1073741824) <| some (.next (out10 ++ [l32], w64 (a11 + 1)))) (some (.out out10))
noncomputable def p_spec_Links (s0 : Survey) : O (List (List Int)) := (loop (p_spec_Links_L0 s0) (([] : List (List Int)), 1)).bind fun out6 => some out6

end Go.Proofs.Ytkhjbfngafebeaa
namespace Go.Proofs.Ytkhjbfngafebeaa
open Go
set_option linter.unusedVariables false
set_option linter.unusedSimpArgs false

noncomputable def p_slices_Clone_int_int (s0 : List Int) : O (List Int) := need (([] : List Int).length + s0.length ≤ 1073741824) <| some (([] : List Int) ++ s0)

end Go.Proofs.Ytkhjbfngafebeaa
namespace Go.Proofs.Ytkhjbfngafebeaa
open Go
set_option linter.unusedVariables false
set_option linter.unusedSimpArgs false

noncomputable def p_impl_withColumn_L0 (m0 : List (List Int)) (column0 : Int) (numbers0 : List Int) (j4 : Nat) (z : Int × List (List Int)) : O (Lp (Int × List (List Int)) (List (List Int))) := match z with | (x11, m12) => cond (decide (x11 < ((m0.length : Nat) : Int))) (idx m0.length x11 fun j20 => (p_slices_Clone_int_int (gx m0 j20)).bind fun v22 => idx j4 x11 fun j24 => idx numbers0.length x11 fun j26 => idx ((gx (m12.set j24 v22) j24).length) column0 fun j27 => some (.next (w64 (x11 + 1), (m12.set j24 v22).set j24 ((gx (m12.set j24 v22) j24).set j27 (gx numbers0 j26))))) (some (.out m12))
noncomputable def p_impl_withColumn (m0 : List (List Int)) (column0 : Int) (numbers0 : List Int) : O (List (List Int)) := sized ((m0.length : Nat) : Int) fun j4 => (loop (p_impl_withColumn_L0 m0 column0 numbers0 j4) (0, List.replicate j4 ([] : List Int))).bind fun m7 => some m7

noncomputable def p_impl_Solve_L0 (m0 : List (List Int)) (right0 : List Int) (j23 : Nat) (z : Int × List Int) : O (Lp (Int × List Int) (List Int)) := match z with | (x29, l30) => cond (decide (x29 < ((j23 : Nat) : Int))) ((p_impl_withColumn m0 x29 right0).bind fun v37 => (p_impl_Det v37).bind fun v40 => idx j23 x29 fun j42 => some (.next (w64 (x29 + 1), l30.set j42 v40))) (some (.out l30))
noncomputable def p_impl_Solve (m0 : List (List Int)) (right0 : List Int) : O (List Int × Int) := ((p_impl_MatrixValid m0).bind fun v8 => cond (!v8) (some true) (cond (((right0.length : Nat) : Int) != ((m0.length : Nat) : Int)) (some true) ((p_impl_entriesFit right0).bind fun v13 => some (!v13)))).bind fun x3 => cond x3 (some (([] : List Int), 0)) ((p_impl_Det m0).bind fun v20 => cond (v20 == 0) (some (([] : List Int), 0)) (sized ((m0.length : Nat) : Int) fun j23 => (loop (p_impl_Solve_L0 m0 right0 j23) (0, List.replicate j23 0)).bind fun l25 => some (l25, v20)))

noncomputable def p_spec_l2Column_L0 (m0 : List (List Int)) (column0 : Int) (list0 : List Int) (z : List (List Int) × Int) : O (Lp (List (List Int) × Int) (List (List Int))) := match z with | (out10, k11) => cond (decide (k11 < ((m0.length : Nat) : Int))) (idx m0.length k11 fun j20 => need (([] : List Int).length + (gx m0 j20).length ≤ 1073741824) <| idx list0.length k11 fun j24 => idx ((([] : List Int) ++ (gx m0 j20)).length) column0 fun j25 => need (out10.length + 1 ≤ 1073741824) <| some (.next (out10 ++ [(([] : List Int) ++ (gx m0 j20)).set j25 (gx list0 j24)], w64 (k11 + 1)))) (some (.out out10))
noncomputable def p_spec_l2Column (m0 : List (List Int)) (column0 : Int) (list0 : List Int) : O (List (List Int)) := (loop (p_spec_l2Column_L0 m0 column0 list0) (([] : List (List Int)), 0)).bind fun out6 => some out6

noncomputable def p_spec_Solve_L0 (right0 : List Int) (k19 : Int) : O (Lp Int (Unit ⊕ (List Int × Int))) := cond (decide (k19 < ((right0.length : Nat) : Int))) (idx right0.length k19 fun j25 => (p_spec_l1In (gx right0 j25) (-999) 999).bind fun v27 => cond (!v27) (some (.out (.inr (([] : List Int), 0)))) (some (.next (w64 (k19 + 1))))) (some (.out (.inl ())))
noncomputable def p_spec_Solve_L1 (m0 : List (List Int)) (right0 : List Int) (z : List Int × Int) : O (Lp (List Int × Int) (List Int)) := match z with | (out37, k38) => cond (decide (k38 < ((m0.length : Nat) : Int))) ((p_spec_l2Column m0 k38 right0).bind fun v46 => (p_spec_Det v46).bind fun v49 => need (out37.length + ([v49] : List Int).length ≤ 1073741824) <| some (.next (out37 ++ ([v49] : List Int), w64 (k38 + 1)))) (some (.out out37))
noncomputable def p_spec_Solve (m0 : List (List Int)) (right0 : List Int) : O (List Int × Int) := (p_spec_Det m0).bind fun v5 => (cond (v5 == 0) (some true) (some (((right0.length : Nat) : Int) != ((m0.length : Nat) : Int)))).bind fun x7 => cond x7 (some (([] : List Int), 0)) ((loop (p_spec_Solve_L0 right0) 0 : O (Unit ⊕ (List Int × Int))).bind fun | .inr w => some w | .inl _ => (loop (p_spec_Solve_L1 m0 right0) (([] : List Int), 0)).bind fun out33 => some (out33, v5))

end Go.Proofs.Ytkhjbfngafebeaa
namespace Go.Proofs.Ytkhjbfngafebeaa
open Go
set_option linter.unusedVariables false
set_option linter.unusedSimpArgs false

noncomputable def p_impl_Parts_L0 (s0 : Survey) (z : Int × List Int) : O (Lp (Int × List Int) (List Int)) := match z with | (x14, l15) => cond (decide (x14 < ((s0.legs.length : Nat) : Int))) (idx s0.legs.length x14 fun j21 => (p_impl_joinParts l15 ((gx s0.legs j21).f) ((gx s0.legs j21).t)).bind fun (v24, v25) => some (.next (w64 (x14 + 1), v25))) (some (.out l15))
noncomputable def p_impl_Parts (s0 : Survey) : O (List Int) := (p_impl_SurveyValid (⟨s0.st, s0.legs⟩ : Survey)).bind fun v4 => cond (!v4) (some ([] : List Int)) ((p_impl_ownParts s0.st).bind fun v8 => (loop (p_impl_Parts_L0 s0) (0, v8)).bind fun l10 => some l10)

noncomputable def p_impl_PartsMany (s0 : Survey) : O (Int) := (p_impl_SurveyValid (⟨s0.st, s0.legs⟩ : Survey)).bind fun v4 => cond (!v4) (some (-1)) ((p_impl_Parts (⟨s0.st, s0.legs⟩ : Survey)).bind fun v8 => (p_impl_countParts v8).bind fun v11 => some v11)

end Go.Proofs.Ytkhjbfngafebeaa
namespace Go.Proofs.Ytkhjbfngafebeaa
open Go
set_option linter.unusedVariables false
set_option linter.unusedSimpArgs false

noncomputable def p_spec_l2Right_L0 (s0 : Survey) (direction0 : Int) (j3 : Nat) (z : Int × List Int) : O (Lp (Int × List Int) (List Int)) := match z with | (k9, l10) => cond (decide (k9 < ((s0.legs.length : Nat) : Int))) (idx s0.legs.length k9 fun j16 => idx 3 direction0 fun j19 => idx j3 ((gx s0.legs j16).t) fun j20 => idx j3 ((gx s0.legs j16).f) fun j21 => some (.next (w64 (k9 + 1), (l10.set j20 (w64 ((gx l10 j20) + (gx ([(gx s0.legs j16).e, (gx s0.legs j16).n, (gx s0.legs j16).u] : List Int) j19)))).set j21 (w64 ((gx (l10.set j20 (w64 ((gx l10 j20) + (gx ([(gx s0.legs j16).e, (gx s0.legs j16).n, (gx s0.legs j16).u] : List Int) j19)))) j21) - (gx ([(gx s0.legs j16).e, (gx s0.legs j16).n, (gx s0.legs j16).u] : List Int) j19)))))) (some (.out l10))
noncomputable def p_spec_l2Right (s0 : Survey) (direction0 : Int) : O (List Int) := sized s0.st fun j3 => (loop (p_spec_l2Right_L0 s0 direction0 j3) (0, List.replicate j3 0)).bind fun l5 => cut j3 1 ((j3 : Nat) : Int) fun j25 j26 => some ((l5.drop j25).take (j26 - j25))

noncomputable def p_spec_Adjust_L0 (v26 : List Int) (v34 : List Int) (v42 : List Int) (z : Int × List Way) : O (Lp (Int × List Way) (List Way)) := match z with | (k52, nums53) => cond (decide (k52 < ((v26.length : Nat) : Int))) (idx v26.length k52 fun j60 => idx v34.length k52 fun j61 => idx v42.length k52 fun j62 => need (nums53.length + ([(⟨gx v26 j60, gx v34 j61, gx v42 j62⟩ : Way)] : List Way).length ≤ 1073741824) <| some (.next (w64 (k52 + 1), nums53 ++ ([(⟨gx v26 j60, gx v34 j61, gx v42 j62⟩ : Way)] : List Way)))) (some (.out nums53))
noncomputable def p_spec_Adjust (s0 : Survey) : O (Fix × Bool) := ((p_spec_SurveyValid (⟨s0.st, s0.legs⟩ : Survey)).bind fun v9 => cond (!v9) (some true) ((p_spec_PartsMany (⟨s0.st, s0.legs⟩ : Survey)).bind fun v13 => some (v13 != 1))).bind fun x4 => cond x4 (some ((⟨0, ([] : List Way)⟩ : Fix), false)) ((p_spec_Links (⟨s0.st, s0.legs⟩ : Survey)).bind fun v20 => (p_spec_l2Right (⟨s0.st, s0.legs⟩ : Survey) 0).bind fun v23 => (p_spec_Solve v20 v23).bind fun (v26, v27) => (p_spec_l2Right (⟨s0.st, s0.legs⟩ : Survey) 1).bind fun v31 => (p_spec_Solve v20 v31).bind fun (v34, v35) => (p_spec_l2Right (⟨s0.st, s0.legs⟩ : Survey) 2).bind fun v39 => (p_spec_Solve v20 v39).bind fun (v42, v43) => (loop (p_spec_Adjust_L0 v26 v34 v42) (0, ([(⟨0, 0, 0⟩ : Way)] : List Way))).bind fun nums48 => some ((⟨v27, nums48⟩ : Fix), true))

end Go.Proofs.Ytkhjbfngafebeaa
namespace Go.Proofs.Ytkhjbfngafebeaa
open Go
set_option linter.unusedVariables false
set_option linter.unusedSimpArgs false

noncomputable def p_impl_Adjust_L0 (s0 : Survey) (j19 : Nat) (j21 : Nat) (j23 : Nat) (z : Int × List Int × List Int × List Int) : O (Lp (Int × List Int × List Int × List Int) (List Int × List Int × List Int)) := match z with | (x32, l33, l34, l35) => cond (decide (x32 < ((s0.legs.length : Nat) : Int))) (idx s0.legs.length x32 fun j41 => (cond (decide (0 < ((gx s0.legs j41).t))) (idx j19 (w64 (((gx s0.legs j41).t) - 1)) fun j50 => idx j21 (w64 (((gx s0.legs j41).t) - 1)) fun j51 => idx j23 (w64 (((gx s0.legs j41).t) - 1)) fun j52 => some (l33.set j50 (w64 ((gx l33 j50) + ((gx s0.legs j41).e))), l34.set j51 (w64 ((gx l34 j51) + ((gx s0.legs j41).n))), l35.set j52 (w64 ((gx l35 j52) + ((gx s0.legs j41).u))))) (some (l33, l34, l35))).bind fun (l43, l44, l45) => cond (decide (0 < ((gx s0.legs j41).f))) (idx j19 (w64 (((gx s0.legs j41).f) - 1)) fun j57 => idx j21 (w64 (((gx s0.legs j41).f) - 1)) fun j58 => idx j23 (w64 (((gx s0.legs j41).f) - 1)) fun j59 => some (.next (w64 (x32 + 1), l43.set j57 (w64 ((gx l43 j57) - ((gx s0.legs j41).e))), l44.set j58 (w64 ((gx l44 j58) - ((gx s0.legs j41).n))), l45.set j59 (w64 ((gx l45 j59) - ((gx s0.legs j41).u)))))) (some (.next (w64 (x32 + 1), l43, l44, l45)))) (some (.out (l33, l34, l35)))
noncomputable def p_impl_Adjust_L1 (s0 : Survey) (v67 : List Int) (v72 : List Int) (v77 : List Int) (j81 : Nat) (z : Int × List Way) : O (Lp (Int × List Way) (List Way)) := match z with | (x87, l88) => cond (decide (x87 < (w64 (s0.st - 1)))) (idx v67.length x87 fun j94 => idx v72.length x87 fun j95 => idx v77.length x87 fun j96 => idx j81 (w64 (x87 + 1)) fun j97 => some (.next (w64 (x87 + 1), l88.set j97 (⟨gx v67 j94, gx v72 j95, gx v77 j96⟩ : Way)))) (some (.out l88))
noncomputable def p_impl_Adjust (s0 : Survey) : O (Fix × Bool) := ((p_impl_SurveyValid (⟨s0.st, s0.legs⟩ : Survey)).bind fun v9 => cond (!v9) (some true) ((p_impl_PartsMany (⟨s0.st, s0.legs⟩ : Survey)).bind fun v13 => some (v13 != 1))).bind fun x4 => cond x4 (some ((⟨0, ([] : List Way)⟩ : Fix), false)) (sized (w64 (s0.st - 1)) fun j19 => sized (w64 (s0.st - 1)) fun j21 => sized (w64 (s0.st - 1)) fun j23 => (loop (p_impl_Adjust_L0 s0 j19 j21 j23) (0, List.replicate j19 0, List.replicate j21 0, List.replicate j23 0)).bind fun (l26, l27, l28) => (p_impl_Links (⟨s0.st, s0.legs⟩ : Survey)).bind fun v64 => (p_impl_Solve v64 l26).bind fun (v67, v68) => (p_impl_Solve v64 l27).bind fun (v72, v73) => (p_impl_Solve v64 l28).bind fun (v77, v78) => sized s0.st fun j81 => (loop (p_impl_Adjust_L1 s0 v67 v72 v77 j81) (0, List.replicate j81 (⟨0, 0, 0⟩ : Way))).bind fun l83 => some ((⟨v68, l83⟩ : Fix), true))

end Go.Proofs.Ytkhjbfngafebeaa
namespace Go.Proofs.Ytkhjbfngafebeaa
open Go
set_option linter.unusedVariables false
set_option linter.unusedSimpArgs false

noncomputable def p_laws_FnExactAdjust (aS0 : Survey) : O (Bool) := (p_laws_szSurvey (⟨aS0.st, aS0.legs⟩ : Survey) 1048576).bind fun v4 => cond (decide (v4 < 0)) (some true) ((p_laws_toSurvey (⟨aS0.st, aS0.legs⟩ : Survey)).bind fun v8 => (p_spec_Adjust v8).bind fun (v11, v12) => (p_laws_toSurvey (⟨aS0.st, aS0.legs⟩ : Survey)).bind fun v17 => (p_impl_Adjust (⟨v17.st, v17.legs⟩ : Survey)).bind fun (v21, v22) => ((p_laws_eqFix (⟨v21.den, v21.nums⟩ : Fix) (⟨v11.den, v11.nums⟩ : Fix)).bind fun v31 => cond (!v31) (some true) (some (!(v22 == v12)))).bind fun x26 => cond x26 (some false) ((p_laws_toSurvey (⟨aS0.st, aS0.legs⟩ : Survey)).bind fun v39 => (p_laws_eqSurvey (⟨v17.st, v17.legs⟩ : Survey) v39).bind fun v42 => cond (!v42) (some false) ((p_laws_markSurvey (⟨v17.st, v17.legs⟩ : Survey) 1).bind fun (v46, v47) => (cond (decide (v46 < 0)) (some true) ((p_laws_eqFix (⟨v21.den, v21.nums⟩ : Fix) (⟨v11.den, v11.nums⟩ : Fix)).bind fun v55 => cond (!v55) (some true) (some (!(v22 == v12))))).bind fun x49 => cond x49 (some false) ((p_laws_markFix (⟨v21.den, v21.nums⟩ : Fix) 1).bind fun (v63, v64) => (p_laws_heldFix (⟨v21.den, v64⟩ : Fix) 1).bind fun v67 => cond (decide (v67 < 0)) (some false) (cond (v67 != v63) (some false) ((p_laws_toSurvey (⟨aS0.st, aS0.legs⟩ : Survey)).bind fun v72 => (p_impl_Adjust v72).bind fun (v75, v76) => ((p_laws_eqFix (⟨v75.den, v75.nums⟩ : Fix) (⟨v11.den, v11.nums⟩ : Fix)).bind fun v85 => cond (!v85) (some true) (some (!(v76 == v12)))).bind fun x80 => cond x80 (some false) ((p_laws_heldFix (⟨v21.den, v64⟩ : Fix) 1).bind fun v93 => cond (decide (v93 < 0)) (some false) (cond (v93 != v63) (some false) (some true)))))))))

end Go.Proofs.Ytkhjbfngafebeaa
