/- Functions of the program as plain partial programs; no condition. -/
import Derived.Test.YtnibfmofkamjoaaDoorDa
import Derived.Test.YtnibfmofkamjoaaDoorQbw
namespace Go.Proofs.YtnibfmofkamjoaaDoor
open Go
set_option linter.unusedVariables false
set_option linter.unusedSimpArgs false

noncomputable def p_impl_ownParts_L0 (j1 : Nat) (z : Int × List Int) : O (Lp (Int × List Int) (List Int)) := match z with | (x7, l8) => cond (decide (x7 < ((j1 : Nat) : Int))) (idx j1 x7 fun j14 => some (.next (w64 (x7 + 1), l8.set j14 x7))) (some (.out l8))
noncomputable def p_impl_ownParts (many0 : Int) : O (List Int) := sized many0 fun j1 => (loop (p_impl_ownParts_L0 j1) (0, List.replicate j1 0)).bind fun l3 => some l3


noncomputable def p_impl_joinParts_L0 (parts0 : List Int) (j2 : Nat) (j3 : Nat) (z : Int × List Int) : O (Lp (Int × List Int) (List Int)) := match z with | (x9, l10) => cond (decide (x9 < ((parts0.length : Nat) : Int))) (idx parts0.length x9 fun j16 => cond ((gx l10 j16) == (max (gx parts0 j2) (gx parts0 j3))) (some (.next (w64 (x9 + 1), l10.set j16 (min (gx parts0 j2) (gx parts0 j3))))) (some (.next (w64 (x9 + 1), l10)))) (some (.out l10))
noncomputable def p_impl_joinParts (parts0 : List Int) (a0 : Int) (b0 : Int) : O (Bool × List Int) := idx parts0.length a0 fun j2 => idx parts0.length b0 fun j3 => cond ((min (gx parts0 j2) (gx parts0 j3)) == (max (gx parts0 j2) (gx parts0 j3))) (some (false, parts0)) ((loop (p_impl_joinParts_L0 parts0 j2 j3) (0, parts0)).bind fun l5 => some (true, l5))


noncomputable def p_impl_countParts_L0 (parts0 : List Int) (z : Int × Int) : O (Lp (Int × Int) Int) := match z with | (many6, x7) => cond (decide (x7 < ((parts0.length : Nat) : Int))) (idx parts0.length x7 fun j13 => cond ((gx parts0 j13) == x7) (some (.next (w64 (many6 + 1), w64 (x7 + 1)))) (some (.next (many6, w64 (x7 + 1))))) (some (.out many6))
noncomputable def p_impl_countParts (parts0 : List Int) : O (Int) := (loop (p_impl_countParts_L0 parts0) (0, 0)).bind fun many2 => some many2


noncomputable def p_impl_SurveyValid_L0 (s0 : Survey) (x16 : Int) : O (Lp Int (Unit ⊕ Bool)) := cond (decide (x16 < ((s0.legs.length : Nat) : Int))) (idx s0.legs.length x16 fun j22 => (p_impl_LegValid s0.st (⟨(gx s0.legs j22).f, (gx s0.legs j22).t, (gx s0.legs j22).e, (gx s0.legs j22).n, (gx s0.legs j22).u⟩ : Leg)).bind fun v25 => cond (!v25) (some (.out (.inr false))) (some (.next (w64 (x16 + 1))))) (some (.out (.inl ())))
noncomputable def p_impl_SurveyValid (s0 : Survey) : O (Bool) := (cond (decide (s0.st < 1)) (some true) (cond (decide (6 < s0.st)) (some true) (some (decide (9 < ((s0.legs.length : Nat) : Int)))))).bind fun x3 => cond x3 (some false) ((loop (p_impl_SurveyValid_L0 s0) 0 : O (Unit ⊕ Bool)).bind fun | .inr w => some w | .inl _ => some true)


noncomputable def p_spec_LegValid (stations0 : Int) (g0 : Leg) : O (Bool) := (p_spec_l1In stations0 1 6).bind fun v3 => cond v3 ((p_spec_l1In g0.f 0 (w64 (stations0 - 1))).bind fun v7 => cond v7 ((p_spec_l1In g0.t 0 (w64 (stations0 - 1))).bind fun v11 => cond v11 (cond (g0.f != g0.t) ((p_spec_l1In g0.e (-99) 99).bind fun v16 => cond v16 ((p_spec_l1In g0.n (-99) 99).bind fun v20 => cond v20 ((p_spec_l1In g0.u (-99) 99).bind fun v24 => some v24) (some false)) (some false)) (some false)) (some false)) (some false)) (some false)


noncomputable def p_spec_SurveyValid_L0 (s0 : Survey) (k6 : Int) : O (Lp Int (Unit ⊕ Bool)) := cond (decide (k6 < ((s0.legs.length : Nat) : Int))) (idx s0.legs.length k6 fun j12 => (p_spec_LegValid s0.st (gx s0.legs j12)).bind fun v14 => cond (!v14) (some (.out (.inr false))) (some (.next (w64 (k6 + 1))))) (some (.out (.inl ())))
noncomputable def p_spec_SurveyValid (s0 : Survey) : O (Bool) := (loop (p_spec_SurveyValid_L0 s0) 0 : O (Unit ⊕ Bool)).bind fun | .inr w => some w | .inl _ => (p_spec_l1In s0.st 1 6).bind fun v21 => cond v21 (some (decide (((s0.legs.length : Nat) : Int) ≤ 9))) (some false)


noncomputable def p_spec_l1Parts_L0 (s0 : Survey) (z : List Int × Int) : O (Lp (List Int × Int) (List Int)) := match z with | (part9, k10) => cond (decide (k10 < s0.st)) (need (part9.length + ([k10] : List Int).length ≤ 1073741824) <| some (.next (part9 ++ ([k10] : List Int), w64 (k10 + 1)))) (some (.out part9))
noncomputable def p_spec_l1Parts_L2 (part5 : List Int) (l30 : List Int) (j38 : Nat) (j39 : Nat) (z : Int × List Int) : O (Lp (Int × List Int) (List Int)) := match z with | (k44, l45) => cond (decide (k44 < ((part5.length : Nat) : Int))) (idx part5.length k44 fun j51 => cond ((gx l45 j51) == (max (gx l30 j38) (gx l30 j39))) (some (.next (w64 (k44 + 1), l45.set j51 (min (gx l30 j38) (gx l30 j39))))) (some (.next (w64 (k44 + 1), l45)))) (some (.out l45))
noncomputable def p_spec_l1Parts_L1 (s0 : Survey) (use0 : List Int) (part5 : List Int) (z : Int × List Int) : O (Lp (Int × List Int) (List Int)) := match z with | (n29, l30) => cond (decide (n29 < ((use0.length : Nat) : Int))) (idx use0.length n29 fun j36 => idx s0.legs.length (gx use0 j36) fun j37 => idx part5.length ((gx s0.legs j37).f) fun j38 => idx part5.length ((gx s0.legs j37).t) fun j39 => (loop (p_spec_l1Parts_L2 part5 l30 j38 j39) (0, l30)).bind fun l40 => some (.next (w64 (n29 + 1), l40))) (some (.out l30))
noncomputable def p_spec_l1Parts (s0 : Survey) (use0 : List Int) : O (List Int) := (loop (p_spec_l1Parts_L0 s0) (([] : List Int), 0)).bind fun part5 => (loop (p_spec_l1Parts_L1 s0 use0 part5) (0, part5)).bind fun l25 => some l25


noncomputable def p_spec_l1All_L0 (n0 : Int) (z : List Int × Int) : O (Lp (List Int × Int) (List Int)) := match z with | (out6, k7) => cond (decide (k7 < n0)) (need (out6.length + ([k7] : List Int).length ≤ 1073741824) <| some (.next (out6 ++ ([k7] : List Int), w64 (k7 + 1)))) (some (.out out6))
noncomputable def p_spec_l1All (n0 : Int) : O (List Int) := (loop (p_spec_l1All_L0 n0) (([] : List Int), 0)).bind fun out2 => some out2


noncomputable def p_spec_Parts (s0 : Survey) : O (List Int) := (p_spec_SurveyValid (⟨s0.st, s0.legs⟩ : Survey)).bind fun v4 => cond (!v4) (some ([] : List Int)) ((p_spec_l1All ((s0.legs.length : Nat) : Int)).bind fun v9 => (p_spec_l1Parts (⟨s0.st, s0.legs⟩ : Survey) v9).bind fun v12 => some v12)


noncomputable def p_spec_PartsMany_L0 (v8 : List Int) (z : Int × Int) : O (Lp (Int × Int) Int) := match z with | (n14, k15) => cond (decide (k15 < ((v8.length : Nat) : Int))) (idx v8.length k15 fun j21 => cond ((gx v8 j21) == k15) (some (.next (w64 (n14 + 1), w64 (k15 + 1)))) (some (.next (n14, w64 (k15 + 1))))) (some (.out n14))
noncomputable def p_spec_PartsMany (s0 : Survey) : O (Int) := (p_spec_SurveyValid (⟨s0.st, s0.legs⟩ : Survey)).bind fun v4 => cond (!v4) (some (-1)) ((p_spec_Parts (⟨s0.st, s0.legs⟩ : Survey)).bind fun v8 => (loop (p_spec_PartsMany_L0 v8) (0, 0)).bind fun n10 => some n10)


end Go.Proofs.YtnibfmofkamjoaaDoor
