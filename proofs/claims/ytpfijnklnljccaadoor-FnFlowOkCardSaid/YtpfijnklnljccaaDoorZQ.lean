/- Functions of the program as plain partial programs; no condition. -/
import Derived.Test.YtpfijnklnljccaaDoorZDa
import Derived.Test.YtpfijnklnljccaaDoorZKw
namespace Go.Proofs.YtpfijnklnljccaaDoor
open Go
set_option linter.unusedVariables false
set_option linter.unusedSimpArgs false

noncomputable def p_spec_l20Open (code0 : List UInt8) : O (Rd) := cond (decide (2000 < ((code0.length : Nat) : Int))) (cut code0.length 0 2000 fun j3 j4 => some (⟨(code0.drop j3).take (j4 - j3), 0⟩ : Rd)) (some (⟨code0, 0⟩ : Rd))

noncomputable def p_spec_l20Rd_pick (r0 : Rd) (n0 : Int) : O (Int × Int) := (cond (decide (n0 < 1)) (some true) (some (((r0.b.length : Nat) : Int) == 0))).bind fun x2 => cond x2 (some (0, w64 (r0.p + 1))) (cond (decide ((w64 ((w64 (r0.p + 1)) - 1)) < ((r0.b.length : Nat) : Int))) (idx r0.b.length (w64 ((w64 (r0.p + 1)) - 1)) fun j12 => need (n0 ≠ 0) <| some (Int.tmod (w64 ((gx r0.b j12).toNat : Int)) n0, w64 (r0.p + 1))) (need (((r0.b.length : Nat) : Int) ≠ 0) <| idx r0.b.length (Int.tmod (w64 ((w64 (r0.p + 1)) - 1)) ((r0.b.length : Nat) : Int)) fun j15 => need (((r0.b.length : Nat) : Int) ≠ 0) <| idx r0.b.length (Int.tmod (w64 ((w64 ((w64 ((w64 (r0.p + 1)) - 1)) * 7)) + 3)) ((r0.b.length : Nat) : Int)) fun j17 => need (((r0.b.length : Nat) : Int) ≠ 0) <| need (n0 ≠ 0) <| some (Int.tmod (IntKind.i64.wrap (BitVec.ofInt IntKind.i64.bits (w64 ((w64 ((w64 ((w64 ((w64 ((gx r0.b j15).toNat : Int)) * 131)) + (w64 ((w64 ((gx r0.b j17).toNat : Int)) * 1117)))) + (w64 ((w64 ((w64 (r0.p + 1)) - 1)) * 29)))) + (w64 ((w64 (Int.tdiv (w64 ((w64 (r0.p + 1)) - 1)) ((r0.b.length : Nat) : Int))) * 53)))) ^^^ BitVec.ofInt IntKind.i64.bits (w64 (Int.tdiv (w64 ((w64 ((w64 ((w64 ((w64 ((gx r0.b j15).toNat : Int)) * 131)) + (w64 ((w64 ((gx r0.b j17).toNat : Int)) * 1117)))) + (w64 ((w64 ((w64 (r0.p + 1)) - 1)) * 29)))) + (w64 ((w64 (Int.tdiv (w64 ((w64 (r0.p + 1)) - 1)) ((r0.b.length : Nat) : Int))) * 53)))) 64))).toNat) n0, w64 (r0.p + 1))))

noncomputable def p_spec_l20Rd_odd (r0 : Rd) (n0 : Int) : O (Bool × Int) := cond (decide (0 < n0)) ((p_spec_l20Rd_pick (⟨r0.b, r0.p⟩ : Rd) n0).bind fun (v4, v5) => some (v4 == (w64 (n0 - 1)), v5)) (some (false, r0.p))

end Go.Proofs.YtpfijnklnljccaaDoor
namespace Go.Proofs.YtpfijnklnljccaaDoor
open Go
set_option linter.unusedVariables false
set_option linter.unusedSimpArgs false

noncomputable def p_spec_l20Mine_L0 (r0 : Rd) (v4 : Int) (v9 : Int) (z : Int × Int × List Airway) : O (Lp (Int × Int × List Airway) (Int × List Airway)) := match z with | (k17, p18, aw19) => cond (decide (k17 < (w64 (2 + v4)))) ((cond (!(v9 == 0)) (some (true, p18)) ((p_spec_l20Rd_pick (⟨r0.b, p18⟩ : Rd) 3).bind fun (v33, v34) => some (decide (0 < v33), v34))).bind fun (x26, p27) => cond x26 ((p_spec_l20Rd_pick (⟨r0.b, p27⟩ : Rd) k17).bind fun (v41, v42) => (p_spec_l20Rd_pick (⟨r0.b, v42⟩ : Rd) 6).bind fun (v45, v46) => need (aw19.length + ([(⟨v41, k17, w64 (1 + v45)⟩ : Airway)] : List Airway).length ≤ 1073741824) <| some (.next (w64 (k17 + 1), v46, aw19 ++ ([(⟨v41, k17, w64 (1 + v45)⟩ : Airway)] : List Airway)))) (some (.next (w64 (k17 + 1), p27, aw19)))) (some (.out (p18, aw19)))
noncomputable def p_spec_l20Mine_L1 (r0 : Rd) (v4 : Int) (z : Int × Int × List Airway) : O (Lp (Int × Int × List Airway) (Int × List Airway)) := match z with | (k65, p66, aw67) => (cond (decide (0 < k65)) (some (decide (((aw67.length : Nat) : Int) < 7))) (some false)).bind fun x73 => cond x73 ((p_spec_l20Rd_pick (⟨r0.b, p66⟩ : Rd) (w64 (2 + v4))).bind fun (v83, v84) => (p_spec_l20Rd_pick (⟨r0.b, v84⟩ : Rd) (w64 (2 + v4))).bind fun (v87, v88) => (p_spec_l20Rd_pick (⟨r0.b, v88⟩ : Rd) 6).bind fun (v91, v92) => cond (v83 != v87) (need (aw67.length + ([(⟨v83, v87, w64 (1 + v91)⟩ : Airway)] : List Airway).length ≤ 1073741824) <| some (.next (w64 (k65 - 1), v92, aw67 ++ ([(⟨v83, v87, w64 (1 + v91)⟩ : Airway)] : List Airway)))) (some (.next (w64 (k65 - 1), v92, aw67)))) (some (.out (p66, aw67)))
noncomputable def p_spec_l20Mine (r0 : Rd) (n0 : Int) : O (Mine × Int) := (p_spec_l20Rd_pick (⟨r0.b, r0.p⟩ : Rd) 4).bind fun (v4, v5) => (p_spec_l20Rd_pick (⟨r0.b, v5⟩ : Rd) 7).bind fun (v9, v10) => (loop (p_spec_l20Mine_L0 r0 v4 v9) (1, v10, ([] : List Airway))).bind fun (p12, aw13) => (p_spec_l20Rd_pick (⟨r0.b, p12⟩ : Rd) 4).bind fun (v57, v58) => (loop (p_spec_l20Mine_L1 r0 v4) (v57, v58, aw13)).bind fun (p60, aw61) => (p_spec_l20Rd_odd (⟨r0.b, p60⟩ : Rd) n0).bind fun (v106, v107) => cond v106 ((p_spec_l20Rd_pick (⟨r0.b, v107⟩ : Rd) 4).bind fun (v111, v112) => cond (v111 == 0) ((p_spec_l20Rd_pick (⟨r0.b, v112⟩ : Rd) 2).bind fun (v117, v118) => idx 2 v117 fun j120 => some ((⟨gx ([0, 6] : List Int) j120, aw61⟩ : Mine), v118)) (cond (v111 == 1) (need (aw61.length + ([(⟨1, 1, 1⟩ : Airway)] : List Airway).length ≤ 1073741824) <| some ((⟨w64 (2 + v4), aw61 ++ ([(⟨1, 1, 1⟩ : Airway)] : List Airway)⟩ : Mine), v112)) (cond (v111 == 2) ((p_spec_l20Rd_pick (⟨r0.b, v112⟩ : Rd) 2).bind fun (v129, v130) => idx 2 v129 fun j132 => need (aw61.length + ([(⟨0, 1, gx ([0, 7] : List Int) j132⟩ : Airway)] : List Airway).length ≤ 1073741824) <| some ((⟨w64 (2 + v4), aw61 ++ ([(⟨0, 1, gx ([0, 7] : List Int) j132⟩ : Airway)] : List Airway)⟩ : Mine), v130)) (sized 8 fun j138 => some ((⟨w64 (2 + v4), List.replicate j138 (⟨0, 0, 0⟩ : Airway)⟩ : Mine), v112))))) (some ((⟨w64 (2 + v4), aw61⟩ : Mine), v107))

noncomputable def p_spec_l20PlaceOf (r0 : Rd) (m0 : Mine) : O (Int × Int) := (p_spec_l20Rd_pick (⟨r0.b, r0.p⟩ : Rd) (max m0.p 1)).bind fun (v5, v6) => (p_spec_l20Rd_pick (⟨r0.b, v6⟩ : Rd) 40).bind fun (v9, v10) => (p_spec_l20Rd_pick (⟨r0.b, v10⟩ : Rd) 40).bind fun (v13, v14) => some (w64 ((w64 (v5 + (w64 ((w64 (Int.tdiv v9 39)) * 6)))) - (w64 ((w64 (Int.tdiv v13 39)) * 7))), v14)

end Go.Proofs.YtpfijnklnljccaaDoor
namespace Go.Proofs.YtpfijnklnljccaaDoor
open Go
set_option linter.unusedVariables false
set_option linter.unusedSimpArgs false

noncomputable def p_impl_isIndex (number0 : Int) (many0 : Int) : O (Bool) := cond (decide (0 ≤ number0)) (some (decide (number0 < many0))) (some false)

noncomputable def p_impl_isWithin (number0 : Int) (limit0 : Int) : O (Bool) := cond (decide ((w64 (-limit0)) ≤ number0)) (some (decide (number0 ≤ limit0))) (some false)

noncomputable def p_spec_l1In (n0 : Int) (low0 : Int) (high0 : Int) : O (Bool) := cond (decide (low0 ≤ n0)) (some (decide (n0 ≤ high0))) (some false)

noncomputable def p_impl_stepFits (number0 : Int) : O (Bool) := (p_impl_isWithin number0 99).bind fun v2 => some v2

noncomputable def p_impl_LegValid (stations0 : Int) (g0 : Leg) : O (Bool) := (cond (decide (stations0 < 1)) (some true) (some (decide (6 < stations0)))).bind fun x2 => cond x2 (some false) (((p_impl_isIndex g0.f stations0).bind fun v16 => cond (!v16) (some true) ((p_impl_isIndex g0.t stations0).bind fun v20 => cond (!v20) (some true) (some (g0.f == g0.t)))).bind fun x11 => cond x11 (some false) ((p_impl_stepFits g0.e).bind fun v28 => cond v28 ((p_impl_stepFits g0.n).bind fun v32 => cond v32 ((p_impl_stepFits g0.u).bind fun v36 => some v36) (some false)) (some false)))

noncomputable def p_impl_legWay (g0 : Leg) : O (Way) := some (⟨g0.e, g0.n, g0.u⟩ : Way)

end Go.Proofs.YtpfijnklnljccaaDoor
namespace Go.Proofs.YtpfijnklnljccaaDoor
open Go
set_option linter.unusedVariables false
set_option linter.unusedSimpArgs false

noncomputable def p_impl_MineValid_L0 (m0 : Mine) (x16 : Int) : O (Lp Int (Unit ⊕ Bool)) := cond (decide (x16 < ((m0.aw.length : Nat) : Int))) (idx m0.aw.length x16 fun j22 => ((p_impl_isIndex ((gx m0.aw j22).f) m0.p).bind fun v29 => cond (!v29) (some true) ((p_impl_isIndex ((gx m0.aw j22).t) m0.p).bind fun v33 => cond (!v33) (some true) (some (((gx m0.aw j22).f) == ((gx m0.aw j22).t))))).bind fun x24 => cond x24 (some (.out (.inr false))) (cond (decide (((gx m0.aw j22).w) < 1)) (some (.out (.inr false))) (cond (decide (6 < ((gx m0.aw j22).w))) (some (.out (.inr false))) (some (.next (w64 (x16 + 1))))))) (some (.out (.inl ())))
noncomputable def p_impl_MineValid (m0 : Mine) : O (Bool) := (cond (decide (m0.p < 1)) (some true) (cond (decide (5 < m0.p)) (some true) (some (decide (7 < ((m0.aw.length : Nat) : Int)))))).bind fun x3 => cond x3 (some false) ((loop (p_impl_MineValid_L0 m0) 0 : O (Unit ⊕ Bool)).bind fun | .inr w => some w | .inl _ => some true)

noncomputable def p_spec_MineValid_L0 (m0 : Mine) (k6 : Int) : O (Lp Int (Unit ⊕ Bool)) := cond (decide (k6 < ((m0.aw.length : Nat) : Int))) (idx m0.aw.length k6 fun j12 => (p_spec_l1In ((gx m0.aw j12).f) 0 (w64 (m0.p - 1))).bind fun v15 => cond (!v15) (some (.out (.inr false))) ((p_spec_l1In ((gx m0.aw j12).t) 0 (w64 (m0.p - 1))).bind fun v19 => cond (!v19) (some (.out (.inr false))) (cond (((gx m0.aw j12).f) == ((gx m0.aw j12).t)) (some (.out (.inr false))) ((p_spec_l1In ((gx m0.aw j12).w) 1 6).bind fun v24 => cond (!v24) (some (.out (.inr false))) (some (.next (w64 (k6 + 1)))))))) (some (.out (.inl ())))
noncomputable def p_spec_MineValid (m0 : Mine) : O (Bool) := (loop (p_spec_MineValid_L0 m0) 0 : O (Unit ⊕ Bool)).bind fun | .inr w => some w | .inl _ => (p_spec_l1In m0.p 1 5).bind fun v31 => cond v31 (some (decide (((m0.aw.length : Nat) : Int) ≤ 7))) (some false)

noncomputable def p_impl_squareOf_L0 (many0 : Int) (j2 : Nat) (z : Int × List (List Int)) : O (Lp (Int × List (List Int)) (List (List Int))) := match z with | (x9, m10) => cond (decide (x9 < ((j2 : Nat) : Int))) (sized many0 fun j18 => idx j2 x9 fun j20 => some (.next (w64 (x9 + 1), m10.set j20 (List.replicate j18 0)))) (some (.out m10))
noncomputable def p_impl_squareOf (many0 : Int) : O (List (List Int)) := sized many0 fun j2 => (loop (p_impl_squareOf_L0 many0 j2) (0, List.replicate j2 ([] : List Int))).bind fun m5 => some m5

noncomputable def p_impl_addLink (m0 : List (List Int)) (a0 : Int) (b0 : Int) (weight0 : Int) : O (List (List Int)) := (cond (decide (0 < a0)) (idx m0.length (w64 (a0 - 1)) fun j7 => idx ((gx m0 j7).length) (w64 (a0 - 1)) fun j8 => some (m0.set j7 ((gx m0 j7).set j8 (w64 ((gx (gx m0 j7) j8) + weight0))))) (some m0)).bind fun m2 => (cond (decide (0 < b0)) (idx m0.length (w64 (b0 - 1)) fun j20 => idx ((gx m2 j20).length) (w64 (b0 - 1)) fun j21 => some (m2.set j20 ((gx m2 j20).set j21 (w64 ((gx (gx m2 j20) j21) + weight0))))) (some m2)).bind fun m15 => (cond (decide (0 < a0)) (some (decide (0 < b0))) (some false)).bind fun x28 => cond x28 (idx m0.length (w64 (a0 - 1)) fun j38 => idx ((gx m15 j38).length) (w64 (b0 - 1)) fun j39 => idx m0.length (w64 (b0 - 1)) fun j41 => idx ((gx (m15.set j38 ((gx m15 j38).set j39 (w64 ((gx (gx m15 j38) j39) - weight0)))) j41).length) (w64 (a0 - 1)) fun j42 => some ((m15.set j38 ((gx m15 j38).set j39 (w64 ((gx (gx m15 j38) j39) - weight0)))).set j41 ((gx (m15.set j38 ((gx m15 j38).set j39 (w64 ((gx (gx m15 j38) j39) - weight0)))) j41).set j42 (w64 ((gx (gx (m15.set j38 ((gx m15 j38).set j39 (w64 ((gx (gx m15 j38) j39) - weight0)))) j41) j42) - weight0))))) (some m15)

noncomputable def p_impl_AirMatrix_L0 (m0 : Mine) (z : Int × List (List Int)) : O (Lp (Int × List (List Int)) (List (List Int))) := match z with | (x16, m17) => cond (decide (x16 < ((m0.aw.length : Nat) : Int))) (idx m0.aw.length x16 fun j25 => (p_impl_addLink m17 ((gx m0.aw j25).f) ((gx m0.aw j25).t) ((gx m0.aw j25).w)).bind fun v28 => some (.next (w64 (x16 + 1), v28))) (some (.out m17))
noncomputable def p_impl_AirMatrix (m0 : Mine) : O (List (List Int)) := (p_impl_MineValid (⟨m0.p, m0.aw⟩ : Mine)).bind fun v5 => cond (!v5) (some ([] : List (List Int))) ((p_impl_squareOf (w64 (m0.p - 1))).bind fun v10 => (loop (p_impl_AirMatrix_L0 m0) (0, v10)).bind fun m12 => some m12)

end Go.Proofs.YtpfijnklnljccaaDoor
namespace Go.Proofs.YtpfijnklnljccaaDoor
open Go
set_option linter.unusedVariables false
set_option linter.unusedSimpArgs false

noncomputable def p_impl_ownParts_L0 (j1 : Nat) (z : Int × List Int) : O (Lp (Int × List Int) (List Int)) := match z with | (x7, l8) => cond (decide (x7 < ((j1 : Nat) : Int))) (idx j1 x7 fun j14 => some (.next (w64 (x7 + 1), l8.set j14 x7))) (some (.out l8))
noncomputable def p_impl_ownParts (many0 : Int) : O (List Int) := sized many0 fun j1 => (loop (p_impl_ownParts_L0 j1) (0, List.replicate j1 0)).bind fun l3 => some l3

noncomputable def p_impl_joinParts_L0 (parts0 : List Int) (j2 : Nat) (j3 : Nat) (z : Int × List Int) : O (Lp (Int × List Int) (List Int)) := match z with | (x9, l10) => cond (decide (x9 < ((parts0.length : Nat) : Int))) (idx parts0.length x9 fun j16 => cond ((gx l10 j16) == (max (gx parts0 j2) (gx parts0 j3))) (some (.next (w64 (x9 + 1), l10.set j16 (min (gx parts0 j2) (gx parts0 j3))))) (some (.next (w64 (x9 + 1), l10)))) (some (.out l10))
noncomputable def p_impl_joinParts (parts0 : List Int) (a0 : Int) (b0 : Int) : O (Bool × List Int) := idx parts0.length a0 fun j2 => idx parts0.length b0 fun j3 => cond ((min (gx parts0 j2) (gx parts0 j3)) == (max (gx parts0 j2) (gx parts0 j3))) (some (false, parts0)) ((loop (p_impl_joinParts_L0 parts0 j2 j3) (0, parts0)).bind fun l5 => some (true, l5))

noncomputable def p_impl_countParts_L0 (parts0 : List Int) (z : Int × Int) : O (Lp (Int × Int) Int) := match z with | (many6, x7) => cond (decide (x7 < ((parts0.length : Nat) : Int))) (idx parts0.length x7 fun j13 => cond ((gx parts0 j13) == x7) (some (.next (w64 (many6 + 1), w64 (x7 + 1)))) (some (.next (many6, w64 (x7 + 1))))) (some (.out many6))
noncomputable def p_impl_countParts (parts0 : List Int) : O (Int) := (loop (p_impl_countParts_L0 parts0) (0, 0)).bind fun many2 => some many2

noncomputable def p_impl_AirLinked_L0 (m0 : Mine) (z : Int × List Int) : O (Lp (Int × List Int) (List Int)) := match z with | (x14, l15) => cond (decide (x14 < ((m0.aw.length : Nat) : Int))) (idx m0.aw.length x14 fun j21 => (p_impl_joinParts l15 ((gx m0.aw j21).f) ((gx m0.aw j21).t)).bind fun (v24, v25) => some (.next (w64 (x14 + 1), v25))) (some (.out l15))
noncomputable def p_impl_AirLinked (m0 : Mine) : O (Bool) := (p_impl_MineValid (⟨m0.p, m0.aw⟩ : Mine)).bind fun v4 => cond (!v4) (some false) ((p_impl_ownParts m0.p).bind fun v8 => (loop (p_impl_AirLinked_L0 m0) (0, v8)).bind fun l10 => (p_impl_countParts l10).bind fun v31 => some (v31 == 1))

noncomputable def p_spec_LegValid (stations0 : Int) (g0 : Leg) : O (Bool) := (p_spec_l1In stations0 1 6).bind fun v3 => cond v3 ((p_spec_l1In g0.f 0 (w64 (stations0 - 1))).bind fun v7 => cond v7 ((p_spec_l1In g0.t 0 (w64 (stations0 - 1))).bind fun v11 => cond v11 (cond (g0.f != g0.t) ((p_spec_l1In g0.e (-99) 99).bind fun v16 => cond v16 ((p_spec_l1In g0.n (-99) 99).bind fun v20 => cond v20 ((p_spec_l1In g0.u (-99) 99).bind fun v24 => some v24) (some false)) (some false)) (some false)) (some false)) (some false)) (some false)

noncomputable def p_spec_SurveyValid_L0 (s0 : Survey) (k6 : Int) : O (Lp Int (Unit ⊕ Bool)) := cond (decide (k6 < ((s0.legs.length : Nat) : Int))) (idx s0.legs.length k6 fun j12 => (p_spec_LegValid s0.st (gx s0.legs j12)).bind fun v14 => cond (!v14) (some (.out (.inr false))) (some (.next (w64 (k6 + 1))))) (some (.out (.inl ())))
noncomputable def p_spec_SurveyValid (s0 : Survey) : O (Bool) := (loop (p_spec_SurveyValid_L0 s0) 0 : O (Unit ⊕ Bool)).bind fun | .inr w => some w | .inl _ => (p_spec_l1In s0.st 1 6).bind fun v21 => cond v21 (some (decide (((s0.legs.length : Nat) : Int) ≤ 9))) (some false)

noncomputable def p_spec_l1Parts_L0 (s0 : Survey) (z : List Int × Int) : O (Lp (List Int × Int) (List Int)) := match z with | (part9, k10) => cond (decide (k10 < s0.st)) (need (part9.length + ([k10] : List Int).length ≤ 1073741824) <| some (.next (part9 ++ ([k10] : List Int), w64 (k10 + 1)))) (some (.out part9))
noncomputable def p_spec_l1Parts_L2 (part5 : List Int) (l30 : List Int) (j38 : Nat) (j39 : Nat) (z : Int × List Int) : O (Lp (Int × List Int) (List Int)) := match z with | (k44, l45) => cond (decide (k44 < ((part5.length : Nat) : Int))) (idx part5.length k44 fun j51 => cond ((gx l45 j51) == (max (gx l30 j38) (gx l30 j39))) (some (.next (w64 (k44 + 1), l45.set j51 (min (gx l30 j38) (gx l30 j39))))) (some (.next (w64 (k44 + 1), l45)))) (some (.out l45))
noncomputable def p_spec_l1Parts_L1 (s0 : Survey) (use0 : List Int) (part5 : List Int) (z : Int × List Int) : O (Lp (Int × List Int) (List Int)) := match z with | (n29, l30) => cond (decide (n29 < ((use0.length : Nat) : Int))) (idx use0.length n29 fun j36 => idx s0.legs.length (gx use0 j36) fun j37 => idx part5.length ((gx s0.legs j37).f) fun j38 => idx part5.length ((gx s0.legs j37).t) fun j39 => (loop (p_spec_l1Parts_L2 part5 l30 j38 j39) (0, l30)).bind fun l40 => some (.next (w64 (n29 + 1), l40))) (some (.out l30))
noncomputable def p_spec_l1Parts (s0 : Survey) (use0 : List Int) : O (List Int) := (loop (p_spec_l1Parts_L0 s0) (([] : List Int), 0)).bind fun part5 => (loop (p_spec_l1Parts_L1 s0 use0 part5) (0, part5)).bind fun l25 => some l25

noncomputable def p_spec_l3Survey_L0 (m0 : Mine) (z : Int × List Leg) : O (Lp (Int × List Leg) (List Leg)) := match z with | (k9, legs10) => cond (decide (k9 < ((m0.aw.length : Nat) : Int))) (idx m0.aw.length k9 fun j17 => need (legs10.length + ([(⟨(gx m0.aw j17).f, (gx m0.aw j17).t, 0, 0, 0⟩ : Leg)] : List Leg).length ≤ 1073741824) <| some (.next (w64 (k9 + 1), legs10 ++ ([(⟨(gx m0.aw j17).f, (gx m0.aw j17).t, 0, 0, 0⟩ : Leg)] : List Leg)))) (some (.out legs10))
noncomputable def p_spec_l3Survey (m0 : Mine) : O (Survey) := (loop (p_spec_l3Survey_L0 m0) (0, ([] : List Leg))).bind fun legs5 => some (⟨m0.p, legs5⟩ : Survey)

end Go.Proofs.YtpfijnklnljccaaDoor
namespace Go.Proofs.YtpfijnklnljccaaDoor
open Go
set_option linter.unusedVariables false
set_option linter.unusedSimpArgs false

noncomputable def p_spec_TreeLegs_L0 (s0 : Survey) (z : List Int × Int) : O (Lp (List Int × Int) (List Int)) := match z with | (out8, k9) => (cond (decide (k9 < ((s0.legs.length : Nat) : Int))) ((p_spec_SurveyValid (⟨s0.st, s0.legs⟩ : Survey)).bind fun v21 => some v21) (some false)).bind fun x15 => cond x15 ((p_spec_l1Parts (⟨s0.st, s0.legs⟩ : Survey) out8).bind fun v28 => idx s0.legs.length k9 fun j30 => idx v28.length ((gx s0.legs j30).f) fun j31 => idx v28.length ((gx s0.legs j30).t) fun j32 => cond ((gx v28 j31) != (gx v28 j32)) (need (out8.length + ([k9] : List Int).length ≤ 1073741824) <| some (.next (out8 ++ ([k9] : List Int), w64 (k9 + 1)))) (some (.next (out8, w64 (k9 + 1))))) (some (.out out8))
noncomputable def p_spec_TreeLegs (s0 : Survey) : O (List Int) := (loop (p_spec_TreeLegs_L0 s0) (([] : List Int), 0)).bind fun out4 => some out4

noncomputable def p_spec_l1Find_L0 (s0 : Survey) (use0 : List Int) (from0 : Int) (to0 : Int) (but0 : Int) (rec : Survey → List Int → Int → Int → Int → O (List Step × Bool)) (n9 : Int) : O (Lp Int (Unit ⊕ (List Step × Bool))) := cond (decide (n9 < ((use0.length : Nat) : Int))) (idx use0.length n9 fun j15 => idx s0.legs.length (gx use0 j15) fun j16 => (cond (((gx s0.legs j16).f) == from0) (some (((gx s0.legs j16).t) != but0)) (some false)).bind fun x18 => (cond x18 ((rec (⟨s0.st, s0.legs⟩ : Survey) use0 ((gx s0.legs j16).t) to0 from0).bind fun (v31, v32) => cond v32 (idx use0.length n9 fun j36 => need (([(⟨gx use0 j36, false⟩ : Step)] : List Step).length + v31.length ≤ 1073741824) <| some (.inr (.out (.inr (([(⟨gx use0 j36, false⟩ : Step)] : List Step) ++ v31, true))))) (some (.inl ()))) (some (.inl ())) : O (Unit ⊕ (Lp Int (Unit ⊕ (List Step × Bool))))).bind fun | .inr w => some w | .inl _ => (cond (((gx s0.legs j16).t) == from0) (some (((gx s0.legs j16).f) != but0)) (some false)).bind fun x44 => cond x44 ((rec (⟨s0.st, s0.legs⟩ : Survey) use0 ((gx s0.legs j16).f) to0 from0).bind fun (v54, v55) => cond v55 (idx use0.length n9 fun j59 => need (([(⟨gx use0 j59, true⟩ : Step)] : List Step).length + v54.length ≤ 1073741824) <| some (.out (.inr (([(⟨gx use0 j59, true⟩ : Step)] : List Step) ++ v54, true)))) (some (.next (w64 (n9 + 1))))) (some (.next (w64 (n9 + 1))))) (some (.out (.inl ())))
noncomputable def p_spec_l1Find : Nat → Survey → List Int → Int → Int → Int → O (List Step × Bool)
  | 0, _, _, _, _, _ => none
  | fuel + 1, s0, use0, from0, to0, but0 => (fun rec => cond (from0 == to0) (some (([] : List Step), true)) ((loop (p_spec_l1Find_L0 s0 use0 from0 to0 but0 rec) 0 : O (Unit ⊕ (List Step × Bool))).bind fun | .inr w => some w | .inl _ => some (([] : List Step), false))) (p_spec_l1Find fuel)

noncomputable def p_spec_TreeWay (s0 : Survey) (from0 : Int) (to0 : Int) : O (List Step × Bool) := ((p_spec_SurveyValid (⟨s0.st, s0.legs⟩ : Survey)).bind fun v8 => cond (!v8) (some true) ((p_spec_l1In from0 0 (w64 (s0.st - 1))).bind fun v12 => cond (!v12) (some true) ((p_spec_l1In to0 0 (w64 (s0.st - 1))).bind fun v16 => some (!v16)))).bind fun x3 => cond x3 (some (([] : List Step), false)) ((p_spec_TreeLegs (⟨s0.st, s0.legs⟩ : Survey)).bind fun v24 => (p_spec_l1Find 64 (⟨s0.st, s0.legs⟩ : Survey) v24 from0 to0 (-1)).bind fun (v27, v28) => some (v27, v28))

end Go.Proofs.YtpfijnklnljccaaDoor
namespace Go.Proofs.YtpfijnklnljccaaDoor
open Go
set_option linter.unusedVariables false
set_option linter.unusedSimpArgs false

noncomputable def p_impl_entriesFit_L0 (row0 : List Int) (x5 : Int) : O (Lp Int (Unit ⊕ Bool)) := cond (decide (x5 < ((row0.length : Nat) : Int))) (idx row0.length x5 fun j11 => (p_impl_isWithin (gx row0 j11) 999).bind fun v13 => cond (!v13) (some (.out (.inr false))) (some (.next (w64 (x5 + 1))))) (some (.out (.inl ())))
noncomputable def p_impl_entriesFit (row0 : List Int) : O (Bool) := (loop (p_impl_entriesFit_L0 row0) 0 : O (Unit ⊕ Bool)).bind fun | .inr w => some w | .inl _ => some true

noncomputable def p_impl_MatrixValid_L0 (m0 : List (List Int)) (x6 : Int) : O (Lp Int (Unit ⊕ Bool)) := cond (decide (x6 < ((m0.length : Nat) : Int))) (idx m0.length x6 fun j12 => cond ((((gx m0 j12).length : Nat) : Int) != ((m0.length : Nat) : Int)) (some (.out (.inr false))) ((p_impl_entriesFit (gx m0 j12)).bind fun v15 => cond (!v15) (some (.out (.inr false))) (some (.next (w64 (x6 + 1)))))) (some (.out (.inl ())))
noncomputable def p_impl_MatrixValid (m0 : List (List Int)) : O (Bool) := cond (decide (5 < ((m0.length : Nat) : Int))) (some false) ((loop (p_impl_MatrixValid_L0 m0) 0 : O (Unit ⊕ Bool)).bind fun | .inr w => some w | .inl _ => some true)

noncomputable def p_impl_detFrom_L0 (m0 : List (List Int)) (row0 : Int) (used0 : Int) (rec : List (List Int) → Int → Int → O (Int)) (j3 : Nat) (z : Int × Int × Int) : O (Lp (Int × Int × Int) Int) := match z with | (sum8, sign9, x10) => cond (decide (x10 < (((gx m0 j3).length : Nat) : Int))) (idx ((gx m0 j3).length) x10 fun j16 => need (0 ≤ x10) <| cond ((IntKind.i64.wrap (BitVec.ofInt IntKind.i64.bits (Int.fdiv used0 (2 ^ (min (Int.toNat x10) IntKind.i64.bits))) &&& BitVec.ofInt IntKind.i64.bits 1).toNat) == 1) (some (.next (sum8, sign9, w64 (x10 + 1)))) (cond ((gx (gx m0 j3) j16) != 0) (need (0 ≤ x10) <| (rec m0 (w64 (row0 + 1)) (IntKind.i64.wrap (BitVec.ofInt IntKind.i64.bits used0 ||| BitVec.ofInt IntKind.i64.bits (w64 (1 * 2 ^ (min (Int.toNat x10) IntKind.i64.bits)))).toNat)).bind fun v22 => some (.next (w64 (sum8 + (w64 ((w64 (sign9 * (gx (gx m0 j3) j16))) * v22))), w64 (-sign9), w64 (x10 + 1)))) (some (.next (sum8, w64 (-sign9), w64 (x10 + 1)))))) (some (.out sum8))
noncomputable def p_impl_detFrom : Nat → List (List Int) → Int → Int → O (Int)
  | 0, _, _, _ => none
  | fuel + 1, m0, row0, used0 => (fun rec => cond (row0 == ((m0.length : Nat) : Int)) (some 1) (idx m0.length row0 fun j3 => (loop (p_impl_detFrom_L0 m0 row0 used0 rec j3) (0, 1, 0)).bind fun sum4 => some sum4)) (p_impl_detFrom fuel)

noncomputable def p_impl_Det (m0 : List (List Int)) : O (Int) := (p_impl_MatrixValid m0).bind fun v3 => cond (!v3) (some 0) ((p_impl_detFrom 64 m0 0 0).bind fun v7 => some v7)

noncomputable def p_impl_AirTrees (m0 : Mine) : O (Int) := (p_impl_MineValid (⟨m0.p, m0.aw⟩ : Mine)).bind fun v4 => cond (!v4) (some (-1)) ((p_impl_AirMatrix (⟨m0.p, m0.aw⟩ : Mine)).bind fun v8 => (p_impl_Det v8).bind fun v11 => some v11)

end Go.Proofs.YtpfijnklnljccaaDoor
namespace Go.Proofs.YtpfijnklnljccaaDoor
open Go
set_option linter.unusedVariables false
set_option linter.unusedSimpArgs false

noncomputable def p_slices_Clone_int_int (s0 : List Int) : O (List Int) := need (([] : List Int).length + s0.length ≤ 1073741824) <| some (([] : List Int) ++ s0)

end Go.Proofs.YtpfijnklnljccaaDoor
namespace Go.Proofs.YtpfijnklnljccaaDoor
open Go
set_option linter.unusedVariables false
set_option linter.unusedSimpArgs false

noncomputable def p_spec_l1Has_L0 (list0 : List Int) (n0 : Int) (k5 : Int) : O (Lp Int (Unit ⊕ Bool)) := cond (decide (k5 < ((list0.length : Nat) : Int))) (idx list0.length k5 fun j11 => cond ((gx list0 j11) == n0) (some (.out (.inr true))) (some (.next (w64 (k5 + 1))))) (some (.out (.inl ())))
noncomputable def p_spec_l1Has (list0 : List Int) (n0 : Int) : O (Bool) := (loop (p_spec_l1Has_L0 list0 n0) 0 : O (Unit ⊕ Bool)).bind fun | .inr w => some w | .inl _ => some false

end Go.Proofs.YtpfijnklnljccaaDoor
namespace Go.Proofs.YtpfijnklnljccaaDoor
open Go
set_option linter.unusedVariables false
set_option linter.unusedSimpArgs false

noncomputable def p_spec_LoopSteps (s0 : Survey) (index0 : Int) : O (List Step × Bool) := ((p_spec_SurveyValid (⟨s0.st, s0.legs⟩ : Survey)).bind fun v8 => cond (!v8) (some true) ((p_spec_l1In index0 0 (w64 (((s0.legs.length : Nat) : Int) - 1))).bind fun v12 => cond (!v12) (some true) ((p_spec_TreeLegs (⟨s0.st, s0.legs⟩ : Survey)).bind fun v16 => (p_spec_l1Has v16 index0).bind fun v19 => some v19))).bind fun x3 => cond x3 (some (([] : List Step), false)) (idx s0.legs.length index0 fun j26 => (p_spec_TreeWay (⟨s0.st, s0.legs⟩ : Survey) ((gx s0.legs j26).t) ((gx s0.legs j26).f)).bind fun (v28, v29) => need (([(⟨index0, false⟩ : Step)] : List Step).length + v28.length ≤ 1073741824) <| some (([(⟨index0, false⟩ : Step)] : List Step) ++ v28, true))

end Go.Proofs.YtpfijnklnljccaaDoor
namespace Go.Proofs.YtpfijnklnljccaaDoor
open Go
set_option linter.unusedVariables false
set_option linter.unusedSimpArgs false

noncomputable def p_spec_l20Flow_L0 (v17 : Int) (v24 : List Step) (v25 : Bool) (j28 : Nat) (z : Int × List Int) : O (Lp (Int × List Int) (List Int)) := match z with | (k34, l35) => (cond (decide (k34 < ((v24.length : Nat) : Int))) (some v25) (some false)).bind fun x40 => cond x40 (idx v24.length k34 fun j49 => idx j28 ((gx v24 j49).i) fun j50 => cond ((gx v24 j49).b) (some (.next (w64 (k34 + 1), (l35.set j50 (w64 (v17 - 2))).set j50 (w64 (-(w64 (v17 - 2))))))) (some (.next (w64 (k34 + 1), l35.set j50 (w64 (v17 - 2)))))) (some (.out l35))
noncomputable def p_spec_l20Flow_L2 (j28 : Nat) (v72 : List Step) (v73 : Bool) (v77 : Int) (z : Int × List Int) : O (Lp (Int × List Int) (List Int)) := match z with | (j84, l85) => (cond (decide (j84 < ((v72.length : Nat) : Int))) (some v73) (some false)).bind fun x90 => cond x90 (idx v72.length j84 fun j99 => (cond ((gx v72 j99).b) (some (w64 (-(w64 (v77 - 3))))) (some (w64 (v77 - 3)))).bind fun x100 => idx v72.length j84 fun j108 => idx j28 ((gx v72 j108).i) fun j109 => some (.next (w64 (j84 + 1), l85.set j109 (w64 ((gx l85 j109) + x100))))) (some (.out l85))
noncomputable def p_spec_l20Flow_L1 (r0 : Rd) (v4 : Mine) (j28 : Nat) (z : Int × Int × List Int) : O (Lp (Int × Int × List Int) (Int × List Int)) := match z with | (k60, p61, l62) => cond (decide (k60 < ((v4.aw.length : Nat) : Int))) ((p_spec_l3Survey (⟨v4.p, v4.aw⟩ : Mine)).bind fun v69 => (p_spec_LoopSteps v69 k60).bind fun (v72, v73) => (p_spec_l20Rd_pick (⟨r0.b, p61⟩ : Rd) 7).bind fun (v77, v78) => (loop (p_spec_l20Flow_L2 j28 v72 v73 v77) (0, l62)).bind fun l80 => some (.next (w64 (k60 + 1), v78, l80))) (some (.out (p61, l62)))
noncomputable def p_spec_l20Flow (r0 : Rd) : O (Mine × Int × Int × Int × List Int × Int) := (p_spec_l20Mine (⟨r0.b, r0.p⟩ : Rd) 14).bind fun (v4, v5) => (p_spec_l20PlaceOf (⟨r0.b, v5⟩ : Rd) (⟨v4.p, v4.aw⟩ : Mine)).bind fun (v9, v10) => (p_spec_l20PlaceOf (⟨r0.b, v10⟩ : Rd) (⟨v4.p, v4.aw⟩ : Mine)).bind fun (v13, v14) => (p_spec_l20Rd_pick (⟨r0.b, v14⟩ : Rd) 9).bind fun (v17, v18) => (p_spec_l3Survey (⟨v4.p, v4.aw⟩ : Mine)).bind fun v21 => (p_spec_TreeWay v21 v9 v13).bind fun (v24, v25) => sized ((v4.aw.length : Nat) : Int) fun j28 => (loop (p_spec_l20Flow_L0 v17 v24 v25 j28) (0, List.replicate j28 0)).bind fun l30 => (loop (p_spec_l20Flow_L1 r0 v4 j28) (0, v18, l30)).bind fun (p55, l56) => ((p_spec_l20Rd_odd (⟨r0.b, p55⟩ : Rd) 12).bind fun (v122, v123) => cond v122 (some (decide (0 < ((j28 : Nat) : Int)), v123)) (some (false, v123))).bind fun (x116, p117) => (cond x116 (idx j28 0 fun j134 => some (l56.set j134 (w64 ((gx l56 j134) + 1)))) (some l56)).bind fun l129 => some ((⟨v4.p, v4.aw⟩ : Mine), v9, v13, w64 (v17 - 2), l129, p117)

end Go.Proofs.YtpfijnklnljccaaDoor
namespace Go.Proofs.YtpfijnklnljccaaDoor
open Go
set_option linter.unusedVariables false
set_option linter.unusedSimpArgs false

noncomputable def p_impl_wayText (wy0 : Way) : O (ByteArray) := (p_strconv_Itoa wy0.e).bind fun v3 => need (v3.size + (⟨#[44]⟩ : ByteArray).size ≤ 9223372036854775807) <| (p_strconv_Itoa wy0.n).bind fun v7 => need ((v3 ++ (⟨#[44]⟩ : ByteArray)).size + v7.size ≤ 9223372036854775807) <| need (((v3 ++ (⟨#[44]⟩ : ByteArray)) ++ v7).size + (⟨#[44]⟩ : ByteArray).size ≤ 9223372036854775807) <| (p_strconv_Itoa wy0.u).bind fun v12 => need ((((v3 ++ (⟨#[44]⟩ : ByteArray)) ++ v7) ++ (⟨#[44]⟩ : ByteArray)).size + v12.size ≤ 9223372036854775807) <| some ((((v3 ++ (⟨#[44]⟩ : ByteArray)) ++ v7) ++ (⟨#[44]⟩ : ByteArray)) ++ v12)

noncomputable def p_impl_LegText (g0 : Leg) : O (ByteArray) := (p_impl_LegValid 6 (⟨g0.f, g0.t, g0.e, g0.n, g0.u⟩ : Leg)).bind fun v3 => cond (!v3) (some (⟨#[]⟩ : ByteArray)) ((p_strconv_Itoa g0.f).bind fun v7 => need (v7.size + (⟨#[62]⟩ : ByteArray).size ≤ 9223372036854775807) <| (p_strconv_Itoa g0.t).bind fun v11 => need ((v7 ++ (⟨#[62]⟩ : ByteArray)).size + v11.size ≤ 9223372036854775807) <| need (((v7 ++ (⟨#[62]⟩ : ByteArray)) ++ v11).size + (⟨#[58]⟩ : ByteArray).size ≤ 9223372036854775807) <| (p_impl_legWay (⟨g0.f, g0.t, g0.e, g0.n, g0.u⟩ : Leg)).bind fun v16 => (p_impl_wayText v16).bind fun v19 => need ((((v7 ++ (⟨#[62]⟩ : ByteArray)) ++ v11) ++ (⟨#[58]⟩ : ByteArray)).size + v19.size ≤ 9223372036854775807) <| some ((((v7 ++ (⟨#[62]⟩ : ByteArray)) ++ v11) ++ (⟨#[58]⟩ : ByteArray)) ++ v19))

noncomputable def p_laws_alive  : O (Bool) := (p_impl_LegText (⟨0, 1, 3, (-4), 2⟩ : Leg)).bind fun v2 => cond (v2.toList == (⟨#[48, 62, 49, 58, 51, 44, 45, 52, 44, 50]⟩ : ByteArray).toList) ((p_impl_LegText (⟨0, 0, 0, 0, 0⟩ : Leg)).bind fun v6 => some (v6.toList == (⟨#[]⟩ : ByteArray).toList)) (some false)

end Go.Proofs.YtpfijnklnljccaaDoor
namespace Go.Proofs.YtpfijnklnljccaaDoor
open Go
set_option linter.unusedVariables false
set_option linter.unusedSimpArgs false

noncomputable def p_impl_flowFits_L0 (flow0 : List Int) (x8 : Int) : O (Lp Int (Unit ⊕ Bool)) := cond (decide (x8 < ((flow0.length : Nat) : Int))) (idx flow0.length x8 fun j14 => (p_impl_isWithin (gx flow0 j14) 9999999).bind fun v16 => cond (!v16) (some (.out (.inr false))) (some (.next (w64 (x8 + 1))))) (some (.out (.inl ())))
noncomputable def p_impl_flowFits (m0 : Mine) (flow0 : List Int) : O (Bool) := cond (((flow0.length : Nat) : Int) != ((m0.aw.length : Nat) : Int)) (some false) ((loop (p_impl_flowFits_L0 flow0) 0 : O (Unit ⊕ Bool)).bind fun | .inr w => some w | .inl _ => some true)

noncomputable def p_impl_FlowLoss_L0 (m0 : Mine) (flow0 : List Int) (z : Int × Int) : O (Lp (Int × Int) Int) := match z with | (sum23, x24) => cond (decide (x24 < ((m0.aw.length : Nat) : Int))) (idx m0.aw.length x24 fun j30 => idx flow0.length x24 fun j32 => need (((gx m0.aw j30).w) ≠ 0) <| some (.next (w64 (sum23 + (w64 ((w64 ((gx flow0 j32) * (gx flow0 j32))) * (w64 (Int.tdiv 60 ((gx m0.aw j30).w)))))), w64 (x24 + 1)))) (some (.out sum23))
noncomputable def p_impl_FlowLoss (m0 : Mine) (flow0 : List Int) : O (Int) := ((p_impl_MineValid (⟨m0.p, m0.aw⟩ : Mine)).bind fun v9 => cond (!v9) (some true) ((p_impl_flowFits (⟨m0.p, m0.aw⟩ : Mine) flow0).bind fun v13 => some (!v13))).bind fun x4 => cond x4 (some (-1)) ((loop (p_impl_FlowLoss_L0 m0 flow0) (0, 0)).bind fun sum19 => some sum19)

noncomputable def p_impl_FlowOk_L0 (m0 : Mine) (flow0 : List Int) (j27 : Nat) (z : Int × List Int) : O (Lp (Int × List Int) (List Int)) := match z with | (x33, l34) => cond (decide (x33 < ((m0.aw.length : Nat) : Int))) (idx m0.aw.length x33 fun j40 => idx j27 ((gx m0.aw j40).f) fun j42 => idx flow0.length x33 fun j43 => idx j27 ((gx m0.aw j40).t) fun j44 => some (.next (w64 (x33 + 1), (l34.set j42 (w64 ((gx l34 j42) + (gx flow0 j43)))).set j44 (w64 ((gx (l34.set j42 (w64 ((gx l34 j42) + (gx flow0 j43)))) j44) - (gx flow0 j43)))))) (some (.out l34))
noncomputable def p_impl_FlowOk_L1 (in0 : Int) (out0 : Int) (amount0 : Int) (j27 : Nat) (l29 : List Int) (x51 : Int) : O (Lp Int (Unit ⊕ Bool)) := cond (decide (x51 < ((j27 : Nat) : Int))) (idx j27 x51 fun j57 => (cond (in0 != out0) (some (x51 == in0)) (some false)).bind fun x58 => (cond x58 (some amount0) (some 0)).bind fun wanted66 => (cond (in0 != out0) (some (x51 == out0)) (some false)).bind fun x74 => cond x74 (cond ((gx l29 j57) != (w64 (-amount0))) (some (.out (.inr false))) (some (.next (w64 (x51 + 1))))) (cond ((gx l29 j57) != wanted66) (some (.out (.inr false))) (some (.next (w64 (x51 + 1)))))) (some (.out (.inl ())))
noncomputable def p_impl_FlowOk (m0 : Mine) (in0 : Int) (out0 : Int) (amount0 : Int) (flow0 : List Int) : O (Bool) := ((p_impl_MineValid (⟨m0.p, m0.aw⟩ : Mine)).bind fun v9 => cond (!v9) (some true) ((p_impl_isIndex in0 m0.p).bind fun v13 => cond (!v13) (some true) ((p_impl_isIndex out0 m0.p).bind fun v17 => cond (!v17) (some true) ((p_impl_flowFits (⟨m0.p, m0.aw⟩ : Mine) flow0).bind fun v21 => some (!v21))))).bind fun x4 => cond x4 (some false) (sized m0.p fun j27 => (loop (p_impl_FlowOk_L0 m0 flow0 j27) (0, List.replicate j27 0)).bind fun l29 => (loop (p_impl_FlowOk_L1 in0 out0 amount0 j27 l29) 0 : O (Unit ⊕ Bool)).bind fun | .inr w => some w | .inl _ => some true)

noncomputable def p_spec_FlowOk_L0 (m0 : Mine) (flow0 : List Int) (j24 : Nat) (z : Int × List Int) : O (Lp (Int × List Int) ((List Int) ⊕ Bool)) := match z with | (k30, l31) => cond (decide (k30 < ((flow0.length : Nat) : Int))) (idx flow0.length k30 fun j37 => (p_spec_l1In (gx flow0 j37) (-9999999) 9999999).bind fun v39 => cond (!v39) (some (.out (.inr false))) (idx m0.aw.length k30 fun j42 => idx j24 ((gx m0.aw j42).f) fun j43 => idx j24 ((gx m0.aw j42).t) fun j44 => some (.next (w64 (k30 + 1), (l31.set j43 (w64 ((gx l31 j43) + (gx flow0 j37)))).set j44 (w64 ((gx (l31.set j43 (w64 ((gx l31 j43) + (gx flow0 j37)))) j44) - (gx flow0 j37))))))) (some (.out (.inl l31)))
noncomputable def p_spec_FlowOk_L1 (amount0 : Int) (j24 : Nat) (l26 : List Int) (j48 : Nat) (j49 : Nat) (k53 : Int) : O (Lp Int (Unit ⊕ Bool)) := cond (decide (k53 < ((j24 : Nat) : Int))) (idx j24 k53 fun j59 => cond ((gx ((l26.set j48 (w64 ((gx l26 j48) - amount0))).set j49 (w64 ((gx (l26.set j48 (w64 ((gx l26 j48) - amount0))) j49) + amount0))) j59) != 0) (some (.out (.inr false))) (some (.next (w64 (k53 + 1))))) (some (.out (.inl ())))
noncomputable def p_spec_FlowOk (m0 : Mine) (in0 : Int) (out0 : Int) (amount0 : Int) (flow0 : List Int) : O (Bool) := ((p_spec_MineValid (⟨m0.p, m0.aw⟩ : Mine)).bind fun v9 => cond (!v9) (some true) ((p_spec_l1In in0 0 (w64 (m0.p - 1))).bind fun v13 => cond (!v13) (some true) ((p_spec_l1In out0 0 (w64 (m0.p - 1))).bind fun v17 => cond (!v17) (some true) (some (((flow0.length : Nat) : Int) != ((m0.aw.length : Nat) : Int)))))).bind fun x4 => cond x4 (some false) (sized m0.p fun j24 => (loop (p_spec_FlowOk_L0 m0 flow0 j24) (0, List.replicate j24 0) : O ((List Int) ⊕ Bool)).bind fun | .inr w => some w | .inl l26 => idx j24 in0 fun j48 => idx j24 out0 fun j49 => (loop (p_spec_FlowOk_L1 amount0 j24 l26 j48 j49) 0 : O (Unit ⊕ Bool)).bind fun | .inr w => some w | .inl _ => some true)

end Go.Proofs.YtpfijnklnljccaaDoor
namespace Go.Proofs.YtpfijnklnljccaaDoor
open Go
set_option linter.unusedVariables false
set_option linter.unusedSimpArgs false

noncomputable def p_impl_withColumn_L0 (m0 : List (List Int)) (column0 : Int) (numbers0 : List Int) (j4 : Nat) (z : Int × List (List Int)) : O (Lp (Int × List (List Int)) (List (List Int))) := match z with | (x11, m12) => cond (decide (x11 < ((m0.length : Nat) : Int))) (idx m0.length x11 fun j20 => (p_slices_Clone_int_int (gx m0 j20)).bind fun v22 => idx j4 x11 fun j24 => idx numbers0.length x11 fun j26 => idx ((gx (m12.set j24 v22) j24).length) column0 fun j27 => some (.next (w64 (x11 + 1), (m12.set j24 v22).set j24 ((gx (m12.set j24 v22) j24).set j27 (gx numbers0 j26))))) (some (.out m12))
noncomputable def p_impl_withColumn (m0 : List (List Int)) (column0 : Int) (numbers0 : List Int) : O (List (List Int)) := sized ((m0.length : Nat) : Int) fun j4 => (loop (p_impl_withColumn_L0 m0 column0 numbers0 j4) (0, List.replicate j4 ([] : List Int))).bind fun m7 => some m7

noncomputable def p_impl_Solve_L0 (m0 : List (List Int)) (right0 : List Int) (j23 : Nat) (z : Int × List Int) : O (Lp (Int × List Int) (List Int)) := match z with | (x29, l30) => cond (decide (x29 < ((j23 : Nat) : Int))) ((p_impl_withColumn m0 x29 right0).bind fun v37 => (p_impl_Det v37).bind fun v40 => idx j23 x29 fun j42 => some (.next (w64 (x29 + 1), l30.set j42 v40))) (some (.out l30))
noncomputable def p_impl_Solve (m0 : List (List Int)) (right0 : List Int) : O (List Int × Int) := ((p_impl_MatrixValid m0).bind fun v8 => cond (!v8) (some true) (cond (((right0.length : Nat) : Int) != ((m0.length : Nat) : Int)) (some true) ((p_impl_entriesFit right0).bind fun v13 => some (!v13)))).bind fun x3 => cond x3 (some (([] : List Int), 0)) ((p_impl_Det m0).bind fun v20 => cond (v20 == 0) (some (([] : List Int), 0)) (sized ((m0.length : Nat) : Int) fun j23 => (loop (p_impl_Solve_L0 m0 right0 j23) (0, List.replicate j23 0)).bind fun l25 => some (l25, v20)))

noncomputable def p_impl_Pressures (m0 : Mine) (in0 : Int) (out0 : Int) : O (List Int × Bool) := ((p_impl_AirLinked (⟨m0.p, m0.aw⟩ : Mine)).bind fun v8 => cond (!v8) (some true) ((p_impl_isIndex in0 m0.p).bind fun v12 => cond (!v12) (some true) ((p_impl_isIndex out0 m0.p).bind fun v16 => some (!v16)))).bind fun x3 => cond x3 (some (([] : List Int), false)) (sized m0.p fun j22 => idx j22 in0 fun j24 => idx j22 out0 fun j25 => (p_impl_AirMatrix (⟨m0.p, m0.aw⟩ : Mine)).bind fun v27 => cut j22 1 ((j22 : Nat) : Int) fun j29 j30 => (p_impl_Solve v27 (((((List.replicate j22 0).set j24 (w64 ((gx (List.replicate j22 0) j24) + 1))).set j25 (w64 ((gx ((List.replicate j22 0).set j24 (w64 ((gx (List.replicate j22 0) j24) + 1))) j25) - 1))).drop j29).take (j30 - j29))).bind fun (v32, v33) => sized m0.p fun j36 => cut j36 1 ((j36 : Nat) : Int) fun j38 j39 => some ((List.replicate j36 0).take j38 ++ (v32.take (min v32.length (j39 - j38)) ++ (List.replicate j36 0).drop (j38 + (min v32.length (j39 - j38)))), true))

noncomputable def p_impl_AirFlow_L0 (m0 : Mine) (v4 : List Int) (j9 : Nat) (z : Int × List Int) : O (Lp (Int × List Int) (List Int)) := match z with | (x15, l16) => cond (decide (x15 < ((m0.aw.length : Nat) : Int))) (idx m0.aw.length x15 fun j22 => idx v4.length ((gx m0.aw j22).f) fun j24 => idx v4.length ((gx m0.aw j22).t) fun j25 => idx j9 x15 fun j26 => some (.next (w64 (x15 + 1), l16.set j26 (w64 (((gx m0.aw j22).w) * (w64 ((gx v4 j24) - (gx v4 j25)))))))) (some (.out l16))
noncomputable def p_impl_AirFlow (m0 : Mine) (in0 : Int) (out0 : Int) : O (List Int × Bool) := (p_impl_Pressures (⟨m0.p, m0.aw⟩ : Mine) in0 out0).bind fun (v4, v5) => cond (!v5) (some (([] : List Int), false)) (sized ((m0.aw.length : Nat) : Int) fun j9 => (loop (p_impl_AirFlow_L0 m0 v4 j9) (0, List.replicate j9 0)).bind fun l11 => some (l11, true))

end Go.Proofs.YtpfijnklnljccaaDoor
namespace Go.Proofs.YtpfijnklnljccaaDoor
open Go
set_option linter.unusedVariables false
set_option linter.unusedSimpArgs false

noncomputable def p_spec_DrawFlowOk (code0 : List UInt8) : O (Mine × Int × Int × Int × List Int) := (p_spec_l20Open code0).bind fun v4 => (p_spec_l20Flow (⟨v4.b, v4.p⟩ : Rd)).bind fun (v7, v8, v9, v10, v11, v12) => some ((⟨v7.p, v7.aw⟩ : Mine), v8, v9, v10, v11)

noncomputable def p_laws_FnFlowOk_L0 (v8 : List Int) (z : List Int × Int) : O (Lp (List Int × Int) (List Int)) := match z with | (twice31, k32) => cond (decide (k32 < ((v8.length : Nat) : Int))) (idx v8.length k32 fun j39 => need (twice31.length + ([w64 (2 * (gx v8 j39))] : List Int).length ≤ 1073741824) <| some (.next (twice31 ++ ([w64 (2 * (gx v8 j39))] : List Int), w64 (k32 + 1)))) (some (.out twice31))
noncomputable def p_laws_FnFlowOk_L1 (v7 : Int) (v8 : List Int) (v49 : List Int) (v58 : Int) (z : List Int × List Int × Int) : O (Lp (List Int × List Int × Int) (List Int × List Int)) := match z with | (big67, best68, k69) => (cond (decide (k69 < ((v8.length : Nat) : Int))) (some (decide (k69 < ((v49.length : Nat) : Int)))) (some false)).bind fun x76 => cond x76 (idx v8.length k69 fun j85 => need (big67.length + ([w64 (v58 * (gx v8 j85))] : List Int).length ≤ 1073741824) <| idx v49.length k69 fun j90 => need (best68.length + ([w64 (v7 * (gx v49 j90))] : List Int).length ≤ 1073741824) <| some (.next (big67 ++ ([w64 (v58 * (gx v8 j85))] : List Int), best68 ++ ([w64 (v7 * (gx v49 j90))] : List Int), w64 (k69 + 1)))) (some (.out (big67, best68)))
noncomputable def p_laws_FnFlowOk (code0 : List UInt8) : O (Bool) := cond (decide (1048576 < ((code0.length : Nat) : Int))) (some true) ((p_spec_DrawFlowOk code0).bind fun (v4, v5, v6, v7, v8) => (p_impl_FlowOk (⟨v4.p, v4.aw⟩ : Mine) v5 v6 v7 v8).bind fun v16 => (p_spec_FlowOk (⟨v4.p, v4.aw⟩ : Mine) v5 v6 v7 v8).bind fun v19 => cond (!(v16 == v19)) (some false) (cond (!v16) ((p_laws_alive).bind fun v24 => some v24) ((loop (p_laws_FnFlowOk_L0 v8) (([] : List Int), 0)).bind fun twice27 => (p_impl_AirFlow (⟨v4.p, v4.aw⟩ : Mine) v5 v6).bind fun (v49, v50) => cond (!v50) ((p_impl_FlowOk (⟨v4.p, v4.aw⟩ : Mine) v5 v6 (w64 (2 * v7)) twice27).bind fun v55 => some v55) ((p_impl_AirTrees (⟨v4.p, v4.aw⟩ : Mine)).bind fun v58 => (loop (p_laws_FnFlowOk_L1 v7 v8 v49 v58) (([] : List Int), ([] : List Int), 0)).bind fun (big62, best63) => (p_impl_FlowLoss (⟨v4.p, v4.aw⟩ : Mine) big62).bind fun v101 => (p_impl_FlowOk (⟨v4.p, v4.aw⟩ : Mine) v5 v6 (w64 (2 * v7)) twice27).bind fun v104 => cond v104 (cond (decide (v101 < 0)) (some true) ((p_impl_FlowLoss (⟨v4.p, v4.aw⟩ : Mine) best63).bind fun v109 => some (decide (v109 ≤ v101)))) (some false)))))

end Go.Proofs.YtpfijnklnljccaaDoor
