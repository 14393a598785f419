/- Functions of the program as plain partial programs; no condition. -/
import Derived.Test.YtpfijnklnljccaaDoorZDa
import Derived.Test.YtpfijnklnljccaaDoorZKw
namespace Go.Proofs.YtpfijnklnljccaaDoor
open Go
set_option linter.unusedVariables false
set_option linter.unusedSimpArgs false

noncomputable def p_spec_l20Open (code0 : List UInt8) : O (Rd) := cond (decide (2000 < ((code0.length : Nat) : Int))) (cut code0.length 0 2000 fun j3 j4 => some (⟨(code0.drop j3).take (j4 - j3), 0⟩ : Rd)) (some (⟨code0, 0⟩ : Rd))

noncomputable def p_spec_l20Rd_pick (r0 : Rd) (n0 : Int) : O (Int × Int) := (cond (decide (n0 < 1)) (some true) (some (((r0.b.length : Nat) : Int) == 0))).bind fun x2 => cond x2 (some (0, w64 (r0.p + 1))) (cond (decide ((w64 ((w64 (r0.p + 1)) - 1)) < ((r0.b.length : Nat) : Int))) (idx r0.b.length (w64 ((w64 (r0.p + 1)) - 1)) fun j12 => need (n0 ≠ 0) <| some (Int.tmod (w64 ((gx r0.b j12).toNat : Int)) n0, w64 (r0.p + 1))) (need (((r0.b.length : Nat) : Int) ≠ 0) <| idx r0.b.length (Int.tmod (w64 ((w64 (r0.p + 1)) - 1)) ((r0.b.length : Nat) : Int)) fun j15 => need (((r0.b.length : Nat) : Int) ≠ 0) <| idx r0.b.length (Int.tmod (w64 ((w64 ((w64 ((w64 (r0.p + 1)) - 1)) * 7)) + 3)) ((r0.b.length : Nat) : Int)) fun j17 => need (((r0.b.length : Nat) : Int) ≠ 0) <| need (n0 ≠ 0) <| some (Int.tmod (IntKind.i64.wrap (BitVec.ofInt IntKind.i64.bits (w64 ((w64 ((w64 ((w64 ((w64 ((gx r0.b j15).toNat : Int)) * 131)) + (w64 ((w64 ((gx r0.b j17).toNat : Int)) * 1117)))) + (w64 ((w64 ((w64 (r0.p + 1)) - 1)) * 29)))) + (w64 ((w64 (Int.tdiv (w64 ((w64 (r0.p + 1)) - 1)) ((r0.b.length : Nat) : Int))) * 53)))) ^^^ BitVec.ofInt IntKind.i64.bits (w64 (Int.tdiv (w64 ((w64 ((w64 ((w64 ((w64 ((gx r0.b j15).toNat : Int)) * 131)) + (w64 ((w64 ((gx r0.b j17).toNat : Int)) * 1117)))) + (w64 ((w64 ((w64 (r0.p + 1)) - 1)) * 29)))) + (w64 ((w64 (Int.tdiv (w64 ((w64 (r0.p + 1)) - 1)) ((r0.b.length : Nat) : Int))) * 53)))) 64))).toNat) n0, w64 (r0.p + 1))))

noncomputable def p_spec_l20Rd_odd (r0 : Rd) (n0 : Int) : O (Bool × Int) := cond (decide (0 < n0)) ((p_spec_l20Rd_pick (⟨r0.b, r0.p⟩ : Rd) n0).bind fun (v4, v5) => some (v4 == (w64 (n0 - 1)), v5)) (some (false, r0.p))

end Go.Proofs.YtpfijnklnljccaaDoor
namespace Go.Proofs.YtpfijnklnljccaaDoor
open Go
set_option linter.unusedVariables false
set_option linter.unusedSimpArgs false

noncomputable def p_spec_l20Mine_L0 (r0 : Rd) (v4 : Int) (v9 : Int) (z : Int × Int × List Airway) : O (Lp (Int × Int × List Airway) (Int × List Airway)) := match z with | (k17, p18, aw19) => cond (decide (k17 < (w64 (2 + v4)))) ((cond (!(v9 == 0)) (some (true, p18)) ((p_spec_l20Rd_pick (⟨r0.b, p18⟩ : Rd) 3).bind fun (v33, v34) => some (decide (0 < v33), v34))).bind fun (x26, p27) => cond x26 ((p_spec_l20Rd_pick (⟨r0.b, p27⟩ : Rd) k17).bind fun (v41, v42) => (p_spec_l20Rd_pick (⟨r0.b, v42⟩ : Rd) 6).bind fun (v45, v46) => need (aw19.length + ([(⟨v41, k17, w64 (1 + v45)⟩ : Airway)] : List Airway).length ≤ 1073741824) <| some (.next (w64 (k17 + 1), v46, aw19 ++ ([(⟨v41, k17, w64 (1 + v45)⟩ : Airway)] : List Airway)))) (some (.next (w64 (k17 + 1), p27, aw19)))) (some (.out (p18, aw19)))
noncomputable def p_spec_l20Mine_L1 (r0 : Rd) (v4 : Int) (z : Int × Int × List Airway) : O (Lp (Int × Int × List Airway) (Int × List Airway)) := match z with | (k65, p66, aw67) => (cond (decide (0 < k65)) (some (decide (((aw67.length : Nat) : Int) < 7))) (some false)).bind fun x73 => cond x73 ((p_spec_l20Rd_pick (⟨r0.b, p66⟩ : Rd) (w64 (2 + v4))).bind fun (v83, v84) => (p_spec_l20Rd_pick (⟨r0.b, v84⟩ : Rd) (w64 (2 + v4))).bind fun (v87, v88) => (p_spec_l20Rd_pick (⟨r0.b, v88⟩ : Rd) 6).bind fun (v91, v92) => cond (v83 != v87) (need (aw67.length + ([(⟨v83, v87, w64 (1 + v91)⟩ : Airway)] : List Airway).length ≤ 1073741824) <| some (.next (w64 (k65 - 1), v92, aw67 ++ ([(⟨v83, v87, w64 (1 + v91)⟩ : Airway)] : List Airway)))) (some (.next (w64 (k65 - 1), v92, aw67)))) (some (.out (p66, aw67)))
noncomputable def p_spec_l20Mine (r0 : Rd) (n0 : Int) : O (Mine × Int) := (p_spec_l20Rd_pick (⟨r0.b, r0.p⟩ : Rd) 4).bind fun (v4, v5) => (p_spec_l20Rd_pick (⟨r0.b, v5⟩ : Rd) 7).bind fun (v9, v10) => (loop (p_spec_l20Mine_L0 r0 v4 v9) (1, v10, ([] : List Airway))).bind fun (p12, aw13) => (p_spec_l20Rd_pick (⟨r0.b, p12⟩ : Rd) 4).bind fun (v57, v58) => (loop (p_spec_l20Mine_L1 r0 v4) (v57, v58, aw13)).bind fun (p60, aw61) => (p_spec_l20Rd_odd (⟨r0.b, p60⟩ : Rd) n0).bind fun (v106, v107) => cond v106 ((p_spec_l20Rd_pick (⟨r0.b, v107⟩ : Rd) 4).bind fun (v111, v112) => cond (v111 == 0) ((p_spec_l20Rd_pick (⟨r0.b, v112⟩ : Rd) 2).bind fun (v117, v118) => idx 2 v117 fun j120 => some ((⟨gx ([0, 6] : List Int) j120, aw61⟩ : Mine), v118)) (cond (v111 == 1) (need (aw61.length + ([(⟨1, 1, 1⟩ : Airway)] : List Airway).length ≤ 1073741824) <| some ((⟨w64 (2 + v4), aw61 ++ ([(⟨1, 1, 1⟩ : Airway)] : List Airway)⟩ : Mine), v112)) (cond (v111 == 2) ((p_spec_l20Rd_pick (⟨r0.b, v112⟩ : Rd) 2).bind fun (v129, v130) => idx 2 v129 fun j132 => need (aw61.length + ([(⟨0, 1, gx ([0, 7] : List Int) j132⟩ : Airway)] : List Airway).length ≤ 1073741824) <| some ((⟨w64 (2 + v4), aw61 ++ ([(⟨0, 1, gx ([0, 7] : List Int) j132⟩ : Airway)] : List Airway)⟩ : Mine), v130)) (sized 8 fun j138 => some ((⟨w64 (2 + v4), List.replicate j138 (⟨0, 0, 0⟩ : Airway)⟩ : Mine), v112))))) (some ((⟨w64 (2 + v4), aw61⟩ : Mine), v107))

noncomputable def p_spec_l20PlaceOf (r0 : Rd) (m0 : Mine) : O (Int × Int) := (p_spec_l20Rd_pick (⟨r0.b, r0.p⟩ : Rd) (max m0.p 1)).bind fun (v5, v6) => (p_spec_l20Rd_pick (⟨r0.b, v6⟩ : Rd) 40).bind fun (v9, v10) => (p_spec_l20Rd_pick (⟨r0.b, v10⟩ : Rd) 40).bind fun (v13, v14) => some (w64 ((w64 (v5 + (w64 ((w64 (Int.tdiv v9 39)) * 6)))) - (w64 ((w64 (Int.tdiv v13 39)) * 7))), v14)

end Go.Proofs.YtpfijnklnljccaaDoor
namespace Go.Proofs.YtpfijnklnljccaaDoor
open Go
set_option linter.unusedVariables false
set_option linter.unusedSimpArgs false

noncomputable def p_impl_isIndex (number0 : Int) (many0 : Int) : O (Bool) := cond (decide (0 ≤ number0)) (some (decide (number0 < many0))) (some false)

noncomputable def p_impl_isWithin (number0 : Int) (limit0 : Int) : O (Bool) := cond (decide ((w64 (-limit0)) ≤ number0)) (some (decide (number0 ≤ limit0))) (some false)

noncomputable def p_spec_l1In (n0 : Int) (low0 : Int) (high0 : Int) : O (Bool) := cond (decide (low0 ≤ n0)) (some (decide (n0 ≤ high0))) (some false)

noncomputable def p_impl_stepFits (number0 : Int) : O (Bool) := (p_impl_isWithin number0 99).bind fun v2 => some v2

noncomputable def p_impl_LegValid (stations0 : Int) (g0 : Leg) : O (Bool) := (cond (decide (stations0 < 1)) (some true) (some (decide (6 < stations0)))).bind fun x2 => cond x2 (some false) (((p_impl_isIndex g0.f stations0).bind fun v16 => cond (!v16) (some true) ((p_impl_isIndex g0.t stations0).bind fun v20 => cond (!v20) (some true) (some (g0.f == g0.t)))).bind fun x11 => cond x11 (some false) ((p_impl_stepFits g0.e).bind fun v28 => cond v28 ((p_impl_stepFits g0.n).bind fun v32 => cond v32 ((p_impl_stepFits g0.u).bind fun v36 => some v36) (some false)) (some false)))

noncomputable def p_impl_legWay (g0 : Leg) : O (Way) := some (⟨g0.e, g0.n, g0.u⟩ : Way)

end Go.Proofs.YtpfijnklnljccaaDoor
namespace Go.Proofs.YtpfijnklnljccaaDoor
open Go
set_option linter.unusedVariables false
set_option linter.unusedSimpArgs false

noncomputable def p_impl_MineValid_L0 (m0 : Mine) (x16 : Int) : O (Lp Int (Unit ⊕ Bool)) := cond (decide (x16 < ((m0.aw.length : Nat) : Int))) (idx m0.aw.length x16 fun j22 => ((p_impl_isIndex ((gx m0.aw j22).f) m0.p).bind fun v29 => cond (!v29) (some true) ((p_impl_isIndex ((gx m0.aw j22).t) m0.p).bind fun v33 => cond (!v33) (some true) (some (((gx m0.aw j22).f) == ((gx m0.aw j22).t))))).bind fun x24 => cond x24 (some (.out (.inr false))) (cond (decide (((gx m0.aw j22).w) < 1)) (some (.out (.inr false))) (cond (decide (6 < ((gx m0.aw j22).w))) (some (.out (.inr false))) (some (.next (w64 (x16 + 1))))))) (some (.out (.inl ())))
noncomputable def p_impl_MineValid (m0 : Mine) : O (Bool) := (cond (decide (m0.p < 1)) (some true) (cond (decide (5 < m0.p)) (some true) (some (decide (7 < ((m0.aw.length : Nat) : Int)))))).bind fun x3 => cond x3 (some false) ((loop (p_impl_MineValid_L0 m0) 0 : O (Unit ⊕ Bool)).bind fun | .inr w => some w | .inl _ => some true)

noncomputable def p_spec_MineValid_L0 (m0 : Mine) (k6 : Int) : O (Lp Int (Unit ⊕ Bool)) := cond (decide (k6 < ((m0.aw.length : Nat) : Int))) (idx m0.aw.length k6 fun j12 => (p_spec_l1In ((gx m0.aw j12).f) 0 (w64 (m0.p - 1))).bind fun v15 => cond (!v15) (some (.out (.inr false))) ((p_spec_l1In ((gx m0.aw j12).t) 0 (w64 (m0.p - 1))).bind fun v19 => cond (!v19) (some (.out (.inr false))) (cond (((gx m0.aw j12).f) == ((gx m0.aw j12).t)) (some (.out (.inr false))) ((p_spec_l1In ((gx m0.aw j12).w) 1 6).bind fun v24 => cond (!v24) (some (.out (.inr false))) (some (.next (w64 (k6 + 1)))))))) (some (.out (.inl ())))
noncomputable def p_spec_MineValid (m0 : Mine) : O (Bool) := (loop (p_spec_MineValid_L0 m0) 0 : O (Unit ⊕ Bool)).bind fun | .inr w => some w | .inl _ => (p_spec_l1In m0.p 1 5).bind fun v31 => cond v31 (some (decide (((m0.aw.length : Nat) : Int) ≤ 7))) (some false)

end Go.Proofs.YtpfijnklnljccaaDoor
namespace Go.Proofs.YtpfijnklnljccaaDoor
open Go
set_option linter.unusedVariables false
set_option linter.unusedSimpArgs false

noncomputable def p_spec_LegValid (stations0 : Int) (g0 : Leg) : O (Bool) := (p_spec_l1In stations0 1 6).bind fun v3 => cond v3 ((p_spec_l1In g0.f 0 (w64 (stations0 - 1))).bind fun v7 => cond v7 ((p_spec_l1In g0.t 0 (w64 (stations0 - 1))).bind fun v11 => cond v11 (cond (g0.f != g0.t) ((p_spec_l1In g0.e (-99) 99).bind fun v16 => cond v16 ((p_spec_l1In g0.n (-99) 99).bind fun v20 => cond v20 ((p_spec_l1In g0.u (-99) 99).bind fun v24 => some v24) (some false)) (some false)) (some false)) (some false)) (some false)) (some false)

noncomputable def p_spec_SurveyValid_L0 (s0 : Survey) (k6 : Int) : O (Lp Int (Unit ⊕ Bool)) := cond (decide (k6 < ((s0.legs.length : Nat) : Int))) (idx s0.legs.length k6 fun j12 => (p_spec_LegValid s0.st (gx s0.legs j12)).bind fun v14 => cond (!v14) (some (.out (.inr false))) (some (.next (w64 (k6 + 1))))) (some (.out (.inl ())))
noncomputable def p_spec_SurveyValid (s0 : Survey) : O (Bool) := (loop (p_spec_SurveyValid_L0 s0) 0 : O (Unit ⊕ Bool)).bind fun | .inr w => some w | .inl _ => (p_spec_l1In s0.st 1 6).bind fun v21 => cond v21 (some (decide (((s0.legs.length : Nat) : Int) ≤ 9))) (some false)

noncomputable def p_spec_l1Parts_L0 (s0 : Survey) (z : List Int × Int) : O (Lp (List Int × Int) (List Int)) := match z with | (part9, k10) => cond (decide (k10 < s0.st)) (need (part9.length + ([k10] : List Int).length ≤ 1073741824) <| some (.next (part9 ++ ([k10] : List Int), w64 (k10 + 1)))) (some (.out part9))
noncomputable def p_spec_l1Parts_L2 (part5 : List Int) (l30 : List Int) (j38 : Nat) (j39 : Nat) (z : Int × List Int) : O (Lp (Int × List Int) (List Int)) := match z with | (k44, l45) => cond (decide (k44 < ((part5.length : Nat) : Int))) (idx part5.length k44 fun j51 => cond ((gx l45 j51) == (max (gx l30 j38) (gx l30 j39))) (some (.next (w64 (k44 + 1), l45.set j51 (min (gx l30 j38) (gx l30 j39))))) (some (.next (w64 (k44 + 1), l45)))) (some (.out l45))
noncomputable def p_spec_l1Parts_L1 (s0 : Survey) (use0 : List Int) (part5 : List Int) (z : Int × List Int) : O (Lp (Int × List Int) (List Int)) := match z with | (n29, l30) => cond (decide (n29 < ((use0.length : Nat) : Int))) (idx use0.length n29 fun j36 => idx s0.legs.length (gx use0 j36) fun j37 => idx part5.length ((gx s0.legs j37).f) fun j38 => idx part5.length ((gx s0.legs j37).t) fun j39 => (loop (p_spec_l1Parts_L2 part5 l30 j38 j39) (0, l30)).bind fun l40 => some (.next (w64 (n29 + 1), l40))) (some (.out l30))
noncomputable def p_spec_l1Parts (s0 : Survey) (use0 : List Int) : O (List Int) := (loop (p_spec_l1Parts_L0 s0) (([] : List Int), 0)).bind fun part5 => (loop (p_spec_l1Parts_L1 s0 use0 part5) (0, part5)).bind fun l25 => some l25

noncomputable def p_spec_l3Survey_L0 (m0 : Mine) (z : Int × List Leg) : O (Lp (Int × List Leg) (List Leg)) := match z with | (k9, legs10) => cond (decide (k9 < ((m0.aw.length : Nat) : Int))) (idx m0.aw.length k9 fun j17 => need (legs10.length + ([(⟨(gx m0.aw j17).f, (gx m0.aw j17).t, 0, 0, 0⟩ : Leg)] : List Leg).length ≤ 1073741824) <| some (.next (w64 (k9 + 1), legs10 ++ ([(⟨(gx m0.aw j17).f, (gx m0.aw j17).t, 0, 0, 0⟩ : Leg)] : List Leg)))) (some (.out legs10))
noncomputable def p_spec_l3Survey (m0 : Mine) : O (Survey) := (loop (p_spec_l3Survey_L0 m0) (0, ([] : List Leg))).bind fun legs5 => some (⟨m0.p, legs5⟩ : Survey)

end Go.Proofs.YtpfijnklnljccaaDoor
namespace Go.Proofs.YtpfijnklnljccaaDoor
open Go
set_option linter.unusedVariables false
set_option linter.unusedSimpArgs false

noncomputable def p_spec_TreeLegs_L0 (s0 : Survey) (z : List Int × Int) : O (Lp (List Int × Int) (List Int)) := match z with | (out8, k9) => (cond (decide (k9 < ((s0.legs.length : Nat) : Int))) ((p_spec_SurveyValid (⟨s0.st, s0.legs⟩ : Survey)).bind fun v21 => some v21) (some false)).bind fun x15 => cond x15 ((p_spec_l1Parts (⟨s0.st, s0.legs⟩ : Survey) out8).bind fun v28 => idx s0.legs.length k9 fun j30 => idx v28.length ((gx s0.legs j30).f) fun j31 => idx v28.length ((gx s0.legs j30).t) fun j32 => cond ((gx v28 j31) != (gx v28 j32)) (need (out8.length + ([k9] : List Int).length ≤ 1073741824) <| some (.next (out8 ++ ([k9] : List Int), w64 (k9 + 1)))) (some (.next (out8, w64 (k9 + 1))))) (some (.out out8))
noncomputable def p_spec_TreeLegs (s0 : Survey) : O (List Int) := (loop (p_spec_TreeLegs_L0 s0) (([] : List Int), 0)).bind fun out4 => some out4

noncomputable def p_spec_l1Find_L0 (s0 : Survey) (use0 : List Int) (from0 : Int) (to0 : Int) (but0 : Int) (rec : Survey → List Int → Int → Int → Int → O (List Step × Bool)) (n9 : Int) : O (Lp Int (Unit ⊕ (List Step × Bool))) := cond (decide (n9 < ((use0.length : Nat) : Int))) (idx use0.length n9 fun j15 => idx s0.legs.length (gx use0 j15) fun j16 => (cond (((gx s0.legs j16).f) == from0) (some (((gx s0.legs j16).t) != but0)) (some false)).bind fun x18 => (cond x18 ((rec (⟨s0.st, s0.legs⟩ : Survey) use0 ((gx s0.legs j16).t) to0 from0).bind fun (v31, v32) => cond v32 (idx use0.length n9 fun j36 => need (([(⟨gx use0 j36, false⟩ : Step)] : List Step).length + v31.length ≤ 1073741824) <| some (.inr (.out (.inr (([(⟨gx use0 j36, false⟩ : Step)] : List Step) ++ v31, true))))) (some (.inl ()))) (some (.inl ())) : O (Unit ⊕ (Lp Int (Unit ⊕ (List Step × Bool))))).bind fun | .inr w => some w | .inl _ => (cond (((gx s0.legs j16).t) == from0) (some (((gx s0.legs j16).f) != but0)) (some false)).bind fun x44 => cond x44 ((rec (⟨s0.st, s0.legs⟩ : Survey) use0 ((gx s0.legs j16).f) to0 from0).bind fun (v54, v55) => cond v55 (idx use0.length n9 fun j59 => need (([(⟨gx use0 j59, true⟩ : Step)] : List Step).length + v54.length ≤ 1073741824) <| some (.out (.inr (([(⟨gx use0 j59, true⟩ : Step)] : List Step) ++ v54, true)))) (some (.next (w64 (n9 + 1))))) (some (.next (w64 (n9 + 1))))) (some (.out (.inl ())))
noncomputable def p_spec_l1Find : Nat → Survey → List Int → Int → Int → Int → O (List Step × Bool)
  | 0, _, _, _, _, _ => none
  | fuel + 1, s0, use0, from0, to0, but0 => (fun rec => cond (from0 == to0) (some (([] : List Step), true)) ((loop (p_spec_l1Find_L0 s0 use0 from0 to0 but0 rec) 0 : O (Unit ⊕ (List Step × Bool))).bind fun | .inr w => some w | .inl _ => some (([] : List Step), false))) (p_spec_l1Find fuel)

noncomputable def p_spec_TreeWay (s0 : Survey) (from0 : Int) (to0 : Int) : O (List Step × Bool) := ((p_spec_SurveyValid (⟨s0.st, s0.legs⟩ : Survey)).bind fun v8 => cond (!v8) (some true) ((p_spec_l1In from0 0 (w64 (s0.st - 1))).bind fun v12 => cond (!v12) (some true) ((p_spec_l1In to0 0 (w64 (s0.st - 1))).bind fun v16 => some (!v16)))).bind fun x3 => cond x3 (some (([] : List Step), false)) ((p_spec_TreeLegs (⟨s0.st, s0.legs⟩ : Survey)).bind fun v24 => (p_spec_l1Find 64 (⟨s0.st, s0.legs⟩ : Survey) v24 from0 to0 (-1)).bind fun (v27, v28) => some (v27, v28))

end Go.Proofs.YtpfijnklnljccaaDoor
namespace Go.Proofs.YtpfijnklnljccaaDoor
open Go
set_option linter.unusedVariables false
set_option linter.unusedSimpArgs false

noncomputable def p_spec_l1Has_L0 (list0 : List Int) (n0 : Int) (k5 : Int) : O (Lp Int (Unit ⊕ Bool)) := cond (decide (k5 < ((list0.length : Nat) : Int))) (idx list0.length k5 fun j11 => cond ((gx list0 j11) == n0) (some (.out (.inr true))) (some (.next (w64 (k5 + 1))))) (some (.out (.inl ())))
noncomputable def p_spec_l1Has (list0 : List Int) (n0 : Int) : O (Bool) := (loop (p_spec_l1Has_L0 list0 n0) 0 : O (Unit ⊕ Bool)).bind fun | .inr w => some w | .inl _ => some false

end Go.Proofs.YtpfijnklnljccaaDoor
namespace Go.Proofs.YtpfijnklnljccaaDoor
open Go
set_option linter.unusedVariables false
set_option linter.unusedSimpArgs false

noncomputable def p_spec_LoopSteps (s0 : Survey) (index0 : Int) : O (List Step × Bool) := ((p_spec_SurveyValid (⟨s0.st, s0.legs⟩ : Survey)).bind fun v8 => cond (!v8) (some true) ((p_spec_l1In index0 0 (w64 (((s0.legs.length : Nat) : Int) - 1))).bind fun v12 => cond (!v12) (some true) ((p_spec_TreeLegs (⟨s0.st, s0.legs⟩ : Survey)).bind fun v16 => (p_spec_l1Has v16 index0).bind fun v19 => some v19))).bind fun x3 => cond x3 (some (([] : List Step), false)) (idx s0.legs.length index0 fun j26 => (p_spec_TreeWay (⟨s0.st, s0.legs⟩ : Survey) ((gx s0.legs j26).t) ((gx s0.legs j26).f)).bind fun (v28, v29) => need (([(⟨index0, false⟩ : Step)] : List Step).length + v28.length ≤ 1073741824) <| some (([(⟨index0, false⟩ : Step)] : List Step) ++ v28, true))

end Go.Proofs.YtpfijnklnljccaaDoor
namespace Go.Proofs.YtpfijnklnljccaaDoor
open Go
set_option linter.unusedVariables false
set_option linter.unusedSimpArgs false

noncomputable def p_spec_l20Flow_L0 (v17 : Int) (v24 : List Step) (v25 : Bool) (j28 : Nat) (z : Int × List Int) : O (Lp (Int × List Int) (List Int)) := match z with | (k34, l35) => (cond (decide (k34 < ((v24.length : Nat) : Int))) (some v25) (some false)).bind fun x40 => cond x40 (idx v24.length k34 fun j49 => idx j28 ((gx v24 j49).i) fun j50 => cond ((gx v24 j49).b) (some (.next (w64 (k34 + 1), (l35.set j50 (w64 (v17 - 2))).set j50 (w64 (-(w64 (v17 - 2))))))) (some (.next (w64 (k34 + 1), l35.set j50 (w64 (v17 - 2)))))) (some (.out l35))
noncomputable def p_spec_l20Flow_L2 (j28 : Nat) (v72 : List Step) (v73 : Bool) (v77 : Int) (z : Int × List Int) : O (Lp (Int × List Int) (List Int)) := match z with | (j84, l85) => (cond (decide (j84 < ((v72.length : Nat) : Int))) (some v73) (some false)).bind fun x90 => cond x90 (idx v72.length j84 fun j99 => (cond ((gx v72 j99).b) (some (w64 (-(w64 (v77 - 3))))) (some (w64 (v77 - 3)))).bind fun x100 => idx v72.length j84 fun j108 => idx j28 ((gx v72 j108).i) fun j109 => some (.next (w64 (j84 + 1), l85.set j109 (w64 ((gx l85 j109) + x100))))) (some (.out l85))
noncomputable def p_spec_l20Flow_L1 (r0 : Rd) (v4 : Mine) (j28 : Nat) (z : Int × Int × List Int) : O (Lp (Int × Int × List Int) (Int × List Int)) := match z with | (k60, p61, l62) => cond (decide (k60 < ((v4.aw.length : Nat) : Int))) ((p_spec_l3Survey (⟨v4.p, v4.aw⟩ : Mine)).bind fun v69 => (p_spec_LoopSteps v69 k60).bind fun (v72, v73) => (p_spec_l20Rd_pick (⟨r0.b, p61⟩ : Rd) 7).bind fun (v77, v78) => (loop (p_spec_l20Flow_L2 j28 v72 v73 v77) (0, l62)).bind fun l80 => some (.next (w64 (k60 + 1), v78, l80))) (some (.out (p61, l62)))
noncomputable def p_spec_l20Flow (r0 : Rd) : O (Mine × Int × Int × Int × List Int × Int) := (p_spec_l20Mine (⟨r0.b, r0.p⟩ : Rd) 14).bind fun (v4, v5) => (p_spec_l20PlaceOf (⟨r0.b, v5⟩ : Rd) (⟨v4.p, v4.aw⟩ : Mine)).bind fun (v9, v10) => (p_spec_l20PlaceOf (⟨r0.b, v10⟩ : Rd) (⟨v4.p, v4.aw⟩ : Mine)).bind fun (v13, v14) => (p_spec_l20Rd_pick (⟨r0.b, v14⟩ : Rd) 9).bind fun (v17, v18) => (p_spec_l3Survey (⟨v4.p, v4.aw⟩ : Mine)).bind fun v21 => (p_spec_TreeWay v21 v9 v13).bind fun (v24, v25) => sized ((v4.aw.length : Nat) : Int) fun j28 => (loop (p_spec_l20Flow_L0 v17 v24 v25 j28) (0, List.replicate j28 0)).bind fun l30 => (loop (p_spec_l20Flow_L1 r0 v4 j28) (0, v18, l30)).bind fun (p55, l56) => ((p_spec_l20Rd_odd (⟨r0.b, p55⟩ : Rd) 12).bind fun (v122, v123) => cond v122 (some (decide (0 < ((j28 : Nat) : Int)), v123)) (some (false, v123))).bind fun (x116, p117) => (cond x116 (idx j28 0 fun j134 => some (l56.set j134 (w64 ((gx l56 j134) + 1)))) (some l56)).bind fun l129 => some ((⟨v4.p, v4.aw⟩ : Mine), v9, v13, w64 (v17 - 2), l129, p117)

end Go.Proofs.YtpfijnklnljccaaDoor
namespace Go.Proofs.YtpfijnklnljccaaDoor
open Go
set_option linter.unusedVariables false
set_option linter.unusedSimpArgs false

noncomputable def p_impl_wayText (wy0 : Way) : O (ByteArray) := (p_strconv_Itoa wy0.e).bind fun v3 => need (v3.size + (⟨#[44]⟩ : ByteArray).size ≤ 9223372036854775807) <| (p_strconv_Itoa wy0.n).bind fun v7 => need ((v3 ++ (⟨#[44]⟩ : ByteArray)).size + v7.size ≤ 9223372036854775807) <| need (((v3 ++ (⟨#[44]⟩ : ByteArray)) ++ v7).size + (⟨#[44]⟩ : ByteArray).size ≤ 9223372036854775807) <| (p_strconv_Itoa wy0.u).bind fun v12 => need ((((v3 ++ (⟨#[44]⟩ : ByteArray)) ++ v7) ++ (⟨#[44]⟩ : ByteArray)).size + v12.size ≤ 9223372036854775807) <| some ((((v3 ++ (⟨#[44]⟩ : ByteArray)) ++ v7) ++ (⟨#[44]⟩ : ByteArray)) ++ v12)

noncomputable def p_impl_LegText (g0 : Leg) : O (ByteArray) := (p_impl_LegValid 6 (⟨g0.f, g0.t, g0.e, g0.n, g0.u⟩ : Leg)).bind fun v3 => cond (!v3) (some (⟨#[]⟩ : ByteArray)) ((p_strconv_Itoa g0.f).bind fun v7 => need (v7.size + (⟨#[62]⟩ : ByteArray).size ≤ 9223372036854775807) <| (p_strconv_Itoa g0.t).bind fun v11 => need ((v7 ++ (⟨#[62]⟩ : ByteArray)).size + v11.size ≤ 9223372036854775807) <| need (((v7 ++ (⟨#[62]⟩ : ByteArray)) ++ v11).size + (⟨#[58]⟩ : ByteArray).size ≤ 9223372036854775807) <| (p_impl_legWay (⟨g0.f, g0.t, g0.e, g0.n, g0.u⟩ : Leg)).bind fun v16 => (p_impl_wayText v16).bind fun v19 => need ((((v7 ++ (⟨#[62]⟩ : ByteArray)) ++ v11) ++ (⟨#[58]⟩ : ByteArray)).size + v19.size ≤ 9223372036854775807) <| some ((((v7 ++ (⟨#[62]⟩ : ByteArray)) ++ v11) ++ (⟨#[58]⟩ : ByteArray)) ++ v19))

noncomputable def p_laws_alive  : O (Bool) := (p_impl_LegText (⟨0, 1, 3, (-4), 2⟩ : Leg)).bind fun v2 => cond (v2.toList == (⟨#[48, 62, 49, 58, 51, 44, 45, 52, 44, 50]⟩ : ByteArray).toList) ((p_impl_LegText (⟨0, 0, 0, 0, 0⟩ : Leg)).bind fun v6 => some (v6.toList == (⟨#[]⟩ : ByteArray).toList)) (some false)

end Go.Proofs.YtpfijnklnljccaaDoor
namespace Go.Proofs.YtpfijnklnljccaaDoor
open Go
set_option linter.unusedVariables false
set_option linter.unusedSimpArgs false

noncomputable def p_impl_flowFits_L0 (flow0 : List Int) (x8 : Int) : O (Lp Int (Unit ⊕ Bool)) := cond (decide (x8 < ((flow0.length : Nat) : Int))) (idx flow0.length x8 fun j14 => (p_impl_isWithin (gx flow0 j14) 9999999).bind fun v16 => cond (!v16) (some (.out (.inr false))) (some (.next (w64 (x8 + 1))))) (some (.out (.inl ())))
noncomputable def p_impl_flowFits (m0 : Mine) (flow0 : List Int) : O (Bool) := cond (((flow0.length : Nat) : Int) != ((m0.aw.length : Nat) : Int)) (some false) ((loop (p_impl_flowFits_L0 flow0) 0 : O (Unit ⊕ Bool)).bind fun | .inr w => some w | .inl _ => some true)

noncomputable def p_impl_FlowLoss_L0 (m0 : Mine) (flow0 : List Int) (z : Int × Int) : O (Lp (Int × Int) Int) := match z with | (sum23, x24) => cond (decide (x24 < ((m0.aw.length : Nat) : Int))) (idx m0.aw.length x24 fun j30 => idx flow0.length x24 fun j32 => need (((gx m0.aw j30).w) ≠ 0) <| some (.next (w64 (sum23 + (w64 ((w64 ((gx flow0 j32) * (gx flow0 j32))) * (w64 (Int.tdiv 60 ((gx m0.aw j30).w)))))), w64 (x24 + 1)))) (some (.out sum23))
noncomputable def p_impl_FlowLoss (m0 : Mine) (flow0 : List Int) : O (Int) := ((p_impl_MineValid (⟨m0.p, m0.aw⟩ : Mine)).bind fun v9 => cond (!v9) (some true) ((p_impl_flowFits (⟨m0.p, m0.aw⟩ : Mine) flow0).bind fun v13 => some (!v13))).bind fun x4 => cond x4 (some (-1)) ((loop (p_impl_FlowLoss_L0 m0 flow0) (0, 0)).bind fun sum19 => some sum19)

noncomputable def p_spec_FlowLoss_L0 (m0 : Mine) (flow0 : List Int) (z : Int × Int) : O (Lp (Int × Int) (Int ⊕ Int)) := match z with | (sum20, k21) => cond (decide (k21 < ((flow0.length : Nat) : Int))) (idx flow0.length k21 fun j27 => (p_spec_l1In (gx flow0 j27) (-9999999) 9999999).bind fun v29 => cond (!v29) (some (.out (.inr (-1)))) (idx m0.aw.length k21 fun j32 => need (((gx m0.aw j32).w) ≠ 0) <| some (.next (w64 (sum20 + (w64 ((w64 ((gx flow0 j27) * (gx flow0 j27))) * (w64 (Int.tdiv 60 ((gx m0.aw j32).w)))))), w64 (k21 + 1))))) (some (.out (.inl sum20)))
noncomputable def p_spec_FlowLoss (m0 : Mine) (flow0 : List Int) : O (Int) := ((p_spec_MineValid (⟨m0.p, m0.aw⟩ : Mine)).bind fun v9 => cond (!v9) (some true) (some (((flow0.length : Nat) : Int) != ((m0.aw.length : Nat) : Int)))).bind fun x4 => cond x4 (some (-1)) ((loop (p_spec_FlowLoss_L0 m0 flow0) (0, 0) : O (Int ⊕ Int)).bind fun | .inr w => some w | .inl sum16 => some sum16)

end Go.Proofs.YtpfijnklnljccaaDoor
namespace Go.Proofs.YtpfijnklnljccaaDoor
open Go
set_option linter.unusedVariables false
set_option linter.unusedSimpArgs false

noncomputable def p_spec_DrawFlowLoss (code0 : List UInt8) : O (Mine × List Int) := (p_spec_l20Open code0).bind fun v4 => (p_spec_l20Flow (⟨v4.b, v4.p⟩ : Rd)).bind fun (v7, v8, v9, v10, v11, v12) => (p_spec_l20Rd_odd (⟨v4.b, v12⟩ : Rd) 20).bind fun (v20, v21) => cond v20 (need (v11.length + ([1] : List Int).length ≤ 1073741824) <| some ((⟨v7.p, v7.aw⟩ : Mine), v11 ++ ([1] : List Int))) (some ((⟨v7.p, v7.aw⟩ : Mine), v11))

noncomputable def p_laws_FnFlowLoss_L0 (v5 : List Int) (z : List Int × List Int × Bool × Int) : O (Lp (List Int × List Int × Bool × Int) (List Int × List Int × Bool)) := match z with | (back29, twice30, some31, k32) => cond (decide (k32 < ((v5.length : Nat) : Int))) (idx v5.length k32 fun j40 => need (back29.length + ([w64 (-(gx v5 j40))] : List Int).length ≤ 1073741824) <| need (twice30.length + ([w64 (2 * (gx v5 j40))] : List Int).length ≤ 1073741824) <| cond some31 (some (.next (back29 ++ ([w64 (-(gx v5 j40))] : List Int), twice30 ++ ([w64 (2 * (gx v5 j40))] : List Int), true, w64 (k32 + 1)))) (some (.next (back29 ++ ([w64 (-(gx v5 j40))] : List Int), twice30 ++ ([w64 (2 * (gx v5 j40))] : List Int), (gx v5 j40) != 0, w64 (k32 + 1))))) (some (.out (back29, twice30, some31)))
noncomputable def p_laws_FnFlowLoss (code0 : List UInt8) : O (Bool) := cond (decide (1048576 < ((code0.length : Nat) : Int))) (some true) ((p_spec_DrawFlowLoss code0).bind fun (v4, v5) => (p_impl_FlowLoss (⟨v4.p, v4.aw⟩ : Mine) v5).bind fun v10 => (p_spec_FlowLoss (⟨v4.p, v4.aw⟩ : Mine) v5).bind fun v13 => cond (v10 != v13) (some false) (cond (decide (v10 < 0)) (cond (v10 == (-1)) ((p_laws_alive).bind fun v19 => some v19) (some false)) ((loop (p_laws_FnFlowLoss_L0 v5) (([] : List Int), ([] : List Int), false, 0)).bind fun (back23, twice24, some25) => (p_impl_FlowLoss (⟨v4.p, v4.aw⟩ : Mine) back23).bind fun v56 => cond (v56 == v10) ((p_impl_FlowLoss (⟨v4.p, v4.aw⟩ : Mine) twice24).bind fun v60 => cond (v60 == (w64 (4 * v10))) (some ((decide (0 < v10)) == some25)) (some false)) (some false))))

end Go.Proofs.YtpfijnklnljccaaDoor
