/- Functions of the program as plain partial programs; no condition. -/
import Derived.Test.YtpfijnklnljccaaDoorDa
import Derived.Test.YtpfijnklnljccaaDoorQbr
namespace Go.Proofs.YtpfijnklnljccaaDoor
open Go
set_option linter.unusedVariables false
set_option linter.unusedSimpArgs false

noncomputable def p_spec_l20Mine_L0 (r0 : Rd) (v4 : Int) (v9 : Int) (z : Int × Int × List Airway) : O (Lp (Int × Int × List Airway) (Int × List Airway)) := match z with | (k17, p18, aw19) => cond (decide (k17 < (w64 (2 + v4)))) ((cond (!(v9 == 0)) (some (true, p18)) ((p_spec_l20Rd_pick (⟨r0.b, p18⟩ : Rd) 3).bind fun (v33, v34) => some (decide (0 < v33), v34))).bind fun (x26, p27) => cond x26 ((p_spec_l20Rd_pick (⟨r0.b, p27⟩ : Rd) k17).bind fun (v41, v42) => (p_spec_l20Rd_pick (⟨r0.b, v42⟩ : Rd) 6).bind fun (v45, v46) => need (aw19.length + ([(⟨v41, k17, w64 (1 + v45)⟩ : Airway)] : List Airway).length ≤ 1073741824) <| some (.next (w64 (k17 + 1), v46, aw19 ++ ([(⟨v41, k17, w64 (1 + v45)⟩ : Airway)] : List Airway)))) (some (.next (w64 (k17 + 1), p27, aw19)))) (some (.out (p18, aw19)))
noncomputable def p_spec_l20Mine_L1 (r0 : Rd) (v4 : Int) (z : Int × Int × List Airway) : O (Lp (Int × Int × List Airway) (Int × List Airway)) := match z with | (k65, p66, aw67) => (cond (decide (0 < k65)) (some (decide (((aw67.length : Nat) : Int) < 7))) (some false)).bind fun x73 => cond x73 ((p_spec_l20Rd_pick (⟨r0.b, p66⟩ : Rd) (w64 (2 + v4))).bind fun (v83, v84) => (p_spec_l20Rd_pick (⟨r0.b, v84⟩ : Rd) (w64 (2 + v4))).bind fun (v87, v88) => (p_spec_l20Rd_pick (⟨r0.b, v88⟩ : Rd) 6).bind fun (v91, v92) => cond (v83 != v87) (need (aw67.length + ([(⟨v83, v87, w64 (1 + v91)⟩ : Airway)] : List Airway).length ≤ 1073741824) <| some (.next (w64 (k65 - 1), v92, aw67 ++ ([(⟨v83, v87, w64 (1 + v91)⟩ : Airway)] : List Airway)))) (some (.next (w64 (k65 - 1), v92, aw67)))) (some (.out (p66, aw67)))
noncomputable def p_spec_l20Mine (r0 : Rd) (n0 : Int) : O (Mine × Int) := (p_spec_l20Rd_pick (⟨r0.b, r0.p⟩ : Rd) 4).bind fun (v4, v5) => (p_spec_l20Rd_pick (⟨r0.b, v5⟩ : Rd) 7).bind fun (v9, v10) => (loop (p_spec_l20Mine_L0 r0 v4 v9) (1, v10, ([] : List Airway))).bind fun (p12, aw13) => (p_spec_l20Rd_pick (⟨r0.b, p12⟩ : Rd) 4).bind fun (v57, v58) => (loop (p_spec_l20Mine_L1 r0 v4) (v57, v58, aw13)).bind fun (p60, aw61) => (p_spec_l20Rd_odd (⟨r0.b, p60⟩ : Rd) n0).bind fun (v106, v107) => cond v106 ((p_spec_l20Rd_pick (⟨r0.b, v107⟩ : Rd) 4).bind fun (v111, v112) => cond (v111 == 0) ((p_spec_l20Rd_pick (⟨r0.b, v112⟩ : Rd) 2).bind fun (v117, v118) => idx 2 v117 fun j120 => some ((⟨gx ([0, 6] : List Int) j120, aw61⟩ : Mine), v118)) (cond (v111 == 1) (need (aw61.length + ([(⟨1, 1, 1⟩ : Airway)] : List Airway).length ≤ 1073741824) <| some ((⟨w64 (2 + v4), aw61 ++ ([(⟨1, 1, 1⟩ : Airway)] : List Airway)⟩ : Mine), v112)) (cond (v111 == 2) ((p_spec_l20Rd_pick (⟨r0.b, v112⟩ : Rd) 2).bind fun (v129, v130) => idx 2 v129 fun j132 => need (aw61.length + ([(⟨0, 1, gx ([0, 7] : List Int) j132⟩ : Airway)] : List Airway).length ≤ 1073741824) <| some ((⟨w64 (2 + v4), aw61 ++ ([(⟨0, 1, gx ([0, 7] : List Int) j132⟩ : Airway)] : List Airway)⟩ : Mine), v130)) (sized 8 fun j138 => some ((⟨w64 (2 + v4), List.replicate j138 (⟨0, 0, 0⟩ : Airway)⟩ : Mine), v112))))) (some ((⟨w64 (2 + v4), aw61⟩ : Mine), v107))


noncomputable def p_spec_l20Airway (r0 : Rd) (m0 : Mine) : O (Int × Int) := (p_spec_l20Rd_pick (⟨r0.b, r0.p⟩ : Rd) (max ((m0.aw.length : Nat) : Int) 1)).bind fun (v5, v6) => (p_spec_l20Rd_pick (⟨r0.b, v6⟩ : Rd) 20).bind fun (v9, v10) => (p_spec_l20Rd_pick (⟨r0.b, v10⟩ : Rd) 20).bind fun (v13, v14) => some (w64 ((w64 (v5 + (w64 ((w64 (Int.tdiv v9 19)) * 8)))) - (w64 ((w64 (Int.tdiv v13 19)) * 9))), v14)


noncomputable def p_spec_l20PlaceOf (r0 : Rd) (m0 : Mine) : O (Int × Int) := (p_spec_l20Rd_pick (⟨r0.b, r0.p⟩ : Rd) (max m0.p 1)).bind fun (v5, v6) => (p_spec_l20Rd_pick (⟨r0.b, v6⟩ : Rd) 40).bind fun (v9, v10) => (p_spec_l20Rd_pick (⟨r0.b, v10⟩ : Rd) 40).bind fun (v13, v14) => some (w64 ((w64 (v5 + (w64 ((w64 (Int.tdiv v9 39)) * 6)))) - (w64 ((w64 (Int.tdiv v13 39)) * 7))), v14)


noncomputable def p_spec_l20Blown (r0 : Rd) : O (Mine × Int × Int × Int) := (p_spec_l20Mine (⟨r0.b, r0.p⟩ : Rd) 12).bind fun (v4, v5) => (p_spec_l20PlaceOf (⟨r0.b, v5⟩ : Rd) (⟨v4.p, v4.aw⟩ : Mine)).bind fun (v9, v10) => (p_spec_l20PlaceOf (⟨r0.b, v10⟩ : Rd) (⟨v4.p, v4.aw⟩ : Mine)).bind fun (v13, v14) => some ((⟨v4.p, v4.aw⟩ : Mine), v9, v13, v14)


end Go.Proofs.YtpfijnklnljccaaDoor
