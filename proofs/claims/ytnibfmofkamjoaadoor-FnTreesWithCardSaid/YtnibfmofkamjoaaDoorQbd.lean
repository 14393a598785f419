/- Functions of the program as plain partial programs; no condition. -/
import Derived.Test.YtnibfmofkamjoaaDoorDa
import Derived.Test.YtnibfmofkamjoaaDoorQbw
namespace Go.Proofs.YtnibfmofkamjoaaDoor
open Go
set_option linter.unusedVariables false
set_option linter.unusedSimpArgs false

noncomputable def p_impl_entriesFit_L0 (row0 : List Int) (x5 : Int) : O (Lp Int (Unit ⊕ Bool)) := cond (decide (x5 < ((row0.length : Nat) : Int))) (idx row0.length x5 fun j11 => (p_impl_isWithin (gx row0 j11) 999).bind fun v13 => cond (!v13) (some (.out (.inr false))) (some (.next (w64 (x5 + 1))))) (some (.out (.inl ())))
noncomputable def p_impl_entriesFit (row0 : List Int) : O (Bool) := (loop (p_impl_entriesFit_L0 row0) 0 : O (Unit ⊕ Bool)).bind fun | .inr w => some w | .inl _ => some true


noncomputable def p_impl_MatrixValid_L0 (m0 : List (List Int)) (x6 : Int) : O (Lp Int (Unit ⊕ Bool)) := cond (decide (x6 < ((m0.length : Nat) : Int))) (idx m0.length x6 fun j12 => cond ((((gx m0 j12).length : Nat) : Int) != ((m0.length : Nat) : Int)) (some (.out (.inr false))) ((p_impl_entriesFit (gx m0 j12)).bind fun v15 => cond (!v15) (some (.out (.inr false))) (some (.next (w64 (x6 + 1)))))) (some (.out (.inl ())))
noncomputable def p_impl_MatrixValid (m0 : List (List Int)) : O (Bool) := cond (decide (5 < ((m0.length : Nat) : Int))) (some false) ((loop (p_impl_MatrixValid_L0 m0) 0 : O (Unit ⊕ Bool)).bind fun | .inr w => some w | .inl _ => some true)


noncomputable def p_impl_detFrom_L0 (m0 : List (List Int)) (row0 : Int) (used0 : Int) (rec : List (List Int) → Int → Int → O (Int)) (j3 : Nat) (z : Int × Int × Int) : O (Lp (Int × Int × Int) Int) := match z with | (sum8, sign9, x10) => cond (decide (x10 < (((gx m0 j3).length : Nat) : Int))) (idx ((gx m0 j3).length) x10 fun j16 => need (0 ≤ x10) <| cond ((IntKind.i64.wrap (BitVec.ofInt IntKind.i64.bits (Int.fdiv used0 (2 ^ (min (Int.toNat x10) IntKind.i64.bits))) &&& BitVec.ofInt IntKind.i64.bits 1).toNat) == 1) (some (.next (sum8, sign9, w64 (x10 + 1)))) (cond ((gx (gx m0 j3) j16) != 0) (need (0 ≤ x10) <| (rec m0 (w64 (row0 + 1)) (IntKind.i64.wrap (BitVec.ofInt IntKind.i64.bits used0 ||| BitVec.ofInt IntKind.i64.bits (w64 (1 * 2 ^ (min (Int.toNat x10) IntKind.i64.bits)))).toNat)).bind fun v22 => some (.next (w64 (sum8 + (w64 ((w64 (sign9 * (gx (gx m0 j3) j16))) * v22))), w64 (-sign9), w64 (x10 + 1)))) (some (.next (sum8, w64 (-sign9), w64 (x10 + 1)))))) (some (.out sum8))
noncomputable def p_impl_detFrom : Nat → List (List Int) → Int → Int → O (Int)
  | 0, _, _, _ => none
  | fuel + 1, m0, row0, used0 => (fun rec => cond (row0 == ((m0.length : Nat) : Int)) (some 1) (idx m0.length row0 fun j3 => (loop (p_impl_detFrom_L0 m0 row0 used0 rec j3) (0, 1, 0)).bind fun sum4 => some sum4)) (p_impl_detFrom fuel)


noncomputable def p_impl_Det (m0 : List (List Int)) : O (Int) := (p_impl_MatrixValid m0).bind fun v3 => cond (!v3) (some 0) ((p_impl_detFrom 64 m0 0 0).bind fun v7 => some v7)


noncomputable def p_spec_MatrixValid_L1 (m0 : List (List Int)) (k5 : Int) (j16 : Int) : O (Lp Int (Unit ⊕ (Lp Int (Unit ⊕ Bool)))) := idx m0.length k5 fun j21 => cond (decide (j16 < (((gx m0 j21).length : Nat) : Int))) (idx ((gx m0 j21).length) j16 fun j23 => (p_spec_l1In (gx (gx m0 j21) j23) (-999) 999).bind fun v25 => cond (!v25) (some (.out (.inr (.out (.inr false))))) (some (.next (w64 (j16 + 1))))) (some (.out (.inl ())))
noncomputable def p_spec_MatrixValid_L0 (m0 : List (List Int)) (k5 : Int) : O (Lp Int (Unit ⊕ Bool)) := cond (decide (k5 < ((m0.length : Nat) : Int))) (idx m0.length k5 fun j11 => cond ((((gx m0 j11).length : Nat) : Int) != ((m0.length : Nat) : Int)) (some (.out (.inr false))) ((loop (p_spec_MatrixValid_L1 m0 k5) 0 : O (Unit ⊕ (Lp Int (Unit ⊕ Bool)))).bind fun | .inr w => some w | .inl _ => some (.next (w64 (k5 + 1))))) (some (.out (.inl ())))
noncomputable def p_spec_MatrixValid (m0 : List (List Int)) : O (Bool) := (loop (p_spec_MatrixValid_L0 m0) 0 : O (Unit ⊕ Bool)).bind fun | .inr w => some w | .inl _ => some (decide (((m0.length : Nat) : Int) ≤ 5))


noncomputable def p_spec_l2Minor_L0 (m0 : List (List Int)) (row0 : Int) (column0 : Int) (z : List (List Int) × Int) : O (Lp (List (List Int) × Int) (List (List Int))) := match z with | (out9, k10) => cond (decide (k10 < ((m0.length : Nat) : Int))) (cond (k10 != row0) (idx m0.length k10 fun j20 => cut ((gx m0 j20).length) 0 column0 fun j21 j22 => need (([] : List Int).length + (((gx m0 j20).drop j21).take (j22 - j21)).length ≤ 1073741824) <| cut ((gx m0 j20).length) (w64 (column0 + 1)) (((gx m0 j20).length : Nat) : Int) fun j26 j27 => need ((([] : List Int) ++ (((gx m0 j20).drop j21).take (j22 - j21))).length + (((gx m0 j20).drop j26).take (j27 - j26)).length ≤ 1073741824) <| need (out9.length + 1 ≤ 1073741824) <| some (.next (out9 ++ [(([] : List Int) ++ (((gx m0 j20).drop j21).take (j22 - j21))) ++ (((gx m0 j20).drop j26).take (j27 - j26))], w64 (k10 + 1)))) (some (.next (out9, w64 (k10 + 1))))) (some (.out out9))
noncomputable def p_spec_l2Minor (m0 : List (List Int)) (row0 : Int) (column0 : Int) : O (List (List Int)) := (loop (p_spec_l2Minor_L0 m0 row0 column0) (([] : List (List Int)), 0)).bind fun out5 => some out5


noncomputable def p_spec_l2Det_L0 (m0 : List (List Int)) (rec : List (List Int) → O (Int)) (z : Int × Int × Int) : O (Lp (Int × Int × Int) Int) := match z with | (sum7, sign8, k9) => cond (decide (k9 < ((m0.length : Nat) : Int))) (idx m0.length 0 fun j15 => idx ((gx m0 j15).length) k9 fun j16 => cond ((gx (gx m0 j15) j16) != 0) ((p_spec_l2Minor m0 0 k9).bind fun v19 => (rec v19).bind fun v22 => some (.next (w64 (sum7 + (w64 ((w64 (sign8 * (gx (gx m0 j15) j16))) * v22))), w64 (-sign8), w64 (k9 + 1)))) (some (.next (sum7, w64 (-sign8), w64 (k9 + 1))))) (some (.out sum7))
noncomputable def p_spec_l2Det : Nat → List (List Int) → O (Int)
  | 0, _ => none
  | fuel + 1, m0 => (fun rec => cond (((m0.length : Nat) : Int) == 0) (some 1) ((loop (p_spec_l2Det_L0 m0 rec) (0, 1, 0)).bind fun sum3 => some sum3)) (p_spec_l2Det fuel)


noncomputable def p_spec_Det (m0 : List (List Int)) : O (Int) := (p_spec_MatrixValid m0).bind fun v3 => cond (!v3) (some 0) ((p_spec_l2Det 64 m0).bind fun v7 => some v7)


noncomputable def p_impl_MatrixTurn_L1 (m0 : List (List Int)) (v9 : List (List Int)) (x15 : Int) (j24 : Nat) (z : Int × List (List Int)) : O (Lp (Int × List (List Int)) (List (List Int))) := match z with | (x29, m30) => cond (decide (x29 < (((gx m0 j24).length : Nat) : Int))) (idx ((gx m0 j24).length) x29 fun j38 => idx v9.length x29 fun j39 => idx ((gx m30 j39).length) x15 fun j40 => some (.next (w64 (x29 + 1), m30.set j39 ((gx m30 j39).set j40 (gx (gx m0 j24) j38))))) (some (.out m30))
noncomputable def p_impl_MatrixTurn_L0 (m0 : List (List Int)) (v9 : List (List Int)) (z : Int × List (List Int)) : O (Lp (Int × List (List Int)) (List (List Int))) := match z with | (x15, m16) => cond (decide (x15 < ((m0.length : Nat) : Int))) (idx m0.length x15 fun j24 => (loop (p_impl_MatrixTurn_L1 m0 v9 x15 j24) (0, m16)).bind fun m25 => some (.next (w64 (x15 + 1), m25))) (some (.out m16))
noncomputable def p_impl_MatrixTurn (m0 : List (List Int)) : O (List (List Int)) := (p_impl_MatrixValid m0).bind fun v4 => cond (!v4) (some ([] : List (List Int))) ((p_impl_squareOf ((m0.length : Nat) : Int)).bind fun v9 => (loop (p_impl_MatrixTurn_L0 m0 v9) (0, v9)).bind fun m11 => some m11)


end Go.Proofs.YtnibfmofkamjoaaDoor
