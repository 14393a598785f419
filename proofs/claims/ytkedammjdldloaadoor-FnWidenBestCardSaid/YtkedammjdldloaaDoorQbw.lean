/- Functions of the program as plain partial programs; no condition. -/
import Derived.Test.YtkedammjdldloaaDoorDa
import Derived.Test.YtkedammjdldloaaDoorQbv
namespace Go.Proofs.YtkedammjdldloaaDoor
open Go
set_option linter.unusedVariables false
set_option linter.unusedSimpArgs false

noncomputable def p_impl_MineValid_L0 (m0 : Mine) (x16 : Int) : O (Lp Int (Unit ⊕ Bool)) := cond (decide (x16 < ((m0.aw.length : Nat) : Int))) (idx m0.aw.length x16 fun j22 => ((p_impl_isIndex ((gx m0.aw j22).f) m0.p).bind fun v29 => cond (!v29) (some true) ((p_impl_isIndex ((gx m0.aw j22).t) m0.p).bind fun v33 => cond (!v33) (some true) (some (((gx m0.aw j22).f) == ((gx m0.aw j22).t))))).bind fun x24 => cond x24 (some (.out (.inr false))) (cond (decide (((gx m0.aw j22).w) < 1)) (some (.out (.inr false))) (cond (decide (6 < ((gx m0.aw j22).w))) (some (.out (.inr false))) (some (.next (w64 (x16 + 1))))))) (some (.out (.inl ())))
noncomputable def p_impl_MineValid (m0 : Mine) : O (Bool) := (cond (decide (m0.p < 1)) (some true) (cond (decide (5 < m0.p)) (some true) (some (decide (7 < ((m0.aw.length : Nat) : Int)))))).bind fun x3 => cond x3 (some false) ((loop (p_impl_MineValid_L0 m0) 0 : O (Unit ⊕ Bool)).bind fun | .inr w => some w | .inl _ => some true)


noncomputable def p_spec_MineValid_L0 (m0 : Mine) (k6 : Int) : O (Lp Int (Unit ⊕ Bool)) := cond (decide (k6 < ((m0.aw.length : Nat) : Int))) (idx m0.aw.length k6 fun j12 => (p_spec_l1In ((gx m0.aw j12).f) 0 (w64 (m0.p - 1))).bind fun v15 => cond (!v15) (some (.out (.inr false))) ((p_spec_l1In ((gx m0.aw j12).t) 0 (w64 (m0.p - 1))).bind fun v19 => cond (!v19) (some (.out (.inr false))) (cond (((gx m0.aw j12).f) == ((gx m0.aw j12).t)) (some (.out (.inr false))) ((p_spec_l1In ((gx m0.aw j12).w) 1 6).bind fun v24 => cond (!v24) (some (.out (.inr false))) (some (.next (w64 (k6 + 1)))))))) (some (.out (.inl ())))
noncomputable def p_spec_MineValid (m0 : Mine) : O (Bool) := (loop (p_spec_MineValid_L0 m0) 0 : O (Unit ⊕ Bool)).bind fun | .inr w => some w | .inl _ => (p_spec_l1In m0.p 1 5).bind fun v31 => cond v31 (some (decide (((m0.aw.length : Nat) : Int) ≤ 7))) (some false)


noncomputable def p_impl_squareOf_L0 (many0 : Int) (j2 : Nat) (z : Int × List (List Int)) : O (Lp (Int × List (List Int)) (List (List Int))) := match z with | (x9, m10) => cond (decide (x9 < ((j2 : Nat) : Int))) (sized many0 fun j18 => idx j2 x9 fun j20 => some (.next (w64 (x9 + 1), m10.set j20 (List.replicate j18 0)))) (some (.out m10))
noncomputable def p_impl_squareOf (many0 : Int) : O (List (List Int)) := sized many0 fun j2 => (loop (p_impl_squareOf_L0 many0 j2) (0, List.replicate j2 ([] : List Int))).bind fun m5 => some m5


noncomputable def p_impl_addLink (m0 : List (List Int)) (a0 : Int) (b0 : Int) (weight0 : Int) : O (List (List Int)) := (cond (decide (0 < a0)) (idx m0.length (w64 (a0 - 1)) fun j7 => idx ((gx m0 j7).length) (w64 (a0 - 1)) fun j8 => some (m0.set j7 ((gx m0 j7).set j8 (w64 ((gx (gx m0 j7) j8) + weight0))))) (some m0)).bind fun m2 => (cond (decide (0 < b0)) (idx m0.length (w64 (b0 - 1)) fun j20 => idx ((gx m2 j20).length) (w64 (b0 - 1)) fun j21 => some (m2.set j20 ((gx m2 j20).set j21 (w64 ((gx (gx m2 j20) j21) + weight0))))) (some m2)).bind fun m15 => (cond (decide (0 < a0)) (some (decide (0 < b0))) (some false)).bind fun x28 => cond x28 (idx m0.length (w64 (a0 - 1)) fun j38 => idx ((gx m15 j38).length) (w64 (b0 - 1)) fun j39 => idx m0.length (w64 (b0 - 1)) fun j41 => idx ((gx (m15.set j38 ((gx m15 j38).set j39 (w64 ((gx (gx m15 j38) j39) - weight0)))) j41).length) (w64 (a0 - 1)) fun j42 => some ((m15.set j38 ((gx m15 j38).set j39 (w64 ((gx (gx m15 j38) j39) - weight0)))).set j41 ((gx (m15.set j38 ((gx m15 j38).set j39 (w64 ((gx (gx m15 j38) j39) - weight0)))) j41).set j42 (w64 ((gx (gx (m15.set j38 ((gx m15 j38).set j39 (w64 ((gx (gx m15 j38) j39) - weight0)))) j41) j42) - weight0))))) (some m15)


noncomputable def p_impl_AirMatrix_L0 (m0 : Mine) (z : Int × List (List Int)) : O (Lp (Int × List (List Int)) (List (List Int))) := match z with | (x16, m17) => cond (decide (x16 < ((m0.aw.length : Nat) : Int))) (idx m0.aw.length x16 fun j25 => (p_impl_addLink m17 ((gx m0.aw j25).f) ((gx m0.aw j25).t) ((gx m0.aw j25).w)).bind fun v28 => some (.next (w64 (x16 + 1), v28))) (some (.out m17))
noncomputable def p_impl_AirMatrix (m0 : Mine) : O (List (List Int)) := (p_impl_MineValid (⟨m0.p, m0.aw⟩ : Mine)).bind fun v5 => cond (!v5) (some ([] : List (List Int))) ((p_impl_squareOf (w64 (m0.p - 1))).bind fun v10 => (loop (p_impl_AirMatrix_L0 m0) (0, v10)).bind fun m12 => some m12)


noncomputable def p_spec_AirMatrix_L1 (m0 : Mine) (a11 : Int) (j30 : Nat) (z : Int × List Int) : O (Lp (Int × List Int) (List Int)) := match z with | (k36, l37) => cond (decide (k36 < ((m0.aw.length : Nat) : Int))) (idx m0.aw.length k36 fun j43 => (cond (((gx m0.aw j43).t) == a11) (some (a11, (gx m0.aw j43).f)) (some ((gx m0.aw j43).f, (gx m0.aw j43).t))).bind fun (from44, to45) => cond (from44 == a11) (idx j30 (w64 (a11 - 1)) fun j54 => idx m0.aw.length k36 fun j55 => cond (decide (0 < to45)) (idx j30 (w64 (to45 - 1)) fun j57 => some (.next (w64 (k36 + 1), (l37.set j54 (w64 ((gx l37 j54) + ((gx m0.aw j55).w)))).set j57 (w64 ((gx (l37.set j54 (w64 ((gx l37 j54) + ((gx m0.aw j55).w)))) j57) - ((gx m0.aw j55).w)))))) (some (.next (w64 (k36 + 1), l37.set j54 (w64 ((gx l37 j54) + ((gx m0.aw j55).w))))))) (some (.next (w64 (k36 + 1), l37)))) (some (.out l37))
noncomputable def p_spec_AirMatrix_L0 (m0 : Mine) (z : List (List Int) × Int) : O (Lp (List (List Int) × Int) (List (List Int))) := match z with | (out10, a11) => (cond (decide (a11 < m0.p)) ((p_spec_MineValid (⟨m0.p, m0.aw⟩ : Mine)).bind fun v24 => some v24) (some false)).bind fun x18 => cond x18 (sized (w64 (m0.p - 1)) fun j30 => (loop (p_spec_AirMatrix_L1 m0 a11 j30) (0, List.replicate j30 0)).bind fun l32 => need (out10.length + 1 ≤ 1073741824) <| some (.next (out10 ++ [l32], w64 (a11 + 1)))) (some (.out out10))
noncomputable def p_spec_AirMatrix (m0 : Mine) : O (List (List Int)) := (loop (p_spec_AirMatrix_L0 m0) (([] : List (List Int)), 1)).bind fun out6 => some out6


end Go.Proofs.YtkedammjdldloaaDoor
