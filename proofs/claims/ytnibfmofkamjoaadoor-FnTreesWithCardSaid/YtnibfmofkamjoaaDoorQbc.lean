/- Functions of the program as plain partial programs; no condition. -/
import Derived.Test.YtnibfmofkamjoaaDoorDa
namespace Go.Proofs.YtnibfmofkamjoaaDoor
open Go
set_option linter.unusedVariables false
set_option linter.unusedSimpArgs false

noncomputable def p_laws_sameInts_L0 (a0 : List Int) (b0 : List Int) (i7 : Int) : O (Lp Int (Unit ⊕ Bool)) := cond (decide (i7 < ((a0.length : Nat) : Int))) (idx a0.length i7 fun j13 => idx b0.length i7 fun j14 => cond ((gx a0 j13) != (gx b0 j14)) (some (.out (.inr false))) (some (.next (w64 (i7 + 1))))) (some (.out (.inl ())))
noncomputable def p_laws_sameInts (a0 : List Int) (b0 : List Int) : O (Bool) := cond (((a0.length : Nat) : Int) != ((b0.length : Nat) : Int)) (some false) ((loop (p_laws_sameInts_L0 a0 b0) 0 : O (Unit ⊕ Bool)).bind fun | .inr w => some w | .inl _ => some true)


noncomputable def p_laws_sameLists_L0 (a0 : List (List Int)) (b0 : List (List Int)) (i7 : Int) : O (Lp Int (Unit ⊕ Bool)) := cond (decide (i7 < ((a0.length : Nat) : Int))) (idx a0.length i7 fun j13 => idx b0.length i7 fun j14 => (p_laws_sameInts (gx a0 j13) (gx b0 j14)).bind fun v16 => cond (!v16) (some (.out (.inr false))) (some (.next (w64 (i7 + 1))))) (some (.out (.inl ())))
noncomputable def p_laws_sameLists (a0 : List (List Int)) (b0 : List (List Int)) : O (Bool) := cond (((a0.length : Nat) : Int) != ((b0.length : Nat) : Int)) (some false) ((loop (p_laws_sameLists_L0 a0 b0) 0 : O (Unit ⊕ Bool)).bind fun | .inr w => some w | .inl _ => some true)


noncomputable def p_laws_sameFix_L0 (a0 : Fix) (b0 : Fix) (i17 : Int) : O (Lp Int (Unit ⊕ Bool)) := cond (decide (i17 < ((a0.nums.length : Nat) : Int))) (idx a0.nums.length i17 fun j23 => idx b0.nums.length i17 fun j24 => cond (!((((gx a0.nums j23).e) == ((gx b0.nums j24).e)) && (((gx a0.nums j23).n) == ((gx b0.nums j24).n)) && (((gx a0.nums j23).u) == ((gx b0.nums j24).u)))) (some (.out (.inr false))) (some (.next (w64 (i17 + 1))))) (some (.out (.inl ())))
noncomputable def p_laws_sameFix (a0 : Fix) (b0 : Fix) : O (Bool) := (cond (a0.den != b0.den) (some true) (some (((a0.nums.length : Nat) : Int) != ((b0.nums.length : Nat) : Int)))).bind fun x5 => cond x5 (some false) ((loop (p_laws_sameFix_L0 a0 b0) 0 : O (Unit ⊕ Bool)).bind fun | .inr w => some w | .inl _ => some true)


noncomputable def p_laws_copyRows_L0 (m0 : List (List Int)) (z : List (List Int) × Int) : O (Lp (List (List Int) × Int) (List (List Int))) := match z with | (out9, i10) => cond (decide (i10 < ((m0.length : Nat) : Int))) (idx m0.length i10 fun j19 => need (([] : List Int).length + (gx m0 j19).length ≤ 1073741824) <| need (out9.length + 1 ≤ 1073741824) <| some (.next (out9 ++ [([] : List Int) ++ (gx m0 j19)], w64 (i10 + 1)))) (some (.out out9))
noncomputable def p_laws_copyRows (m0 : List (List Int)) : O (List (List Int)) := (loop (p_laws_copyRows_L0 m0) (([] : List (List Int)), 0)).bind fun out5 => some out5


end Go.Proofs.YtnibfmofkamjoaaDoor
