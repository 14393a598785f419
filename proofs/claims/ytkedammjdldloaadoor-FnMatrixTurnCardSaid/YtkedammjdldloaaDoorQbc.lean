/- Functions of the program as plain partial programs; no condition. -/
import Derived.Test.YtkedammjdldloaaDoorDa
namespace Go.Proofs.YtkedammjdldloaaDoor
open Go
set_option linter.unusedVariables false
set_option linter.unusedSimpArgs false

noncomputable def p_laws_sameInts_L0 (a0 : List Int) (b0 : List Int) (i7 : Int) : O (Lp Int (Unit ⊕ Bool)) := cond (decide (i7 < ((a0.length : Nat) : Int))) (idx a0.length i7 fun j13 => idx b0.length i7 fun j14 => cond ((gx a0 j13) != (gx b0 j14)) (some (.out (.inr false))) (some (.next (w64 (i7 + 1))))) (some (.out (.inl ())))
noncomputable def p_laws_sameInts (a0 : List Int) (b0 : List Int) : O (Bool) := cond (((a0.length : Nat) : Int) != ((b0.length : Nat) : Int)) (some false) ((loop (p_laws_sameInts_L0 a0 b0) 0 : O (Unit ⊕ Bool)).bind fun | .inr w => some w | .inl _ => some true)


noncomputable def p_laws_sameLists_L0 (a0 : List (List Int)) (b0 : List (List Int)) (i7 : Int) : O (Lp Int (Unit ⊕ Bool)) := cond (decide (i7 < ((a0.length : Nat) : Int))) (idx a0.length i7 fun j13 => idx b0.length i7 fun j14 => (p_laws_sameInts (gx a0 j13) (gx b0 j14)).bind fun v16 => cond (!v16) (some (.out (.inr false))) (some (.next (w64 (i7 + 1))))) (some (.out (.inl ())))
noncomputable def p_laws_sameLists (a0 : List (List Int)) (b0 : List (List Int)) : O (Bool) := cond (((a0.length : Nat) : Int) != ((b0.length : Nat) : Int)) (some false) ((loop (p_laws_sameLists_L0 a0 b0) 0 : O (Unit ⊕ Bool)).bind fun | .inr w => some w | .inl _ => some true)


end Go.Proofs.YtkedammjdldloaaDoor
