/- Functions of the program as plain partial programs; no condition. -/
import Derived.Test.YtkedammjdldloaaDa
import Derived.Test.YtkedammjdldloaaQei
namespace Go.Proofs.Ytkedammjdldloaa
open Go
set_option linter.unusedVariables false
set_option linter.unusedSimpArgs false

noncomputable def p_laws_eqIntSS_L0 (a0 : List (List Int)) (b0 : List (List Int)) (i7 : Int) : O (Lp Int (Unit ⊕ Bool)) := cond (decide (i7 < ((a0.length : Nat) : Int))) (idx a0.length i7 fun j13 => idx b0.length i7 fun j14 => (p_laws_eqIntS (gx a0 j13) (gx b0 j14)).bind fun v16 => cond (!v16) (some (.out (.inr false))) (some (.next (w64 (i7 + 1))))) (some (.out (.inl ())))
noncomputable def p_laws_eqIntSS (a0 : List (List Int)) (b0 : List (List Int)) : O (Bool) := cond (((a0.length : Nat) : Int) != ((b0.length : Nat) : Int)) (some false) ((loop (p_laws_eqIntSS_L0 a0 b0) 0 : O (Unit ⊕ Bool)).bind fun | .inr w => some w | .inl _ => some true)


noncomputable def p_laws_markIntSS_L0 (a0 : List (List Int)) (z : Int × Int × List (List Int)) : O (Lp (Int × Int × List (List Int)) (Int × List (List Int))) := match z with | (k7, i8, m9) => cond (decide (i8 < ((a0.length : Nat) : Int))) (idx a0.length i8 fun j17 => (p_laws_markIntS (gx m9 j17) k7).bind fun (v19, v20) => some (.next (v19, w64 (i8 + 1), m9.set j17 v20))) (some (.out (k7, m9)))
noncomputable def p_laws_markIntSS (a0 : List (List Int)) (k0 : Int) : O (Int × List (List Int)) := (loop (p_laws_markIntSS_L0 a0) (k0, 0, a0)).bind fun (k2, m3) => some (k2, m3)


noncomputable def p_laws_heldIntSS_L0 (a0 : List (List Int)) (z : Int × Int) : O (Lp (Int × Int) (Int ⊕ Int)) := match z with | (k6, i7) => cond (decide (i7 < ((a0.length : Nat) : Int))) (idx a0.length i7 fun j13 => (p_laws_heldIntS (gx a0 j13) k6).bind fun v15 => cond (decide (v15 < 0)) (some (.out (.inr (-1)))) (some (.next (v15, w64 (i7 + 1))))) (some (.out (.inl k6)))
noncomputable def p_laws_heldIntSS (a0 : List (List Int)) (k0 : Int) : O (Int) := (loop (p_laws_heldIntSS_L0 a0) (k0, 0) : O (Int ⊕ Int)).bind fun | .inr w => some w | .inl k2 => some k2


end Go.Proofs.Ytkedammjdldloaa
