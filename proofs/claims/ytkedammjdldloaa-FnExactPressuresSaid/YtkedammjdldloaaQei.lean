/- Functions of the program as plain partial programs; no condition. -/
import Derived.Test.YtkedammjdldloaaDa
namespace Go.Proofs.Ytkedammjdldloaa
open Go
set_option linter.unusedVariables false
set_option linter.unusedSimpArgs false

noncomputable def p_laws_toIntS_L0 (a0 : List Int) (j2 : Nat) (z : Int × List Int) : O (Lp (Int × List Int) (List Int)) := match z with | (i8, l9) => cond (decide (i8 < ((a0.length : Nat) : Int))) (idx a0.length i8 fun j15 => idx j2 i8 fun j16 => some (.next (w64 (i8 + 1), l9.set j16 (gx a0 j15)))) (some (.out l9))
noncomputable def p_laws_toIntS (a0 : List Int) : O (List Int) := sized ((a0.length : Nat) : Int) fun j2 => (loop (p_laws_toIntS_L0 a0 j2) (0, List.replicate j2 0)).bind fun l4 => some l4


noncomputable def p_laws_eqIntS_L0 (a0 : List Int) (b0 : List Int) (i7 : Int) : O (Lp Int (Unit ⊕ Bool)) := cond (decide (i7 < ((a0.length : Nat) : Int))) (idx a0.length i7 fun j13 => idx b0.length i7 fun j14 => cond ((gx a0 j13) != (gx b0 j14)) (some (.out (.inr false))) (some (.next (w64 (i7 + 1))))) (some (.out (.inl ())))
noncomputable def p_laws_eqIntS (a0 : List Int) (b0 : List Int) : O (Bool) := cond (((a0.length : Nat) : Int) != ((b0.length : Nat) : Int)) (some false) ((loop (p_laws_eqIntS_L0 a0 b0) 0 : O (Unit ⊕ Bool)).bind fun | .inr w => some w | .inl _ => some true)


noncomputable def p_laws_markIntS_L0 (a0 : List Int) (z : Int × Int × List Int) : O (Lp (Int × Int × List Int) (Int × List Int)) := match z with | (k7, i8, l9) => cond (decide (i8 < ((a0.length : Nat) : Int))) (idx a0.length i8 fun j15 => some (.next (w64 (k7 + 1), w64 (i8 + 1), l9.set j15 k7))) (some (.out (k7, l9)))
noncomputable def p_laws_markIntS (a0 : List Int) (k0 : Int) : O (Int × List Int) := (loop (p_laws_markIntS_L0 a0) (k0, 0, a0)).bind fun (k2, l3) => some (k2, l3)


noncomputable def p_laws_heldIntS_L0 (a0 : List Int) (z : Int × Int) : O (Lp (Int × Int) (Int ⊕ Int)) := match z with | (k6, i7) => cond (decide (i7 < ((a0.length : Nat) : Int))) (idx a0.length i7 fun j13 => cond ((gx a0 j13) != k6) (some (.out (.inr (-1)))) (some (.next (w64 (k6 + 1), w64 (i7 + 1))))) (some (.out (.inl k6)))
noncomputable def p_laws_heldIntS (a0 : List Int) (k0 : Int) : O (Int) := (loop (p_laws_heldIntS_L0 a0) (k0, 0) : O (Int ⊕ Int)).bind fun | .inr w => some w | .inl k2 => some k2


end Go.Proofs.Ytkedammjdldloaa
