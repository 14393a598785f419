/- Functions of the program as plain partial programs; no condition. -/
import Derived.Test.YtfgialdcilldiaaDa
namespace Go.Proofs.Ytfgialdcilldiaa
open Go
set_option linter.unusedVariables false
set_option linter.unusedSimpArgs false

noncomputable def p_laws_szSillS (a0 : List Sill) (left0 : Int) : O (Int) := cond (decide ((w64 (left0 - ((a0.length : Nat) : Int))) < 0)) (some (-1)) (some (w64 (left0 - ((a0.length : Nat) : Int))))


noncomputable def p_laws_toSill (a0 : Sill) : O (Sill) := some (⟨a0.a, a0.b, a0.high⟩ : Sill)


noncomputable def p_laws_toSillS_L0 (a0 : List Sill) (j2 : Nat) (z : Int × List Sill) : O (Lp (Int × List Sill) (List Sill)) := match z with | (i8, l9) => cond (decide (i8 < ((a0.length : Nat) : Int))) (idx a0.length i8 fun j15 => (p_laws_toSill (gx a0 j15)).bind fun v17 => idx j2 i8 fun j19 => some (.next (w64 (i8 + 1), l9.set j19 v17))) (some (.out l9))
noncomputable def p_laws_toSillS (a0 : List Sill) : O (List Sill) := sized ((a0.length : Nat) : Int) fun j2 => (loop (p_laws_toSillS_L0 a0 j2) (0, List.replicate j2 (⟨0, 0, 0⟩ : Sill))).bind fun l4 => some l4


noncomputable def p_laws_eqSill (a0 : Sill) (b0 : Sill) : O (Bool) := cond (a0.a != b0.a) (some false) (cond (a0.b != b0.b) (some false) (cond (a0.high != b0.high) (some false) (some true)))


noncomputable def p_laws_eqSillS_L0 (a0 : List Sill) (b0 : List Sill) (i7 : Int) : O (Lp Int (Unit ⊕ Bool)) := cond (decide (i7 < ((a0.length : Nat) : Int))) (idx a0.length i7 fun j13 => idx b0.length i7 fun j14 => (p_laws_eqSill (gx a0 j13) (gx b0 j14)).bind fun v16 => cond (!v16) (some (.out (.inr false))) (some (.next (w64 (i7 + 1))))) (some (.out (.inl ())))
noncomputable def p_laws_eqSillS (a0 : List Sill) (b0 : List Sill) : O (Bool) := cond (((a0.length : Nat) : Int) != ((b0.length : Nat) : Int)) (some false) ((loop (p_laws_eqSillS_L0 a0 b0) 0 : O (Unit ⊕ Bool)).bind fun | .inr w => some w | .inl _ => some true)


noncomputable def p_laws_markSillS_L0 (a0 : List Sill) (z : Int × Int × List Sill) : O (Lp (Int × Int × List Sill) (Int × List Sill)) := match z with | (k7, i8, l9) => cond (decide (i8 < ((a0.length : Nat) : Int))) (idx a0.length i8 fun j15 => some (.next (w64 ((w64 ((w64 (k7 + 1)) + 1)) + 1), w64 (i8 + 1), ((l9.set j15 { gx l9 j15 with a := k7 }).set j15 { gx (l9.set j15 { gx l9 j15 with a := k7 }) j15 with b := w64 (k7 + 1) }).set j15 { gx ((l9.set j15 { gx l9 j15 with a := k7 }).set j15 { gx (l9.set j15 { gx l9 j15 with a := k7 }) j15 with b := w64 (k7 + 1) }) j15 with high := w64 ((w64 (k7 + 1)) + 1) }))) (some (.out (k7, l9)))
noncomputable def p_laws_markSillS (a0 : List Sill) (k0 : Int) : O (Int × List Sill) := (loop (p_laws_markSillS_L0 a0) (k0, 0, a0)).bind fun (k2, l3) => some (k2, l3)


end Go.Proofs.Ytfgialdcilldiaa
