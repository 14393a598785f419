/- Functions of the program as plain partial programs; no condition. -/
import Derived.Test.YtfgialdcilldiaaDa
import Derived.Test.YtfgialdcilldiaaQx
namespace Go.Proofs.Ytfgialdcilldiaa
open Go
set_option linter.unusedVariables false
set_option linter.unusedSimpArgs false

noncomputable def p_impl_ownParts_L0 (j1 : Nat) (z : Int × List Int) : O (Lp (Int × List Int) (List Int)) := match z with | (x7, l8) => cond (decide (x7 < ((j1 : Nat) : Int))) (idx j1 x7 fun j14 => some (.next (w64 (x7 + 1), l8.set j14 x7))) (some (.out l8))
noncomputable def p_impl_ownParts (many0 : Int) : O (List Int) := sized many0 fun j1 => (loop (p_impl_ownParts_L0 j1) (0, List.replicate j1 0)).bind fun l3 => some l3


noncomputable def p_impl_joinParts_L0 (parts0 : List Int) (j2 : Nat) (j3 : Nat) (z : Int × List Int) : O (Lp (Int × List Int) (List Int)) := match z with | (x9, l10) => cond (decide (x9 < ((parts0.length : Nat) : Int))) (idx parts0.length x9 fun j16 => cond ((gx l10 j16) == (max (gx parts0 j2) (gx parts0 j3))) (some (.next (w64 (x9 + 1), l10.set j16 (min (gx parts0 j2) (gx parts0 j3))))) (some (.next (w64 (x9 + 1), l10)))) (some (.out l10))
noncomputable def p_impl_joinParts (parts0 : List Int) (a0 : Int) (b0 : Int) : O (Bool × List Int) := idx parts0.length a0 fun j2 => idx parts0.length b0 fun j3 => cond ((min (gx parts0 j2) (gx parts0 j3)) == (max (gx parts0 j2) (gx parts0 j3))) (some (false, parts0)) ((loop (p_impl_joinParts_L0 parts0 j2 j3) (0, parts0)).bind fun l5 => some (true, l5))


noncomputable def p_spec_l1All_L0 (n0 : Int) (z : List Int × Int) : O (Lp (List Int × Int) (List Int)) := match z with | (out6, k7) => cond (decide (k7 < n0)) (need (out6.length + ([k7] : List Int).length ≤ 1073741824) <| some (.next (out6 ++ ([k7] : List Int), w64 (k7 + 1)))) (some (.out out6))
noncomputable def p_spec_l1All (n0 : Int) : O (List Int) := (loop (p_spec_l1All_L0 n0) (([] : List Int), 0)).bind fun out2 => some out2


noncomputable def p_spec_l4Parts_L1 (v7 : List Int) (l14 : List Int) (j22 : Nat) (j23 : Nat) (z : Int × List Int) : O (Lp (Int × List Int) (List Int)) := match z with | (k28, l29) => cond (decide (k28 < ((v7.length : Nat) : Int))) (idx v7.length k28 fun j35 => cond ((gx l29 j35) == (max (gx l14 j22) (gx l14 j23))) (some (.next (w64 (k28 + 1), l29.set j35 (min (gx l14 j22) (gx l14 j23))))) (some (.next (w64 (k28 + 1), l29)))) (some (.out l29))
noncomputable def p_spec_l4Parts_L0 (c0 : Cave) (use0 : List Int) (v7 : List Int) (z : Int × List Int) : O (Lp (Int × List Int) (List Int)) := match z with | (n13, l14) => cond (decide (n13 < ((use0.length : Nat) : Int))) (idx use0.length n13 fun j20 => idx c0.si.length (gx use0 j20) fun j21 => idx v7.length ((gx c0.si j21).a) fun j22 => idx v7.length ((gx c0.si j21).b) fun j23 => (loop (p_spec_l4Parts_L1 v7 l14 j22 j23) (0, l14)).bind fun l24 => some (.next (w64 (n13 + 1), l24))) (some (.out l14))
noncomputable def p_spec_l4Parts (c0 : Cave) (use0 : List Int) : O (List Int) := (p_spec_l1All ((c0.fl.length : Nat) : Int)).bind fun v7 => (loop (p_spec_l4Parts_L0 c0 use0 v7) (0, v7)).bind fun l9 => some l9


end Go.Proofs.Ytfgialdcilldiaa
