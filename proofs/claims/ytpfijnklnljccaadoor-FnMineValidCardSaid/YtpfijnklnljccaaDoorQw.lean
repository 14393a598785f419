/- Functions of the program as plain partial programs; no condition. -/
import Derived.Test.YtpfijnklnljccaaDoorDa
import Derived.Test.YtpfijnklnljccaaDoorQv
namespace Go.Proofs.YtpfijnklnljccaaDoor
open Go
set_option linter.unusedVariables false
set_option linter.unusedSimpArgs false

noncomputable def p_impl_MineValid_L0 (m0 : Mine) (x16 : Int) : O (Lp Int (Unit ⊕ Bool)) := cond (decide (x16 < ((m0.aw.length : Nat) : Int))) (idx m0.aw.length x16 fun j22 => ((p_impl_isIndex ((gx m0.aw j22).f) m0.p).bind fun v29 => cond (!v29) (some true) ((p_impl_isIndex ((gx m0.aw j22).t) m0.p).bind fun v33 => cond (!v33) (some true) (some (((gx m0.aw j22).f) == ((gx m0.aw j22).t))))).bind fun x24 => cond x24 (some (.out (.inr false))) (cond (decide (((gx m0.aw j22).w) < 1)) (some (.out (.inr false))) (cond (decide (6 < ((gx m0.aw j22).w))) (some (.out (.inr false))) (some (.next (w64 (x16 + 1))))))) (some (.out (.inl ())))
noncomputable def p_impl_MineValid (m0 : Mine) : O (Bool) := (cond (decide (m0.p < 1)) (some true) (cond (decide (5 < m0.p)) (some true) (some (decide (7 < ((m0.aw.length : Nat) : Int)))))).bind fun x3 => cond x3 (some false) ((loop (p_impl_MineValid_L0 m0) 0 : O (Unit ⊕ Bool)).bind fun | .inr w => some w | .inl _ => some true)


noncomputable def p_spec_MineValid_L0 (m0 : Mine) (k6 : Int) : O (Lp Int (Unit ⊕ Bool)) := cond (decide (k6 < ((m0.aw.length : Nat) : Int))) (idx m0.aw.length k6 fun j12 => (p_spec_l1In ((gx m0.aw j12).f) 0 (w64 (m0.p - 1))).bind fun v15 => cond (!v15) (some (.out (.inr false))) ((p_spec_l1In ((gx m0.aw j12).t) 0 (w64 (m0.p - 1))).bind fun v19 => cond (!v19) (some (.out (.inr false))) (cond (((gx m0.aw j12).f) == ((gx m0.aw j12).t)) (some (.out (.inr false))) ((p_spec_l1In ((gx m0.aw j12).w) 1 6).bind fun v24 => cond (!v24) (some (.out (.inr false))) (some (.next (w64 (k6 + 1)))))))) (some (.out (.inl ())))
noncomputable def p_spec_MineValid (m0 : Mine) : O (Bool) := (loop (p_spec_MineValid_L0 m0) 0 : O (Unit ⊕ Bool)).bind fun | .inr w => some w | .inl _ => (p_spec_l1In m0.p 1 5).bind fun v31 => cond v31 (some (decide (((m0.aw.length : Nat) : Int) ≤ 7))) (some false)


end Go.Proofs.YtpfijnklnljccaaDoor
