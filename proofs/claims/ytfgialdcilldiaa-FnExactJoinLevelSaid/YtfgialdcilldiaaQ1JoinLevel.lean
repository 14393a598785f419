/- Functions of the program as plain partial programs; no condition. -/
import Derived.Test.YtfgialdcilldiaaDa
import Derived.Test.YtfgialdcilldiaaQc
import Derived.Test.YtfgialdcilldiaaQp
import Derived.Test.YtfgialdcilldiaaQi
import Derived.Test.YtfgialdcilldiaaQ1PoolsAt
namespace Go.Proofs.Ytfgialdcilldiaa
open Go
set_option linter.unusedVariables false
set_option linter.unusedSimpArgs false

noncomputable def p_impl_JoinLevel_L0 (c0 : Cave) (a0 : Int) (b0 : Int) (x28 : Int) : O (Lp Int (Unit ⊕ Int)) := cond (decide (x28 < 41)) ((p_impl_PoolsAt (⟨c0.fl, c0.ar, c0.si⟩ : Cave) x28).bind fun v35 => idx v35.length a0 fun j37 => idx v35.length b0 fun j38 => cond ((gx v35 j37) == (gx v35 j38)) (some (.out (.inr x28))) (some (.next (w64 (x28 + 1))))) (some (.out (.inl ())))
noncomputable def p_impl_JoinLevel (c0 : Cave) (a0 : Int) (b0 : Int) : O (Int) := ((p_impl_CaveValid (⟨c0.fl, c0.ar, c0.si⟩ : Cave)).bind fun v10 => cond (!v10) (some true) ((p_impl_isIndex a0 ((c0.fl.length : Nat) : Int)).bind fun v14 => cond (!v14) (some true) ((p_impl_isIndex b0 ((c0.fl.length : Nat) : Int)).bind fun v18 => some (!v18)))).bind fun x5 => cond x5 (some (-1)) (cond (a0 == b0) (some 0) ((loop (p_impl_JoinLevel_L0 c0 a0 b0) 0 : O (Unit ⊕ Int)).bind fun | .inr w => some w | .inl _ => some (-1)))


noncomputable def p_spec_JoinLevel_L0 (c0 : Cave) (a0 : Int) (b0 : Int) (level27 : Int) : O (Lp Int (Unit ⊕ Int)) := cond (decide (level27 ≤ 40)) ((p_spec_PoolsAt (⟨c0.fl, c0.ar, c0.si⟩ : Cave) level27).bind fun v34 => idx v34.length a0 fun j36 => idx v34.length b0 fun j37 => cond ((gx v34 j36) == (gx v34 j37)) (some (.out (.inr level27))) (some (.next (w64 (level27 + 1))))) (some (.out (.inl ())))
noncomputable def p_spec_JoinLevel (c0 : Cave) (a0 : Int) (b0 : Int) : O (Int) := ((p_spec_CaveValid (⟨c0.fl, c0.ar, c0.si⟩ : Cave)).bind fun v10 => cond (!v10) (some true) ((p_spec_l1In a0 0 (w64 (((c0.fl.length : Nat) : Int) - 1))).bind fun v14 => cond (!v14) (some true) ((p_spec_l1In b0 0 (w64 (((c0.fl.length : Nat) : Int) - 1))).bind fun v18 => some (!v18)))).bind fun x5 => cond x5 (some (-1)) ((loop (p_spec_JoinLevel_L0 c0 a0 b0) 0 : O (Unit ⊕ Int)).bind fun | .inr w => some w | .inl _ => some (-1))


noncomputable def p_laws_FnExactJoinLevel (aC0 : Cave) (aA0 : Int) (aB0 : Int) : O (Bool) := (p_laws_szCave (⟨aC0.fl, aC0.ar, aC0.si⟩ : Cave) 1048576).bind fun v6 => cond (decide (v6 < 0)) (some true) ((p_laws_toCave (⟨aC0.fl, aC0.ar, aC0.si⟩ : Cave)).bind fun v10 => (p_spec_JoinLevel v10 aA0 aB0).bind fun v13 => (p_laws_toCave (⟨aC0.fl, aC0.ar, aC0.si⟩ : Cave)).bind fun v16 => (p_impl_JoinLevel (⟨v16.fl, v16.ar, v16.si⟩ : Cave) aA0 aB0).bind fun v20 => cond (v20 != v13) (some false) ((p_laws_toCave (⟨aC0.fl, aC0.ar, aC0.si⟩ : Cave)).bind fun v24 => (p_laws_eqCave (⟨v16.fl, v16.ar, v16.si⟩ : Cave) v24).bind fun v27 => cond (!v27) (some false) (some true)))


end Go.Proofs.Ytfgialdcilldiaa
